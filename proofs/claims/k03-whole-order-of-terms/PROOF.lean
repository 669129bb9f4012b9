import PyProof.Rows.All
import Wide.All
import OpenK.AllK
import Wide.FinOn
import HandS.ForMost
import HandS.IsInst
import HandS.TupAny
import HandS.Style
import HandS.Wide
import HandS.Defaults
import HandS.Conv
import KE.SortKeyHeap
import HandS.Keys
import HandS.SortKw
import PyProof.TupleOfSeq
import KE.DataCmp
import KE.DataFind
import PyProof.P3In
import PySem.Challenge.RW_hornmill_k03_whole_order_of_terms
import HandS.Zip
set_option Elab.async false
set_option linter.all false
set_option maxRecDepth 100000
set_option maxHeartbeats 4000000
namespace HM
open PySem PySem.Spec PyProof.Rows L2
/-! ### defs of the text by name -/
def Gd (K : PySem.W.Frag) (mg : Str → Option Value) (x : Str) (st : Stmt) : Prop := ∃ f fd, Fun K x x st f fd ∧ mg x = some (.ref f)
def Okf (P : Program) (w : World) (K : PySem.W.Frag) (mg : Str → Option Value) (base : Heap) (x : Str) (k : Nat) (ps : List Str) (ds : List V) (sp : Sp) : Prop :=
  ∃ f fd us, mg x = some (.ref f) ∧ PySem.W.keepIn K (.ref f) = true ∧ Vals ds us ∧ Binds K fd ps us ∧ (∃ o, K.lookup f = some o ∧ o.data = .func fd) ∧ FnOk P w K mg base CX0 k f fd ps sp
theorem Fun.lkd {K : PySem.W.Frag} {x q : Str} {st : Stmt} {f : Addr} {fd : FuncData} (F : Fun K x q st f fd) : ∃ o, K.lookup f = some o ∧ o.data = .func fd := by
  obtain ⟨_, _, _, _, _, _, _, _, _, _, h, _⟩ := F.ex
  exact ⟨_, h, rfl⟩
theorem Okf.mono {P : Program} {w : World} {K : PySem.W.Frag} {mg : Str → Option Value} {base : Heap} {x : Str} {j k : Nat} {ps : List Str} {ds : List V} {sp : Sp} (O : Okf P w K mg base x j ps ds sp) (h : j ≤ k) : Okf P w K mg base x k ps ds sp := by
  obtain ⟨f, fd, us, a, b, c, d, l, e⟩ := O
  exact ⟨f, fd, us, a, b, c, d, l, e.mono h⟩
theorem okf_mk {P : Program} {w : World} {K : PySem.W.Frag} {mg : Str → Option Value} {base : Heap} {x : Str} {st : Stmt} {N ps : List Str} {k : Nat} {sp : Sp} (G : Gd K mg x st) (S : FnScope N ps (defScope st))
    (hb : ∀ (kV doc pm : Value) (an : Option Addr) (cdv ct : Value) (us : List Value), us.length = ps.length → bindArgs (PySem.W.fnOf x x (defArgs st) (defBody st) (defScope st) .none kV doc pm an cdv ct) ⟨us, []⟩ = pure (ps.zip us))
    (len : ∀ vs H Q E, sp vs H Q E → vs.length = ps.length)
    (hbody : ∀ {f : Addr} (cdv : Value) (A : Around) (outer : List Env) (s : Shared) (H : Hp) (vs : List V) (Q : VK) (E : XK), Room k (A.deeper (envOfC x (defScope st) s.heap.objs.size f cdv)) → sp vs H Q E →
      ∃ t, PSs (cxOf CX0 P w K mg base N x (defScope st) f cdv A outer s H E).nox (defBody st) t ∧ t { nx := fun _ H' => Q .non H', rt := Q } (start N vs) H) : Okf P w K mg base x (k + 1) ps [] sp := by
  obtain ⟨f, fd, F, g⟩ := G
  exact ⟨f, fd, [], g, F.kp, .nil, F.binds hb, Fun.lkd F, F.ok S len fun cdv A outer s H vs Q E hr h => hbody cdv A outer s H vs Q E hr h⟩
/-- the law's own def: out of its promise at every base -/
theorem okf_end {P : Program} {w : World} {K : PySem.W.Frag} {mg : Str → Option Value} {f : Addr} {fd : FuncData} {x : Str} {k : Nat} {ps : List Str} {sp : Sp} {base : Heap} (O : Okf P w K mg base x k ps [] sp) (hm : mg x = some (.ref f)) (hl : ∃ o, K.lookup f = some o ∧ o.data = .func fd) : FnOk P w K mg base CX0 k f fd ps sp := by
  obtain ⟨f', fd', us, a, b, c, d, ⟨o', l1, l2⟩, F⟩ := O
  obtain ⟨o, h1, h2⟩ := hl
  have e := hm.symm.trans a
  cases e
  have e := h1.symm.trans l1
  cases e
  have e := h2.symm.trans l2
  cases e
  exact F
section
variable {X : Cx} {x : Str} {k : Nat} {ps : List Str} {ds : List V} {sp : Sp} {e : Expr} {es : List Expr} {t : TA} {p pos : Pos}
theorem pe_callO (O : Okf X.prog X.w X.K X.mg X.base x k ps ds sp) (hr : Room k X.A) (hg : Gl X x) (ha : PA X (e :: es) t) (hdb : (x == ("__debug__" : Str)) = false := by decide)
    (he : starEach (e :: es) X.env = (false, eval e X.env) :: starEach es X.env := by rfl) (hpl : (backTo pos (starEach es X.env)).any (·.1) = false := by rfl) :
    PE X (.Call (.Name x p) (e :: es) [] pos) (tCall sp ds E0 t) := by
  obtain ⟨f, fd, us, hm, hk, hd, hb, _, F⟩ := O
  exact pe_call F hr hg hm hk hb hd pass0 ha hdb he hpl
theorem pe_callO0 (O : Okf X.prog X.w X.K X.mg X.base x k ps ds sp) (hr : Room k X.A) (hg : Gl X x) (hdb : (x == ("__debug__" : Str)) = false := by decide) :
    PE X (.Call (.Name x p) [] [] pos) (tCall sp ds E0 tNil) := by
  obtain ⟨f, fd, us, hm, hk, hd, hb, _, F⟩ := O
  exact pe_call0 F hr hg hm hk hb hd pass0 hdb
end
theorem pe_globI {X : Cx} {x : Str} {n : Int} {pos : Pos} (hg : Gl X x) (hm : ∃ t, X.mg x = some (.int n t)) (hd : (x == ("__debug__" : Str)) = false := by decide) : PE X (.Name x pos) (tC (.int n)) := by
  obtain ⟨t, e⟩ := hm
  exact pe_glob (v := .int n) hg e ⟨t, rfl⟩ hd
theorem pe_globS {X : Cx} {x z : Str} {pos : Pos} (hg : Gl X x) (hm : ∃ t, X.mg x = some (.str z t)) (hd : (x == ("__debug__" : Str)) = false := by decide) : PE X (.Name x pos) (tC (.str z)) := by
  obtain ⟨t, e⟩ := hm
  exact pe_glob (v := .str z) hg e ⟨t, rfl⟩ hd
/-! ### heaps -/
theorem same_upd {H : Hp} {p : Addr} {o : HO} (h : H p = none) : Same H (upd H p o) := fun b x e => by
  rw [upd_ne (ne_of_none e h)]
  exact e
/-- an object that H does not know may change -/
theorem Same.mut {H H' : Hp} {p : Addr} {o : HO} (e : Same H H') (h : H p = none) : Same H (upd H' p o) := fun a u ha => by
  rw [upd_ne (ne_of_none ha h)]
  exact e a u ha
theorem Same.sqT {K : PySem.W.Frag} {H H' : Hp} {a : Addr} {xs : List V} (e : Same H H') (h : SqT K H a xs) : SqT K H' a xs := by
  rcases h with (h | ⟨o, h⟩) | h
  · exact .inl (.inl (e _ _ h))
  · exact .inl (.inr ⟨o, e _ _ h⟩)
  · exact .inr h
mutual
theorem Dp.same {K : PySem.W.Frag} {H H' : Hp} (e : Same H H') : ∀ (d : PyData) (v : V), Dp K H v d → Dp K H' v d
  | .none, _, h => by cases h; exact .non
  | .bool b, _, h => by cases h; exact .bl b
  | .int i, _, h => by cases h; exact .int i
  | .str x, _, h => by cases h; exact .str x
  | .list ds, _, h => by cases h with | lst hs ha => exact .lst (e.seq hs) (DpAll.same e ds _ ha)
  | .tuple ds, _, h => by cases h with | tup hs ha => exact .tup (Same.sqT e hs) (DpAll.same e ds _ ha)
  | .dict _, _, h => by cases h
theorem DpAll.same {K : PySem.W.Frag} {H H' : Hp} (e : Same H H') : ∀ (ds : List PyData) (vs : List V), DpAll K H vs ds → DpAll K H' vs ds
  | [], _, h => by cases h; exact .nil
  | d :: ds, _, h => by cases h with | cons h1 h2 => exact .cons (Dp.same e d _ h1) (DpAll.same e ds _ h2)
end
theorem DpAll.length {K : PySem.W.Frag} {H : Hp} : ∀ {vs : List V} {ds : List PyData}, DpAll K H vs ds → vs.length = ds.length
  | _, _, .nil => rfl
  | _, _, .cons _ t => congrArg Nat.succ (DpAll.length t)
theorem DpAll.get {K : PySem.W.Frag} {H : Hp} : ∀ {vs : List V} {ds : List PyData} {i : Nat} {d : PyData}, DpAll K H vs ds → ds[i]? = some d → ∃ v, vs[i]? = some v ∧ Dp K H v d
  | _, _, _, _, .nil, e => by simp at e
  | _, _, 0, _, .cons r _, e => by simp at e; subst e; exact ⟨_, rfl, r⟩
  | _, _, i + 1, d, .cons _ t, e => by
    obtain ⟨u, h1, h2⟩ := DpAll.get (i := i) (d := d) t (by simpa using e)
    exact ⟨u, by simpa using h1, h2⟩
theorem DpAll.append {K : PySem.W.Frag} {H : Hp} : ∀ {vs ws : List V} {ds es : List PyData}, DpAll K H vs ds → DpAll K H ws es → DpAll K H (vs ++ ws) (ds ++ es)
  | _, _, _, _, .nil, s => s
  | _, _, _, _, .cons r t, s => .cons r (DpAll.append t s)
theorem DpAll.reverse {K : PySem.W.Frag} {H : Hp} : ∀ {vs : List V} {ds : List PyData}, DpAll K H vs ds → DpAll K H vs.reverse ds.reverse
  | _, _, .nil => .nil
  | _, _, .cons r t => by
    rw [List.reverse_cons, List.reverse_cons]
    exact DpAll.append (DpAll.reverse t) (.cons r .nil)
theorem DpAll.split {K : PySem.W.Frag} {H : Hp} : ∀ {ds es : List PyData} {vs : List V}, DpAll K H vs (ds ++ es) → ∃ us ws, vs = us ++ ws ∧ DpAll K H us ds ∧ DpAll K H ws es
  | [], _, vs, h => ⟨[], vs, rfl, .nil, h⟩
  | d :: ds, es, _, h => by
    cases h with
    | cons h1 h2 =>
      obtain ⟨us, ws, rfl, a, b⟩ := DpAll.split (ds := ds) h2
      exact ⟨_ :: us, ws, rfl, .cons h1 a, b⟩
/-! ### isinstance by data -/
def isTy (n : String) : PyData → Option Bool
  | .none => kitB "NoneType" n
  | .bool _ => kitB "bool" n
  | .int _ => kitB "int" n
  | .str _ => kitB "str" n
  | .list _ => kitB "list" n
  | .tuple _ => kitB "tuple" n
  | .dict _ => kitB "dict" n
theorem sql_ty {K : PySem.W.Frag} {H : Hp} {a : Addr} {xs : List V} (h : SqL K H a xs) : TyX K H (.ref a) (.type "list") := by
  rcases h with (h | ⟨o, h⟩) | ⟨o, its, n, h, c, _⟩
  · exact .base (.lst h)
  · exact .base (.frz h)
  · exact .kList h c
theorem sqt_ty {K : PySem.W.Frag} {H : Hp} {a : Addr} {xs : List V} (h : SqT K H a xs) : TyX K H (.ref a) (.type "tuple") := by
  rcases h with (h | ⟨o, h⟩) | ⟨o, its, n, h, c, _⟩
  · exact .base (.tup h)
  · exact .fTuple h
  · exact .kTuple h c
theorem isi_D {K : PySem.W.Frag} {H : Hp} {v : V} {d : PyData} {n : String} {b : Bool} {Q : VK} (hd : Dp K H v d) (e : isTy n d = some b) (h : Q (.bl b) H) : rIsi K [v, .ty n] H Q := by
  cases hd with
  | non => exact ⟨_, _, _, _, b, rfl, .ty n, .base .non, kit_ty e, h⟩
  | bl x => exact ⟨_, _, _, _, b, rfl, .ty n, .base (.bl x), kit_ty e, h⟩
  | int i => exact ⟨_, _, _, _, b, rfl, .ty n, .base (.int i), kit_ty e, h⟩
  | str x => exact ⟨_, _, _, _, b, rfl, .ty n, .base (.str x), kit_ty e, h⟩
  | lst hs _ => exact ⟨_, _, _, _, b, rfl, .ty n, sql_ty hs, kit_ty e, h⟩
  | tup hs _ => exact ⟨_, _, _, _, b, rfl, .ty n, sqt_ty hs, kit_ty e, h⟩
def isI : PyData → Bool | .int _ => true | .bool _ => true | _ => false
def isB : PyData → Bool | .bool _ => true | _ => false
def isS : PyData → Bool | .str _ => true | _ => false
def isT : PyData → Bool | .tuple _ => true | _ => false
def isL : PyData → Bool | .list _ => true | _ => false
theorem isTy_int (d : PyData) : isTy "int" d = some (isI d) := by cases d <;> first | (show kitB _ _ = some true; decide +kernel) | (show kitB _ _ = some false; decide +kernel)
theorem isTy_bool (d : PyData) : isTy "bool" d = some (isB d) := by cases d <;> first | (show kitB _ _ = some true; decide +kernel) | (show kitB _ _ = some false; decide +kernel)
theorem isTy_str (d : PyData) : isTy "str" d = some (isS d) := by cases d <;> first | (show kitB _ _ = some true; decide +kernel) | (show kitB _ _ = some false; decide +kernel)
theorem isTy_tuple (d : PyData) : isTy "tuple" d = some (isT d) := by cases d <;> first | (show kitB _ _ = some true; decide +kernel) | (show kitB _ _ = some false; decide +kernel)
theorem isTy_list (d : PyData) : isTy "list" d = some (isL d) := by cases d <;> first | (show kitB _ _ = some true; decide +kernel) | (show kitB _ _ = some false; decide +kernel)
theorem isi_int {K : PySem.W.Frag} {H : Hp} {v : V} {d : PyData} {Q : VK} (hd : Dp K H v d) (h : Q (.bl (isI d)) H) : rIsi K [v, .ty "int"] H Q := isi_D hd (isTy_int d) h
theorem isi_bool {K : PySem.W.Frag} {H : Hp} {v : V} {d : PyData} {Q : VK} (hd : Dp K H v d) (h : Q (.bl (isB d)) H) : rIsi K [v, .ty "bool"] H Q := isi_D hd (isTy_bool d) h
theorem isi_str {K : PySem.W.Frag} {H : Hp} {v : V} {d : PyData} {Q : VK} (hd : Dp K H v d) (h : Q (.bl (isS d)) H) : rIsi K [v, .ty "str"] H Q := isi_D hd (isTy_str d) h
theorem isi_tuple {K : PySem.W.Frag} {H : Hp} {v : V} {d : PyData} {Q : VK} (hd : Dp K H v d) (h : Q (.bl (isT d)) H) : rIsi K [v, .ty "tuple"] H Q := isi_D hd (isTy_tuple d) h
theorem isi_list {K : PySem.W.Frag} {H : Hp} {v : V} {d : PyData} {Q : VK} (hd : Dp K H v d) (h : Q (.bl (isL d)) H) : rIsi K [v, .ty "list"] H Q := isi_D hd (isTy_list d) h
/-! ### len, as named readings -/
def rLen (K : PySem.W.Frag) : List V → Hp → VK → Prop := fun xs H Q => ∃ p ys, xs = [.ref p] ∧ (SqL K H p ys ∨ SqT K H p ys) ∧ Q (.int ys.length) H
theorem call_lenQ {X : Cx} : CallR X (.builtin "len") (rLen X.K) := call_len_seq
def rLenS : List V → Hp → VK → Prop := fun xs H Q => ∃ z, xs = [.str z] ∧ z.length ≤ sizeLine ∧ Q (.int z.length) H
theorem call_lenS {X : Cx} : CallR X (.builtin "len") rLenS := call_len_str
def rIntI : List V → Hp → VK → Prop := fun xs H Q => ∃ i, xs = [.int i] ∧ Q (.int i) H
def rIntB : List V → Hp → VK → Prop := fun xs H Q => ∃ k, xs = [.bl k] ∧ Q (.int (if k then 1 else 0)) H
def rAbs : List V → Hp → VK → Prop := fun xs H Q => ∃ i, xs = [.int i] ∧ Q (.int (if i < 0 then -i else i)) H
theorem call_intI {X : Cx} : CallR X (.type "int") rIntI := fun pins s σ H xs us Q I r h => call_int1 pins s σ H xs us Q I r (.inl h)
theorem call_intB {X : Cx} : CallR X (.type "int") rIntB := fun pins s σ H xs us Q I r h => call_int1 pins s σ H xs us Q I r (.inr h)
theorem call_absQ {X : Cx} : CallR X (.builtin "abs") rAbs := call_abs
theorem rIntI_eq {i : Int} {H : Hp} {Q : VK} : rIntI [.int i] H Q = Q (.int i) H := propext ⟨fun ⟨j, e, q⟩ => by cases e; exact q, fun q => ⟨i, rfl, q⟩⟩
theorem rIntB_eq {k : Bool} {H : Hp} {Q : VK} : rIntB [.bl k] H Q = Q (.int (if k then 1 else 0)) H := propext ⟨fun ⟨j, e, q⟩ => by cases e; exact q, fun q => ⟨k, rfl, q⟩⟩
theorem rAbs_eq {i : Int} {H : Hp} {Q : VK} : rAbs [.int i] H Q = Q (.int (if i < 0 then -i else i)) H := propext ⟨fun ⟨j, e, q⟩ => by cases e; exact q, fun q => ⟨i, rfl, q⟩⟩
/-! ### a list != [] -/
section
variable {X : Cx}
def rNeNil (K : PySem.W.Frag) : R2 := fun x y H Q => ∃ a b xs, x = .ref a ∧ y = .ref b ∧ SqL K H a xs ∧ SqL K H b [] ∧ Q (.bl (!xs.isEmpty)) H
theorem op_neNil (hu : X.A.units < cLine) : OpR X (compareOp .NotEq) (rNeNil X.K) := by
  intro pins s σ H x y v u Q I rx ry h
  obtain ⟨a, b, xs, rfl, rfl, ha, hb, q⟩ := h
  cases rx
  cases ry
  obtain ⟨its, r1, p1, _⟩ := I.list ha
  obtain ⟨its2, r2, p2, _⟩ := I.list hb
  cases r2
  cases xs with
  | nil =>
    cases r1
    have := SeqAt.RcNeAt.lists (A := X.A) (s := s) (e := fun _ => true) p1.isList p2.isList rfl hu (fun j h1 _ => absurd h1 (Nat.not_lt_zero _))
    exact this X.prog X.w X.xe _ ⟨.bl false, H, I, rfl, q⟩
  | cons c r =>
    cases r1 with
    | cons r3 r4 =>
      have := SeqAt.RcNeAt.lists_lengths (A := X.A) (s := s) p1.isList p2.isList (by simp) hu
      exact this X.prog X.w X.xe _ ⟨.bl true, H, I, rfl, q⟩
/-! ### xs.extend(a tuple) -/
theorem extend_tuple_any (l : Addr) (items : Array Value) (n : Nat) (b : Addr) (items2 : Array Value) (n2 : Nat) (dd : Option Addr) (sl : Array (Option Value)) (hs0 : ¬(!items.isEmpty && Builtin.List.listTooLong (items.size + items2.size)) = true) (hs1 : items.size ≤ sizeLine) (hs2 : items.size + items2.size ≤ sizeLine + 1) :
    Meets (Builtin.«list.extend» ⟨[.ref l, .ref b], []⟩) (fun _ R s => s.heap.get? l = some { cls := .type "list", dict := none, data := .seq items n, slots := #[] } ∧ s.heap.get? b = some { cls := .type "tuple", dict := dd, data := .seq items2 n2, slots := sl } ∧ R (.ok (.ret Value.none)) { s with heap := s.heap.update l (Obj.mapSeq fun x => x ++ items2), toks := s.toks }) :=
  .of_wp fun prog w A R s h => by
    obtain ⟨hp, g, d, tk, os⟩ := s; obtain ⟨hl, hb, h⟩ := h; have f1 := AutoSeq1.idx_int; have f2 := AutoSeq1.sub_tuple_tuple; have f3 := AutoSeq1.sub_list_list; have f4 := AutoSeq1.sub_tuple_list; have f5 := AutoSeq1.sub_list_tuple;
    have hz' : (items ++ items2).size ≤ sizeLine + 1 := by rw [Array.size_append]; exact hs2
    wp_walk using (wpAny_updateSeq hl rfl (hz := hs1) (_hz' := hz')), AutoSeq1.wpAny_loadPart' hl, AutoSeq1.wpAny_loadPart' hb; exact ⟨_, rfl, h⟩
def rExtendT (K : PySem.W.Frag) : V → List V → Hp → VK → Prop := fun x vs H Q => ∃ l b xs zs, x = .ref l ∧ vs = [.ref b] ∧ H l = some (.lst xs) ∧ H b = some (.tup zs) ∧ xs.length + zs.length ≤ sizeLine ∧ Q .non (upd H l (.lst (xs ++ zs)))
theorem mt_extendT : MtM X "list.extend" (rExtendT X.K) := by
  intro pins s σ H x vs v us Q I rx rv h
  obtain ⟨l, b, xs, zs, rfl, rfl, hH, hB, hz, q⟩ := h
  cases rx
  obtain ⟨u, rfl, ru⟩ := rv.one
  cases ru
  obtain ⟨z, its, n, r, hl, e⟩ := I.lstM hH
  obtain ⟨its2, r2, ⟨ob, e2, hc, n2, hd⟩, hl2⟩ := I.tuple (SqT.of hB)
  have hl3 := r2.length
  have hsz : its.toArray.size + its2.toArray.size ≤ sizeLine := by rw [List.size_toArray, List.size_toArray]; omega
  have hlong : ¬ (!its.toArray.isEmpty && Builtin.List.listTooLong (its.toArray.size + its2.toArray.size)) = true := by
    rw [notLongL hsz, Bool.and_false]
    exact Bool.false_ne_true
  obtain ⟨oc, od, dt, sl⟩ := ob
  simp only at hc hd
  subst hc hd
  refine call_meets F.slot_list_extend ⟨_, e, rfl⟩ F.entry_list_extend (F.args_list_extend_2 _ _)
    (extend_tuple_any l its.toArray n b its2.toArray n2 _ _ hlong (by rw [List.size_toArray]; omega) (by omega)) ⟨e, e2, ?_⟩
  refine ⟨.non, _, I.lset (its' := its ++ its2) hH e (by simp) (r.append r2) ?_, rfl, q⟩
  rw [List.length_append]
  omega
/-! ### t[:0:-1] of a tuple -/
theorem rev_cut (xs : List Value) (h : xs ≠ []) : ((List.range (xs.length - 1)).filterMap fun (m : Nat) => xs.toArray[(((xs.length - 1 : Nat) : Int) + (m : Int) * (-1)).toNat]?) = (xs.drop 1).reverse := by
  apply List.ext_getElem?
  intro i
  have hl : 0 < xs.length := List.length_pos_iff.mpr h
  have e : ((List.range (xs.length - 1)).filterMap fun (m : Nat) => xs.toArray[(((xs.length - 1 : Nat) : Int) + (m : Int) * (-1)).toNat]?) = (List.range (xs.length - 1)).map fun (m : Nat) => xs.getD (xs.length - 1 - m) .none := by
    have g : ∀ (l : List Nat), (∀ m ∈ l, m < xs.length - 1) → (l.filterMap fun (m : Nat) => xs.toArray[(((xs.length - 1 : Nat) : Int) + (m : Int) * (-1)).toNat]?) = l.map fun (m : Nat) => xs.getD (xs.length - 1 - m) .none := by
      intro l
      induction l with
      | nil => intro _; rfl
      | cons m r ih =>
        intro hm
        have hm' := hm m List.mem_cons_self
        have e2 : (((xs.length - 1 : Nat) : Int) + (m : Int) * (-1)).toNat = xs.length - 1 - m := by omega
        have e4 : xs.length - 1 - m < xs.length := by omega
        rw [List.filterMap_cons, List.map_cons, ih fun a ha => hm a (List.mem_cons_of_mem _ ha), e2]
        simp [List.getD, e4]
    exact g _ fun m hm => List.mem_range.mp hm
  rw [e, List.getElem?_map]
  by_cases hi : i < xs.length - 1
  · rw [List.getElem?_range hi, List.getElem?_reverse (by rw [List.length_drop]; exact hi), List.getElem?_drop, List.length_drop]
    have : xs.length - 1 - i < xs.length := by omega
    have e3 : 1 + (xs.length - 1 - 1 - i) = xs.length - 1 - i := by omega
    rw [e3]
    simp [List.getD, this]
  · rw [List.getElem?_eq_none (by rw [List.length_range]; omega), List.getElem?_eq_none (by rw [List.length_reverse, List.length_drop]; omega)]
    rfl
section
variable {prog : Program} {w : World} {A : Around} {E : Value → Shared → Prop} {s : Shared}
theorem sliceApplied_rev {sl : Addr} {vl vu vs : Value} {n : Nat} {Q : Int × Int × Nat → Shared → Prop} (hs : s.heap.IsSliceOf sl vl vu vs) (pl : IsPart vl none) (pu : IsPart vu (some 0)) (ps : IsPart vs (some (-1))) (hn : 0 < n)
    (h : Q (((n - 1 : Nat) : Int), -1, n - 1) s) : wpAny (model prog w) A (Builtin.Slice.sliceApplied (.ref sl) (pure (n : Int))) Q E s := by
  obtain ⟨os, hos, hcs, hds⟩ := id hs
  unfold Builtin.Slice.sliceApplied Builtin.Slice.sliceFields
  refine wpAny_bind (wpAny_bind (wpAny_field hos hds (x := vl) rfl (wpAny_bind (wpAny_field hos hds (x := vu) rfl (wpAny_bind (wpAny_field hos hds (x := vs) rfl (wpAny_pure ?_)))))))
  refine wpAny_bind (HT.slicePart_ ps ?_)
  show wpAny _ _ (if ((-1 : Int) == 0) = true then _ else _) _ _ s
  rw [if_neg (by decide)]
  refine wpAny_bind (HT.slicePart_ pl (wpAny_bind (HT.slicePart_ pu (wpAny_bind (wpAny_pure ?_)))))
  show wpAny _ _ (match Builtin.Slice.sliceAdjust none (some 0) (-1) (n : Int) with | (lo, hi) => pure (lo, (-1 : Int), Builtin.Slice.slicePlaces lo hi (-1))) _ _ s
  have ea : Builtin.Slice.sliceAdjust none (some 0) (-1) (n : Int) = (((n - 1 : Nat) : Int), 0) := by
    unfold Builtin.Slice.sliceAdjust
    simp only [show ((-1 : Int) < 0) = True from by simp, if_true, show ((0 : Int) < 0) = False from by simp, if_false]
    refine Prod.ext ?_ ?_
    · show (n : Int) - 1 = _
      omega
    · show min (0 : Int) ((n : Int) - 1) = 0
      omega
  rw [ea]
  have ep : Builtin.Slice.slicePlaces ((n - 1 : Nat) : Int) 0 (-1) = n - 1 := by
    unfold Builtin.Slice.slicePlaces
    simp only [show ((-1 : Int) > 0) = False from by simp, if_false]
    split <;> (try simp only [Int.neg_neg, Int.ediv_one]) <;> omega
  show wpAny _ _ (pure (((n - 1 : Nat) : Int), (-1 : Int), Builtin.Slice.slicePlaces ((n - 1 : Nat) : Int) 0 (-1))) _ _ s
  rw [ep]
  exact wpAny_pure h
theorem getItem_tuple_rev {t sl : Addr} {items : Array Value} {vl vu vs : Value} {Q : Value → Shared → Prop} (ht : IsTup s.heap t items) (hs : s.heap.IsSliceOf sl vl vu vs) (pl : IsPart vl none) (pu : IsPart vu (some 0)) (ps : IsPart vs (some (-1))) (hn : items.toList ≠ [])
    (h : Q (.ref s.heap.objs.size) { s with heap := s.heap.push { cls := .type "tuple", data := .seq ((items.toList.drop 1).reverse).toArray } })
    (hsz : items.size ≤ sizeLine) : wpAny (model prog w) A (getItem (.ref t) (.ref sl)) Q E s := by
  have hlen : items.toList.length = items.size := Array.length_toList
  have htake : sizeOk (.seq ((items.toList.drop 1).reverse).toArray) := by
    show ((items.toList.drop 1).reverse).toArray.size ≤ sizeLine
    rw [List.size_toArray, List.length_reverse, List.length_drop, Array.length_toList]
    omega
  have hpos : 0 < items.size := by
    rw [← hlen]
    exact List.length_pos_iff.mpr hn
  obtain ⟨os, hos, hcs, hds⟩ := id hs
  have hTs : s.TypeIs (.ref sl) "slice" := ⟨os, hos, hcs⟩
  unfold getItem
  try with_reducible refine wpAny_holding ?_
  first | refine wpAny_bind (wpAny_pure ?_) | skip
  refine wpAny_bind (wpAny_sequenceKey ht.typeIs (by decide) ?_)
  refine wpAny_bind (wpAny_callSpecial?_slot (name := Str.ofString "__getitem__") ht.typeIs PyProof.Rows.slot_tuple_getitem
    (wpAny_call_entry PyProof.Rows.slot_tuple_getitem ht.typeIs entry_tuple_getitem ?_ (args_tuple_getitem _ _)))
  show wpAny _ _ (Builtin.Tuple.tupleItemsOf (.ref t) >>= _) _ _ s
  refine wpAny_bind (tupleItemsOf_ ht ?_)
  refine wpAny_bind (wpAny_typeOf hTs ?_)
  rw [if_pos (by decide)]
  refine wpAny_bind (sliceApplied_rev hs pl pu ps hpos ?_)
  have hno : ¬ ((((items.size - 1 : Nat) : Int) == 0 && (-1 : Int) == 1 && (items.size - 1) == items.size) = true) := by
    intro q
    rw [Bool.and_eq_true, Bool.and_eq_true] at q
    have q1 : (-1 : Int) = 1 := eq_of_beq q.1.2
    omega
  show wpAny _ _ (if (((items.size - 1 : Nat) : Int) == 0 && (-1 : Int) == 1 && (items.size - 1) == items.size) = true then _ else _) _ _ s
  have hp := rev_cut items.toList hn
  rw [hlen] at hp
  have hp2 : ((List.range (items.size - 1)).filterMap fun (m : Nat) => items[(((items.size - 1 : Nat) : Int) + (m : Int) * (-1)).toNat]?) = (items.toList.drop 1).reverse := hp
  rw [if_neg hno, hp2]
  first
    | exact wpAny_bind (m := Builtin.Tuple.tupleExact _) (wpAny_newObj_type (wpAny_pure ⟨_, rfl, wpAny_pure h⟩) htake)
    | exact wpAny_bind (m := Builtin.Tuple.tupleExact _) (wpAny_newObj_type (wpAny_bind (wpAny_pure (wpAny_pure ⟨_, rfl, wpAny_pure h⟩))) htake)
    | exact wpAny_bind (wpAny_bind (m := Builtin.Tuple.tupleExact _) (wpAny_newObj_type (wpAny_pure (wpAny_pure ⟨_, rfl, wpAny_pure h⟩)) htake))
    | exact wpAny_bind (wpAny_bind (m := Builtin.Tuple.tupleExact _) (wpAny_newObj_type (wpAny_pure ⟨_, rfl, wpAny_pure h⟩) htake))
end
/-- t[:0:-1]: a new tuple of all but the first, backwards -/
def tRevT (K : PySem.W.Frag) (te : TE) : TE := fun σ H Q => te σ H fun x H1 => ∃ a y xs, x = .ref a ∧ SqT K H1 a (y :: xs) ∧ ∀ p, H1 p = none → Q (.ref p) (upd H1 p (.tup xs.reverse))
theorem pe_revT {e : Expr} {te : TE} {k k2 : Nat} {p0 p1 p2 p3 pos : Pos} (he : PE X e te) : PE X (.Subscript e (.Slice none (some (.Constant (.int 0) k2 p0)) (some (.UnaryOp .USub (.Constant (.int 1) k p1) p2)) p3) pos) (tRevT X.K te) := by
  refine ⟨fun pins s σ H Q I h => ?_⟩
  refine Subscript_ (thn (he.run pins s σ H _ I h) fun v s1 ⟨x, H1, I1, r1, q1⟩ => ?_)
  obtain ⟨a, y, xs, ex, hx, q⟩ := q1
  subst ex
  cases r1
  have hst : PO X (some (.UnaryOp .USub (.Constant (.int 1) k p1) p2)) (tPart (tUn (rU fun i => .int (-i)) (tC (.int 1)))) := po_some (pe_un un_neg pe_int)
  have hup : PO X (some (.Constant (.int 0) k2 p0)) (tPart (tC (.int 0))) := po_some pe_int
  refine wpAny_Slice (thn (po_none.run pins s1 σ H1 (fun o H2 => o = none ∧ H2 = H1) I1 ⟨rfl, rfl⟩) fun vl s2 ⟨l, H2, I2, pl, el, e2⟩ => ?_)
  subst el e2
  refine thn (hup.run pins s2 σ H2 (fun o H3 => o = some 0 ∧ H3 = H2) I2 ⟨0, rfl, rfl, rfl⟩) fun vu s3 ⟨u, H3, I3, pu, eu, e3⟩ => ?_
  subst eu e3
  refine thn (hst.run pins s3 σ H3 (fun o H4 => o = some (-1) ∧ H4 = H3) I3 ⟨1, rfl, -1, rfl, rfl, rfl⟩) fun vs s4 ⟨o, H4, I4, ps, eo, e4⟩ => ?_
  subst eo e4
  have I5 : Inv X pins σ H4 { s4 with heap := s4.heap.push { cls := .type "slice", data := .fields #[vl, vu, vs] } } := I4.kept (t' := s4.toks) fun b ob q => Heap.get?_push_of_some _ q
  obtain ⟨its, r, ht, hz⟩ := I5.tuple hx
  have hlen := r.length
  have hne : its ≠ [] := fun z => by
    rw [z] at r
    cases r
  show wpAny (model X.prog X.w) X.A (subscriptTail e (.Slice none (some (.Constant (.int 0) k2 p0)) (some (.UnaryOp .USub (.Constant (.int 1) k p1) p2)) p3) (.ref a) (.ref s4.heap.objs.size)) (EP X pins σ Q) X.xe { s4 with heap := s4.heap.push { cls := .type "slice", data := .fields #[vl, vu, vs] } }
  refine tail_any (ops := [.ref a, .ref s4.heap.objs.size]) ht.typeIs (PyProof.Rows.slot_tuple_getitem.lookup) ?_ (by with_unfolding_all rfl)
  refine getItem_tuple_rev ht (Heap.IsSliceOf.new _ vl vu vs) pl pu ps hne ?_ (by rw [List.size_toArray]; omega)
  refine ⟨.ref _, _, I5.laid (t' := s4.toks) (o := .tup xs.reverse) (fun b ob q => Heap.get?_push_of_some _ q) (Nat.le_refl _) ?_, rfl, q _ (I5.hok.fresh (Nat.le_refl _))⟩
  refine ⟨by rw [List.length_reverse]; rw [List.length_cons] at hz; omega, (its.drop 1).reverse, (r.drop 1).reverse, ?_⟩
  exact ⟨_, Heap.get?_push_size _ rfl, rfl, _, rfl⟩
/-! ### == and != of data of any depth where one side is flat enough -/
def rEqM (K : PySem.W.Frag) : R2 := fun x y H Q => ∃ d e, Dp K H x d ∧ Dp K H y e ∧ d.canLay0 = true ∧ e.canLay0 = true ∧ min d.depth e.depth ≤ 64 ∧ Q (.bl (PyData.eqv d e)) H
def rNeM (K : PySem.W.Frag) : R2 := fun x y H Q => ∃ d e, Dp K H x d ∧ Dp K H y e ∧ d.canLay0 = true ∧ e.canLay0 = true ∧ min d.depth e.depth ≤ 64 ∧ Q (.bl (!PyData.eqv d e)) H
theorem op_eqM (hu : X.A.units + 64 < cLine) : OpR X (compareOp .Eq) (rEqM X.K) := by
  intro pins s σ H x y v u Q I rx ry h
  obtain ⟨d, e, hd, he, sd, se, hm, q⟩ := h
  obtain ⟨as, r1⟩ := Dp.reads I d x v hd rx
  obtain ⟨bs, r2⟩ := Dp.reads I e y u he ry
  exact SeqAt.compareEq_reads r1 r2 sd se (by omega) ⟨.bl _, H, I, rfl, q⟩
theorem op_neM (hu : X.A.units + 64 < cLine) : OpR X (compareOp .NotEq) (rNeM X.K) := by
  intro pins s σ H x y v u Q I rx ry h
  obtain ⟨d, e, hd, he, sd, se, hm, q⟩ := h
  obtain ⟨as, r1⟩ := Dp.reads I d x v hd rx
  obtain ⟨bs, r2⟩ := Dp.reads I e y u he ry
  exact SeqAt.compareNe_reads r1 r2 sd se (by omega) ⟨.bl _, H, I, rfl, q⟩
end
/-! ### readers: what a reading wants, from what is known -/
section
variable {K : PySem.W.Frag} {H : Hp} {Q : VK} {a : Addr} {xs : List V} {v y z : V} {i j : Int} {b c : Bool}
theorem q_bl (h : b = c) (q : Q (.bl c) H) : Q (.bl b) H := h ▸ q
theorem q_int (h : i = j) (q : Q (.int j) H) : Q (.int i) H := h ▸ q
theorem q_v (h : v = y) (q : Q y H) : Q v H := h ▸ q
theorem lenT (h : SqT K H a xs) (q : Q (.int xs.length) H) : rLen K [.ref a] H Q := ⟨a, xs, rfl, .inr h, q⟩
theorem lenL (h : SqL K H a xs) (q : Q (.int xs.length) H) : rLen K [.ref a] H Q := ⟨a, xs, rfl, .inl h, q⟩
theorem eqI (q : Q (.bl (decide (i = j))) H) : rEq (.int i) (.int j) H Q := ⟨rfl, by rw [show decide (V.int i = V.int j) = decide (i = j) from by simp]; exact q⟩
theorem neI (q : Q (.bl (!decide (i = j))) H) : rNe (.int i) (.int j) H Q := ⟨rfl, by rw [show decide (V.int i = V.int j) = decide (i = j) from by simp]; exact q⟩
theorem eqS {x x' : Str} (q : Q (.bl (decide (x = x'))) H) : rEq (.str x) (.str x') H Q := ⟨rfl, by rw [show decide (V.str x = V.str x') = decide (x = x') from by simp]; exact q⟩
theorem neS {x x' : Str} (q : Q (.bl (!decide (x = x'))) H) : rNe (.str x) (.str x') H Q := ⟨rfl, by rw [show decide (V.str x = V.str x') = decide (x = x') from by simp]; exact q⟩
theorem ixT0 (h : SqT K H a (y :: xs)) (q : Q y H) : rIxT K (.ref a) (.int 0) H Q := ⟨a, _, 0, y, rfl, rfl, h, atI_nat (j := 0) rfl, q⟩
theorem ixT1 (h : SqT K H a (y :: z :: xs)) (q : Q z H) : rIxT K (.ref a) (.int 1) H Q := ⟨a, _, 1, z, rfl, rfl, h, atI_nat (j := 1) rfl, q⟩
theorem ixT2 {u : V} (h : SqT K H a (y :: z :: u :: xs)) (q : Q u H) : rIxT K (.ref a) (.int 2) H Q := ⟨a, _, 2, u, rfl, rfl, h, atI_nat (j := 2) rfl, q⟩
theorem ixL0 (h : SqL K H a (y :: xs)) (q : Q y H) : rIxL K (.ref a) (.int 0) H Q := ⟨a, _, 0, y, rfl, rfl, h, atI_nat (j := 0) rfl, q⟩
theorem ixL1 (h : SqL K H a (y :: z :: xs)) (q : Q z H) : rIxL K (.ref a) (.int 1) H Q := ⟨a, _, 1, z, rfl, rfl, h, atI_nat (j := 1) rfl, q⟩
theorem ixL2 {u : V} (h : SqL K H a (y :: z :: u :: xs)) (q : Q u H) : rIxL K (.ref a) (.int 2) H Q := ⟨a, _, 2, u, rfl, rfl, h, atI_nat (j := 2) rfl, q⟩
theorem ixLn {n : Nat} (h : SqL K H a xs) (e : xs[n]? = some v) (hi : i = (n : Int)) (q : Q v H) : rIxL K (.ref a) (.int i) H Q := by
  subst hi
  exact ⟨a, xs, _, v, rfl, rfl, h, atI_nat e, q⟩
theorem ixTn {n : Nat} (h : SqT K H a xs) (e : xs[n]? = some v) (hi : i = (n : Int)) (q : Q v H) : rIxT K (.ref a) (.int i) H Q := by
  subst hi
  exact ⟨a, xs, _, v, rfl, rfl, h, atI_nat e, q⟩
end
end HM

namespace HM
open PySem PySem.Spec PyProof.Rows L2
/-! ### what stays: all but the places of M -/
def Sm (M : Addr → Prop) (H H' : Hp) : Prop := ∀ b o, ¬ M b → H b = some o → H' b = some o
def M0 : Addr → Prop := fun _ => False
theorem Sm.refl {M : Addr → Prop} (H : Hp) : Sm M H H := fun _ _ _ h => h
theorem Sm.trans {M : Addr → Prop} {H H1 H2 : Hp} (a : Sm M H H1) (b : Sm M H1 H2) : Sm M H H2 := fun c o n h => b c o n (a c o n h)
theorem Sm.of {M : Addr → Prop} {H H' : Hp} (h : Same H H') : Sm M H H' := fun b o _ e => h b o e
theorem Sm.same {H H' : Hp} (h : Sm M0 H H') : Same H H' := fun b o e => h b o (fun z => z) e
theorem Sm.new {M : Addr → Prop} {H H' : Hp} {D : Addr} {o : HO} (a : Sm M H H') (n : H D = none) : Sm M H (upd H' D o) := fun b u nb e => by
  rw [upd_ne (ne_of_none e n)]
  exact a b u nb e
theorem Sm.at {M : Addr → Prop} {H H' : Hp} {w : Addr} {o : HO} (a : Sm M H H') (n : M w) : Sm M H (upd H' w o) := fun b u nb e => by
  rw [upd_ne (fun z => nb (by rw [z]; exact n))]
  exact a b u nb e
/-- the tuples (and what is frozen) stay -/
def Fix : HO → Prop | .tup _ => True | .frz _ _ => True | _ => False
def Tk (H H' : Hp) : Prop := ∀ b o, Fix o → H b = some o → H' b = some o
theorem Tk.refl (H : Hp) : Tk H H := fun _ _ _ h => h
theorem Tk.trans {H H1 H2 : Hp} (a : Tk H H1) (b : Tk H1 H2) : Tk H H2 := fun c o n h => b c o n (a c o n h)
theorem Tk.of {H H' : Hp} (h : Same H H') : Tk H H' := fun b o _ e => h b o e
theorem Tk.sm {M : Addr → Prop} {H H' : Hp} (h : Sm M H H') (n : ∀ b o, M b → H b = some o → ¬ Fix o) : Tk H H' := fun b o f e => h b o (fun m => n b o m e f) e
theorem Tk.upd {H : Hp} {D : Addr} {o : HO} (n : ∀ u, H D = some u → ¬ Fix u) : Tk H (upd H D o) := fun b u f e => by
  have : b ≠ D := fun z => by subst z; exact n u e f
  rw [upd_ne this]
  exact e
theorem Tk.rd {H H' : Hp} {a : Addr} {xs : List V} (e : Tk H H') (h : Rd H a (.tup xs)) : Rd H' a (.tup xs) := by
  rcases h with h | ⟨o, h⟩
  · exact .inl (e _ _ trivial h)
  · exact .inr ⟨o, e _ _ trivial h⟩
theorem Tk.sqT {K : PySem.W.Frag} {H H' : Hp} {a : Addr} {xs : List V} (e : Tk H H') (h : SqT K H a xs) : SqT K H' a xs := by
  rcases h with h | h
  · exact .inl (e.rd h)
  · exact .inr h
mutual
def noL : PyData → Bool
  | .none => true
  | .bool _ => true
  | .int _ => true
  | .str _ => true
  | .list _ => false
  | .tuple ds => noLs ds
  | .dict _ => false
def noLs : List PyData → Bool
  | [] => true
  | d :: ds => noL d && noLs ds
end
mutual
theorem Dp.tk {K : PySem.W.Frag} {H H' : Hp} (e : Tk H H') : ∀ (d : PyData) (v : V), noL d = true → Dp K H v d → Dp K H' v d
  | .none, _, _, h => by cases h; exact .non
  | .bool b, _, _, h => by cases h; exact .bl b
  | .int i, _, _, h => by cases h; exact .int i
  | .str x, _, _, h => by cases h; exact .str x
  | .list ds, _, n, h => by cases n
  | .tuple ds, _, n, h => by cases h with | tup hs ha => exact .tup (e.sqT hs) (DpAll.tk e ds _ n ha)
  | .dict _, _, _, h => by cases h
theorem DpAll.tk {K : PySem.W.Frag} {H H' : Hp} (e : Tk H H') : ∀ (ds : List PyData) (vs : List V), noLs ds = true → DpAll K H vs ds → DpAll K H' vs ds
  | [], _, _, h => by cases h; exact .nil
  | d :: ds, _, n, h => by
    have n' : noL d = true ∧ noLs ds = true := by simpa [noLs] using n
    cases h with | cons h1 h2 => exact .cons (Dp.tk e d _ n'.1 h1) (DpAll.tk e ds _ n'.2 h2)
end
/-! ### comprehensions -/
section
variable {M : Addr → Prop} {Z : Hp → Prop} {R : Nat → V → Hp → Prop} {I : Nat → V → Hp → Prop} {J : It} {n i : Nat} {σ : L2.St} {el : TE} {H : Hp} {Q : VK}
/-- el for each item of the walk J (n turns): R of the place and the value; M what may change, Z what stays true -/
theorem lc_gen (hn : n ≤ sizeLine) (hM : ∀ b, M b → H b ≠ none) (z0 : Z H) (hZ : ∀ D o H1, H D = none → Z H1 → Z (upd H1 D o)) (hR : ∀ j y H1 H2, Tk H1 H2 → R j y H1 → R j y H2) (hMf : ∀ H1 b o, Z H1 → M b → H1 b = some o → ¬ Fix o)
    (hgo : ∀ j H1, j < n → Sm M H H1 → J.go j H1) (hst : ∀ H1, Sm M H H1 → J.stop n H1)
    (hy : ∀ j H1 x H2, j < n → Sm M H H1 → Z H1 → J.yld j H1 x H2 → Sm M0 H1 H2 ∧ Z H2 ∧ I j x H2)
    (hs : ∀ j x H1 (k : VK), j < n → Sm M H H1 → Z H1 → I j x H1 → (∀ y H2, Sm M H1 H2 → Z H2 → R j y H2 → k y H2) → el ((wipe σ [i]).set i (some x)) H1 k)
    (hq : ∀ D H2 ys, H D = none → Sm M H H2 → Z H2 → H2 D = some (.lst ys) → ys.length = n → (∀ j y, ys[j]? = some y → R j y H2) → Q (.ref D) H2) :
    ∀ D, H D = none → ∃ W : Nat → Nat → Hp → Prop, (∃ m, W 0 m (upd H D (.lst []))) ∧ ∀ i_1 m H_1, W i_1 m H_1 →
      (J.stop i_1 H_1 ∧ Q (.ref D) H_1) ∨ (J.go i_1 H_1 ∧ ∃ Nx : Hp → Prop, (∀ H', Nx H' → ∃ m', m' < m ∧ W (i_1 + 1) m' H') ∧ ∀ x H', J.yld i_1 H_1 x H' → gName i x (wipe σ [i]) H' fun σ2 H2 => wipe σ2 [i] = wipe σ [i] ∧ tYes σ2 H2 fun b H3 =>
        if b = true then el σ2 H3 fun y H4 => ∃ acc, H4 D = some (.lst acc) ∧ acc.length < sizeLine ∧ Nx (upd H4 D (.lst (acc ++ [y]))) else Nx H3) := by
  intro D hD
  have nD : ¬ M D := fun z => hM D z hD
  let Pv : Nat → Hp → Prop := fun j H1 => Sm M H H1 ∧ Z H1 ∧ ∃ ys, H1 D = some (.lst ys) ∧ ys.length = j ∧ ∀ k y, ys[k]? = some y → R k y H1
  refine ⟨fun j m H1 => m = n - j ∧ j ≤ n ∧ Pv j H1, ⟨n, by simp, Nat.zero_le _, (Sm.refl H).new hD, hZ D _ H hD z0, [], upd_same, rfl, fun k y e => by simp at e⟩, ?_⟩
  rintro j m H1 ⟨rfl, hj, sm, z, ys, eD, el1, eR⟩
  by_cases hlt : j < n
  · refine .inr ⟨hgo j H1 hlt sm, Pv (j + 1), fun H' p' => ⟨n - (j + 1), by omega, rfl, hlt, p'⟩, fun x H2 yl => ?_⟩
    obtain ⟨s2, z2, i2⟩ := hy j H1 x H2 hlt sm z yl
    have t2 : Tk H1 H2 := Tk.of s2.same
    refine ⟨?_, ?_⟩
    · have e : ∀ (l : L2.St), wipe l [i] = l.set i none := fun l => rfl
      simp [e]
    · show el ((wipe σ [i]).set i (some x)) H2 _
      refine hs j x H2 _ hlt (sm.trans (Sm.of s2.same)) z2 i2 fun y H3 s3 z3 r3 => ?_
      have eD3 : H3 D = some (.lst ys) := s3 D _ nD (s2.same D _ eD)
      have t3 : Tk H2 H3 := Tk.sm s3 fun b o m e => hMf H2 b o z2 m e
      have tD : Tk H3 (upd H3 D (.lst (ys ++ [y]))) := Tk.upd fun u e => by rw [eD3] at e; cases e; exact fun f => f
      refine ⟨ys, eD3, by rw [el1]; omega, (sm.trans ((Sm.of s2.same).trans s3)).new hD, hZ D _ H3 hD z3, ys ++ [y], upd_same, by rw [List.length_append, el1]; rfl, fun k y' e => ?_⟩
      by_cases hk : k < ys.length
      · rw [List.getElem?_append_left hk] at e
        exact hR k y' _ _ ((t2.trans t3).trans tD) (eR k y' e)
      · have hk2 : k = j := by
          have : k < (ys ++ [y]).length := (List.getElem?_eq_some_iff.mp e).1
          rw [List.length_append, List.length_singleton] at this
          omega
        subst hk2
        rw [List.getElem?_append_right (by omega), el1, Nat.sub_self] at e
        simp at e
        subst e
        exact hR k y _ _ tD r3
  · have e : j = n := by omega
    subst e
    exact .inl ⟨hst H1 sm, hq D H1 ys hD sm z eD el1 eR⟩
theorem Sm.sqL {K : PySem.W.Frag} {H H' : Hp} {a : Addr} {xs : List V} (e : Sm M H H') (n : ¬ M a) (h : SqL K H a xs) : SqL K H' a xs := by
  rcases h with (h | ⟨o, h⟩) | h
  · exact .inl (.inl (e _ _ n h))
  · exact .inl (.inr ⟨o, e _ _ n h⟩)
  · exact .inr h
theorem Sm.sqT {K : PySem.W.Frag} {H H' : Hp} {a : Addr} {xs : List V} (e : Sm M H H') (n : ¬ M a) (h : SqT K H a xs) : SqT K H' a xs := by
  rcases h with (h | ⟨o, h⟩) | h
  · exact .inl (.inl (e _ _ n h))
  · exact .inl (.inr ⟨o, e _ _ n h⟩)
  · exact .inr h
/-- what a comprehension wants of the walk J -/
def LcG (J : It) (g : TG) (tt : TT) (te : TE) (vs : List Nat) (σ : L2.St) (H1 : Hp) (Q : VK) : Prop :=
  ∀ D, H1 D = none → ∃ W : Nat → Nat → Hp → Prop, (∃ m, W 0 m (upd H1 D (.lst []))) ∧ ∀ i m H, W i m H →
  (J.stop i H ∧ Q (.ref D) H) ∨ (J.go i H ∧ ∃ Nx : Hp → Prop, (∀ H', Nx H' → ∃ m', m' < m ∧ W (i + 1) m' H') ∧ ∀ x H', J.yld i H x H' → g x (wipe σ vs) H' fun σ2 H2 => wipe σ2 vs = wipe σ vs ∧ tt σ2 H2 fun b H3 =>
    if b = true then te σ2 H3 fun y H4 => ∃ acc, H4 D = some (.lst acc) ∧ acc.length < sizeLine ∧ Nx (upd H4 D (.lst (acc ++ [y]))) else Nx H3)
theorem tlc_of {wi : TI} {g : TG} {tt : TT} {te : TE} {vs : List Nat} (h : wi σ H fun J H1 => LcG J g tt te vs σ H1 Q) : tLc wi g tt te vs σ H Q := h
abbrev LcGoal (J : It) (i : Nat) (el : TE) (σ : L2.St) (H : Hp) (Q : VK) : Prop := LcG J (gName i) tYes el [i] σ H Q
/-- what a for wants of the walk J -/
def ForG (J : It) (g : TG) (tb : TS) (D : Ends) (σ : L2.St) (H : Hp) : Prop := ∃ W : Nat → Nat → L2.St → Hp → Prop, (∃ m, W 0 m σ H) ∧ ∀ i m σ H, W i m σ H →
  (J.stop i H ∧ D.nx σ H) ∨ (J.go i H ∧ ∃ N : L2.St → Hp → Prop, (∀ σ' H', N σ' H' → ∃ m', m' < m ∧ W (i + 1) m' σ' H') ∧ ∀ x H', J.yld i H x H' → g x σ H' fun σ2 H2 => tb { D with nx := N, ct := N, bk := D.nx } σ2 H2)
theorem tfor_of {wi : TI} {g : TG} {tb : TS} {D : Ends} (h : wi σ H fun J H1 => ForG J g tb D σ H1) : tFor wi g tb D σ H := h
theorem for_l {K : PySem.W.Frag} {a : Addr} {xs : List V} {g : TG} {tb : TS} {D : Ends} (Pv : Nat → L2.St → Hp → Prop) (h0 : Pv 0 σ H) (hl : ∀ i σ H, i ≤ xs.length → Pv i σ H → SqL K H a xs)
    (hs : ∀ i x σ H, xs[i]? = some x → Pv i σ H → g x σ H fun σ2 H2 => tb { D with nx := Pv (i + 1), ct := Pv (i + 1), bk := D.nx } σ2 H2) (hd : ∀ σ H, Pv xs.length σ H → D.nx σ H) : ForG (Itl K a) g tb D σ H := for_list Pv h0 hl hs hd
theorem for_t {K : PySem.W.Frag} {a : Addr} {xs : List V} {g : TG} {tb : TS} {D : Ends} (Pv : Nat → L2.St → Hp → Prop) (h0 : Pv 0 σ H) (hl : ∀ i σ H, i ≤ xs.length → Pv i σ H → SqT K H a xs)
    (hs : ∀ i x σ H, xs[i]? = some x → Pv i σ H → g x σ H fun σ2 H2 => tb { D with nx := Pv (i + 1), ct := Pv (i + 1), bk := D.nx } σ2 H2) (hd : ∀ σ H, Pv xs.length σ H → D.nx σ H) : ForG (Itt K a) g tb D σ H := for_tup Pv h0 hl hs hd
theorem for_r {lo : Int} {g : TG} {tb : TS} {D : Ends} (Pv : Nat → L2.St → Hp → Prop) (h0 : Pv 0 σ H)
    (hs : ∀ i σ H, i < n → Pv i σ H → g (.int (lo + (i : Nat))) σ H fun σ2 H2 => tb { D with nx := Pv (i + 1), ct := Pv (i + 1), bk := D.nx } σ2 H2) (hd : ∀ σ H, Pv n σ H → D.nx σ H) : ForG (Itr lo n) g tb D σ H := for_range Pv h0 hs hd
/-- while, by an invariant with a measure -/
theorem twhile_of {c : TT} {tb : TS} {D : Ends} (W : Nat → L2.St → Hp → Prop) {m : Nat} (h0 : W m σ H) (hs : ∀ m σ H, W m σ H →
  c σ H fun b H1 => if b = true then ∃ N : L2.St → Hp → Prop, (∀ σ' H', N σ' H' → ∃ m', m' < m ∧ W m' σ' H') ∧ tb { D with nx := N, ct := N, bk := D.nx } σ H1 else D.nx σ H1) : tWhile c tb D σ H := ⟨W, ⟨m, h0⟩, hs⟩
/-- over a range -/
theorem lc_rngM {lo : Int} (hn : n ≤ sizeLine) (hM : ∀ b, M b → H b ≠ none) (z0 : Z H) (hZ : ∀ D o H1, H D = none → Z H1 → Z (upd H1 D o)) (hR : ∀ j y H1 H2, Tk H1 H2 → R j y H1 → R j y H2) (hMf : ∀ H1 b o, Z H1 → M b → H1 b = some o → ¬ Fix o)
    (hs : ∀ j H1 (k : VK), j < n → Sm M H H1 → Z H1 → (∀ y H2, Sm M H1 H2 → Z H2 → R j y H2 → k y H2) → el ((wipe σ [i]).set i (some (.int (lo + (j : Nat))))) H1 k)
    (hq : ∀ D H2 ys, H D = none → Sm M H H2 → Z H2 → H2 D = some (.lst ys) → ys.length = n → (∀ j y, ys[j]? = some y → R j y H2) → Q (.ref D) H2) : LcGoal (Itr lo n) i el σ H Q :=
  lc_gen (I := fun j x _ => x = .int (lo + (j : Nat))) hn hM z0 hZ hR hMf (fun j H1 h _ => h) (fun H1 _ => Nat.le_refl _) (fun j H1 x H2 _ _ z y => by
    obtain ⟨e, y⟩ := y
    subst e
    exact ⟨Sm.refl _, z, y⟩) (fun j x H1 k hj sm z e kk => by
    subst e
    exact hs j H1 k hj sm z kk) hq
/-- over a list, over a tuple, that stand still -/
theorem lc_lstM {K : PySem.W.Frag} {a : Addr} {xs : List V} (hx : SqL K H a xs) (na : ¬ M a) (hn : xs.length ≤ sizeLine) (hM : ∀ b, M b → H b ≠ none) (z0 : Z H) (hZ : ∀ D o H1, H D = none → Z H1 → Z (upd H1 D o)) (hR : ∀ j y H1 H2, Tk H1 H2 → R j y H1 → R j y H2) (hMf : ∀ H1 b o, Z H1 → M b → H1 b = some o → ¬ Fix o)
    (hs : ∀ j x H1 (k : VK), xs[j]? = some x → Sm M H H1 → Z H1 → (∀ y H2, Sm M H1 H2 → Z H2 → R j y H2 → k y H2) → el ((wipe σ [i]).set i (some x)) H1 k)
    (hq : ∀ D H2 ys, H D = none → Sm M H H2 → Z H2 → H2 D = some (.lst ys) → ys.length = xs.length → (∀ j y, ys[j]? = some y → R j y H2) → Q (.ref D) H2) : LcGoal (Itl K a) i el σ H Q :=
  lc_gen (I := fun j x _ => xs[j]? = some x) hn hM z0 hZ hR hMf (fun j H1 h s => ⟨xs, xs[j], s.sqL na hx, by simp [h]⟩) (fun H1 s => ⟨xs, s.sqL na hx, Nat.le_refl _⟩) (fun j H1 x H2 _ s z y => by
    obtain ⟨e, y⟩ := y
    subst e
    exact ⟨Sm.refl _, z, y xs (s.sqL na hx)⟩) (fun j x H1 k hj sm z e kk => hs j x H1 k e sm z kk) hq
theorem lc_tupM {K : PySem.W.Frag} {a : Addr} {xs : List V} (hx : SqT K H a xs) (na : ¬ M a) (hn : xs.length ≤ sizeLine) (hM : ∀ b, M b → H b ≠ none) (z0 : Z H) (hZ : ∀ D o H1, H D = none → Z H1 → Z (upd H1 D o)) (hR : ∀ j y H1 H2, Tk H1 H2 → R j y H1 → R j y H2) (hMf : ∀ H1 b o, Z H1 → M b → H1 b = some o → ¬ Fix o)
    (hs : ∀ j x H1 (k : VK), xs[j]? = some x → Sm M H H1 → Z H1 → (∀ y H2, Sm M H1 H2 → Z H2 → R j y H2 → k y H2) → el ((wipe σ [i]).set i (some x)) H1 k)
    (hq : ∀ D H2 ys, H D = none → Sm M H H2 → Z H2 → H2 D = some (.lst ys) → ys.length = xs.length → (∀ j y, ys[j]? = some y → R j y H2) → Q (.ref D) H2) : LcGoal (Itt K a) i el σ H Q :=
  lc_gen (I := fun j x _ => xs[j]? = some x) hn hM z0 hZ hR hMf (fun j H1 h s => ⟨xs, xs[j], s.sqT na hx, by simp [h]⟩) (fun H1 s => ⟨xs, s.sqT na hx, Nat.le_refl _⟩) (fun j H1 x H2 _ s z y => by
    obtain ⟨e, y⟩ := y
    subst e
    exact ⟨Sm.refl _, z, y xs (s.sqT na hx)⟩) (fun j x H1 k hj sm z e kk => hs j x H1 k e sm z kk) hq
theorem lc_strM {x : Str} (hn : x.cps.size ≤ sizeLine) (hM : ∀ b, M b → H b ≠ none) (z0 : Z H) (hZ : ∀ D o H1, H D = none → Z H1 → Z (upd H1 D o)) (hR : ∀ j y H1 H2, Tk H1 H2 → R j y H1 → R j y H2) (hMf : ∀ H1 b o, Z H1 → M b → H1 b = some o → ¬ Fix o)
    (hs : ∀ j c H1 (k : VK), x.cps[j]? = some c → Sm M H H1 → Z H1 → (∀ y H2, Sm M H1 H2 → Z H2 → R j y H2 → k y H2) → el ((wipe σ [i]).set i (some (.str ⟨#[c]⟩))) H1 k)
    (hq : ∀ D H2 ys, H D = none → Sm M H H2 → Z H2 → H2 D = some (.lst ys) → ys.length = x.cps.size → (∀ j y, ys[j]? = some y → R j y H2) → Q (.ref D) H2) : LcGoal (Its x) i el σ H Q :=
  lc_gen (n := x.cps.size) (I := fun j v _ => ∃ c, x.cps[j]? = some c ∧ v = .str ⟨#[c]⟩) hn hM z0 hZ hR hMf (fun j H1 h s => h) (fun H1 s => Nat.le_refl _) (fun j H1 v H2 _ s z y => by
    obtain ⟨e, y⟩ := y
    subst e
    exact ⟨Sm.refl _, z, y⟩) (fun j v H1 k hj sm z e kk => by
    obtain ⟨c, e1, e2⟩ := e
    subst e2
    exact hs j c H1 k e1 sm z kk) hq
/-! the same where nothing changes -/
theorem lc_rng {lo : Int} (hn : n ≤ sizeLine) (hR : ∀ j y H1 H2, Tk H1 H2 → R j y H1 → R j y H2)
    (hs : ∀ j H1 (k : VK), j < n → Same H H1 → (∀ y H2, Same H1 H2 → R j y H2 → k y H2) → el ((wipe σ [i]).set i (some (.int (lo + (j : Nat))))) H1 k)
    (hq : ∀ D H2 ys, H D = none → Same H H2 → H2 D = some (.lst ys) → ys.length = n → (∀ j y, ys[j]? = some y → R j y H2) → Q (.ref D) H2) : LcGoal (Itr lo n) i el σ H Q :=
  lc_rngM (M := M0) (Z := fun _ => True) hn (fun _ m => m.elim) trivial (fun _ _ _ _ _ => trivial) hR (fun _ _ _ _ m => m.elim) (fun j H1 k hj sm _ kk => hs j H1 k hj sm.same fun y H2 s2 r => kk y H2 (Sm.of s2) trivial r)
    (fun D H2 ys hD sm _ e l r => hq D H2 ys hD sm.same e l r)
theorem lc_lst {K : PySem.W.Frag} {a : Addr} {xs : List V} (hx : SqL K H a xs) (hn : xs.length ≤ sizeLine) (hR : ∀ j y H1 H2, Tk H1 H2 → R j y H1 → R j y H2)
    (hs : ∀ j x H1 (k : VK), xs[j]? = some x → Same H H1 → (∀ y H2, Same H1 H2 → R j y H2 → k y H2) → el ((wipe σ [i]).set i (some x)) H1 k)
    (hq : ∀ D H2 ys, H D = none → Same H H2 → H2 D = some (.lst ys) → ys.length = xs.length → (∀ j y, ys[j]? = some y → R j y H2) → Q (.ref D) H2) : LcGoal (Itl K a) i el σ H Q :=
  lc_lstM (M := M0) (Z := fun _ => True) hx (fun m => m) hn (fun _ m => m.elim) trivial (fun _ _ _ _ _ => trivial) hR (fun _ _ _ _ m => m.elim) (fun j x H1 k hj sm _ kk => hs j x H1 k hj sm.same fun y H2 s2 r => kk y H2 (Sm.of s2) trivial r)
    (fun D H2 ys hD sm _ e l r => hq D H2 ys hD sm.same e l r)
theorem lc_tup {K : PySem.W.Frag} {a : Addr} {xs : List V} (hx : SqT K H a xs) (hn : xs.length ≤ sizeLine) (hR : ∀ j y H1 H2, Tk H1 H2 → R j y H1 → R j y H2)
    (hs : ∀ j x H1 (k : VK), xs[j]? = some x → Same H H1 → (∀ y H2, Same H1 H2 → R j y H2 → k y H2) → el ((wipe σ [i]).set i (some x)) H1 k)
    (hq : ∀ D H2 ys, H D = none → Same H H2 → H2 D = some (.lst ys) → ys.length = xs.length → (∀ j y, ys[j]? = some y → R j y H2) → Q (.ref D) H2) : LcGoal (Itt K a) i el σ H Q :=
  lc_tupM (M := M0) (Z := fun _ => True) hx (fun m => m) hn (fun _ m => m.elim) trivial (fun _ _ _ _ _ => trivial) hR (fun _ _ _ _ m => m.elim) (fun j x H1 k hj sm _ kk => hs j x H1 k hj sm.same fun y H2 s2 r => kk y H2 (Sm.of s2) trivial r)
    (fun D H2 ys hD sm _ e l r => hq D H2 ys hD sm.same e l r)
theorem lc_str {x : Str} (hn : x.cps.size ≤ sizeLine) (hR : ∀ j y H1 H2, Tk H1 H2 → R j y H1 → R j y H2)
    (hs : ∀ j c H1 (k : VK), x.cps[j]? = some c → Same H H1 → (∀ y H2, Same H1 H2 → R j y H2 → k y H2) → el ((wipe σ [i]).set i (some (.str ⟨#[c]⟩))) H1 k)
    (hq : ∀ D H2 ys, H D = none → Same H H2 → H2 D = some (.lst ys) → ys.length = x.cps.size → (∀ j y, ys[j]? = some y → R j y H2) → Q (.ref D) H2) : LcGoal (Its x) i el σ H Q :=
  lc_strM (M := M0) (Z := fun _ => True) hn (fun _ m => m.elim) trivial (fun _ _ _ _ _ => trivial) hR (fun _ _ _ _ m => m.elim) (fun j x H1 k hj sm _ kk => hs j x H1 k hj sm.same fun y H2 s2 r => kk y H2 (Sm.of s2) trivial r)
    (fun D H2 ys hD sm _ e l r => hq D H2 ys hD sm.same e l r)
end
/-! ### enumerate(list) -/
theorem for_e {K : PySem.W.Frag} {a : Addr} {xs : List V} {g : TG} {tb : TS} {D : Ends} {σ : L2.St} {H : Hp} (Pv : Nat → L2.St → Hp → Prop) (h0 : Pv 0 σ H) (hl : ∀ i σ H, i ≤ xs.length → Pv i σ H → SqL K H a xs)
    (hs : ∀ (i : Nat) x σ H T, xs[i]? = some x → Pv i σ H → H T = none → g (.ref T) σ (upd H T (.tup [.int (i : Nat), x])) fun σ2 H2 => tb { D with nx := Pv (i + 1), ct := Pv (i + 1), bk := D.nx } σ2 H2) (hd : ∀ σ H, Pv xs.length σ H → D.nx σ H) : ForG (Ite K a) g tb D σ H := by
  refine ⟨fun i m σ H => m = xs.length - i ∧ i ≤ xs.length ∧ Pv i σ H, ⟨xs.length, by simp, Nat.zero_le _, h0⟩, ?_⟩
  rintro i m σ H ⟨rfl, hi, p⟩
  have q := hl i σ H hi p
  by_cases hlt : i < xs.length
  · refine .inr ⟨⟨xs, xs[i], q, by simp [hlt]⟩, Pv (i + 1), fun σ' H' p' => ⟨xs.length - (i + 1), by omega, rfl, hlt, p'⟩, fun x H' y => ?_⟩
    obtain ⟨T, x1, rfl, nT, rfl, f1⟩ := y
    exact hs i x1 σ _ T (f1 xs q) p nT
  · have e : i = xs.length := by omega
    subst e
    exact .inl ⟨⟨xs, q, Nat.le_refl _⟩, hd σ H p⟩
/-! ### defs with defaults -/
def GdD (K : PySem.W.Frag) (mg : Str → Option Value) (x : Str) (st : Stmt) (dvs : List V) : Prop := ∃ f fd, FunD K x x (defArgs st) (defBody st) (defScope st) dvs [] f fd ∧ mg x = some (.ref f)
theorem okfD_mk {P : Program} {w : World} {K : PySem.W.Frag} {mg : Str → Option Value} {base : Heap} {x : Str} {st : Stmt} {N ps : List Str} {k : Nat} {sp : Sp} {dvs : List V} (n j : Nat) (G : GdD K mg x st dvs) (S : FnScope N ps (defScope st)) (hd : dvs ≠ []) (hn : n + (dvs.length - j) = ps.length)
    (hb : ∀ (T : Addr) (kV doc pm : Value) (an : Option Addr) (cdv ct : Value) (us its : List Value), us.length = n → its.length = dvs.length →
      ∃ k, bindArgs (PySem.W.fnOf x x (defArgs st) (defBody st) (defScope st) (.ref T) kV doc pm an cdv ct) ⟨us, []⟩ = seqItems? (.ref T) >>= k ∧ k (some its.toArray) = pure (ps.zip (us ++ its.drop j)))
    (len : ∀ vs H Q E, sp vs H Q E → vs.length = ps.length)
    (hbody : ∀ {f : Addr} (cdv : Value) (A : Around) (outer : List Env) (s : Shared) (H : Hp) (vs : List V) (Q : VK) (E : XK), Room k (A.deeper (envOfC x (defScope st) s.heap.objs.size f cdv)) → sp vs H Q E →
      ∃ t, PSs (cxOf CX0 P w K mg base N x (defScope st) f cdv A outer s H E).nox (defBody st) t ∧ t { nx := fun _ H' => Q .non H', rt := Q } (L2.start N vs) H) : Okf P w K mg base x (k + 1) ps (dvs.drop j) sp := by
  obtain ⟨f, fd, F, g⟩ := G
  obtain ⟨ds, hv, hB⟩ := F.binds1 n j hd hn hb
  exact ⟨f, fd, ds, g, F.kp, hv, hB, by obtain ⟨_, _, _, _, _, _, _, _, _, _, _, h, _⟩ := F.ex; exact ⟨_, h, rfl⟩, F.ok S len fun cdv A outer s H vs Q E hr h => by
    obtain ⟨t, h1, h2⟩ := hbody cdv A outer s H vs Q E hr h
    exact ⟨t, h1.nox, h2⟩⟩
section
variable {K : PySem.W.Frag} {H : Hp} {Q : VK} {a b l : Addr} {xs zs : List V} {y : V}
theorem neNilR (h : H a = some (.lst xs)) (n : H b = none) (q : Q (.bl (!xs.isEmpty)) (upd H b (.lst []))) : rNeNil K (.ref a) (.ref b) (upd H b (.lst [])) Q :=
  ⟨a, b, xs, rfl, rfl, SqL.of (by rw [upd_ne (ne_of_none h n)]; exact h), SqL.of upd_same, q⟩
theorem popR (h : H l = some (.lst (xs ++ [y]))) (q : Q y (upd H l (.lst xs))) : rPop (.ref l) [] H Q :=
  ⟨l, _, y, rfl, rfl, h, by simp, by rw [List.dropLast_concat]; exact q⟩
theorem appR (h : H l = some (.lst xs)) (hz : xs.length < sizeLine) (q : Q .non (upd H l (.lst (xs ++ [y])))) : rAppend (.ref l) [y] H Q := ⟨l, xs, y, rfl, rfl, h, hz, q⟩
theorem extT (h : H l = some (.lst xs)) (hb : H b = some (.tup zs)) (hz : xs.length + zs.length ≤ sizeLine) (q : Q .non (upd H l (.lst (xs ++ zs)))) : rExtendT K (.ref l) [.ref b] H Q := ⟨l, b, xs, zs, rfl, rfl, h, hb, hz, q⟩
theorem extL (h : H l = some (.lst xs)) (hb : H b = some (.lst zs)) (hz : xs.length + zs.length ≤ sizeLine) (q : Q .non (upd H l (.lst (xs ++ zs)))) : rExtend (.ref l) [.ref b] H Q := ⟨l, b, xs, zs, rfl, rfl, h, hb, hz, q⟩
theorem tyL (h : H l = some (.lst xs)) : tyV K "list" (.ref l) H := .inl ⟨rfl, xs, SqL.of h⟩
theorem cut1 (y : V) (xs : List V) : cutV (y :: xs) (some 1) none = xs := by
  unfold cutV
  rw [show HT.sIx (y :: xs).length 0 (some 1) = min 1 (y :: xs).length from HT.sIx_nat _ 0 1, HT.sIx_none]
  rw [show min 1 (y :: xs).length = 1 by rw [List.length_cons]; omega]
  show (List.take ((y :: xs).length - 1) xs) = xs
  rw [List.length_cons, Nat.add_sub_cancel]
  exact List.take_length
theorem slT1 (h : SqT K H a (y :: xs)) (q : ∀ p, H p = none → Q (.ref p) (upd H p (.tup xs))) : rSlA K (.ref a) (some 1) none H Q := by
  have e : HT.sIx (y :: xs).length 0 (some 1) = 1 := by
    rw [show HT.sIx (y :: xs).length 0 (some 1) = min 1 (y :: xs).length from HT.sIx_nat _ 0 1, List.length_cons]
    omega
  refine ⟨a, _, rfl, h, fun z => ?_, fun _ p hp => ?_⟩
  · rw [e] at z
    exact absurd z.1 (by decide)
  · rw [cut1]
    exact q p hp
theorem concat_or {α : Type} (l : List α) : l = [] ∨ ∃ r x, l = r ++ [x] := by
  cases l with
  | nil => exact .inl rfl
  | cons a t => exact .inr ⟨(a :: t).dropLast, (a :: t).getLast (List.cons_ne_nil _ _), (List.dropLast_concat_getLast _).symm⟩
theorem DpAll.snoc {ds : List PyData} {d : PyData} {vs : List V} (h : DpAll K H vs (ds ++ [d])) : ∃ us v, vs = us ++ [v] ∧ DpAll K H us ds ∧ Dp K H v d := by
  obtain ⟨us, ws, rfl, h1, h2⟩ := DpAll.split h
  cases h2 with
  | cons h3 h4 => cases h4; exact ⟨us, _, rfl, h1, h3⟩
theorem DpAll.nil_iff {ds : List PyData} {vs : List V} (h : DpAll K H vs ds) : vs.isEmpty = ds.isEmpty := by cases h <;> rfl
/-! ### for x in e, e a list or a tuple -/
def iSeq (K : PySem.W.Frag) (tl : TE) : TI := fun σ H R => tl σ H fun x H1 => ∃ a, x = .ref a ∧ (((∃ xs, SqL K H1 a xs) ∧ R (Itl K a) H1) ∨ ((∃ xs, SqT K H1 a xs) ∧ R (Itt K a) H1))
theorem pi_seq {X : Cx} {tg l : Expr} {tl : TE} (hl : PE X l tl) : PI X tg l (iSeq X.K tl) := by
  refine ⟨fun pins s σ H R I h => thn (hl.run pins s σ H _ I h) fun v s1 z => ?_⟩
  obtain ⟨x, H1, I1, r1, a, rfl, q1⟩ := z
  cases r1
  have fp : ∀ b, b ∈ [s1.heap.objs.size] → FpOk X pins H1 b := fun b hb => by
    rw [List.mem_singleton.mp hb]
    exact I1.fpOk (Nat.le_refl _) (I1.hok.fresh (Nat.le_refl _))
  rcases q1 with ⟨⟨xs, hq⟩, q⟩ | ⟨⟨xs, hq⟩, q⟩
  · obtain ⟨its, rv, p, hz⟩ := I1.list hq
    exact wpAny_pyIter_list p.isList ⟨_, _, _, _, H1, rfl, I1.kept (t' := s1.toks) fun b o e => Heap.get?_push_of_some _ e, turn_list a _, ⟨_, Heap.get?_push_size _ rfl, rfl, rfl⟩, fp, q⟩
  · obtain ⟨its, rv, p, hz⟩ := I1.tuple hq
    exact wpAny_pyIter_tuple (show s1.heap.IsTuple a its.toArray from p) ⟨_, _, _, _, H1, rfl, I1.kept (t' := s1.toks) fun b o e => Heap.get?_push_of_some _ e, turn_tuple a _, ⟨_, Heap.get?_push_size _ rfl, rfl, rfl⟩, fp, q⟩
end
end HM

namespace HM
open PySem PySem.Spec PyProof.Rows L2
section
variable {X : Cx}
def CPowW (i j : Int) : Prop := 0 ≤ j ∧ (Builtin.Int.intBits i : Int) * j ≤ 2 ^ 27
theorem op_powW : OpR X (binaryOp .Pow) (rI CPowW fun i j => .int (i ^ j.toNat)) := opI fun _ _ _ _ _ _ _ hc q => pow_int hc.1 hc.2 q
/-- a text k times -/
def repS (z : Str) (k : Nat) : Str := ⟨(List.replicate k z.cps.toList).flatten.toArray⟩
theorem foldl_app (a : Array Nat) : ∀ (k : Nat) (acc : Array Nat), (List.replicate k a).foldl (· ++ ·) acc = acc ++ (List.replicate k a.toList).flatten.toArray
  | 0, acc => by simp
  | k + 1, acc => by
    rw [List.replicate_succ, List.foldl_cons, foldl_app a k, List.replicate_succ, List.flatten_cons]
    apply Array.ext'
    simp
def rMulS : R2 := fun x y H Q => ∃ z k, x = .str z ∧ y = .int k ∧ 0 ≤ k ∧ k ≤ 100000 ∧ z.length * k.toNat ≤ 100000 ∧ Q (.str (repS z k.toNat)) H
theorem op_mulS : OpR X (binaryOp .Mult) rMulS := by
  intro pins s σ H x y v u Q I rx ry h
  obtain ⟨z, k, rfl, rfl, h0, h1, h2, q⟩ := h
  obtain ⟨t, rfl⟩ := rx
  obtain ⟨t', rfl⟩ := ry
  refine P.mul_str (by simp; omega) (fun a b => ?_) (fun a b => ?_) ?_
  · have h3 : (z.length : Int) * k ≤ 100000 := by
      have : ((z.length * k.toNat : Nat) : Int) ≤ 100000 := by omega
      rw [Int.natCast_mul, Int.toNat_of_nonneg h0] at this
      exact this
    intro c
    have h4 : (z.length : Int) ≤ 100000 := by
      have : (z.length : Int) * 1 ≤ (z.length : Int) * k := Int.mul_le_mul_of_nonneg_left (by omega) (by omega)
      omega
    have h5 : (100000 : Int) ≤ (2 ^ 63 - 1) / k := by
      apply Int.le_ediv_of_mul_le (by omega)
      omega
    omega
  · unfold Builtin.Str.tooLong
    apply decide_eq_false
    have : (100000 : Nat) ≤ sizeLine := by decide
    omega
  · by_cases c : k < 1
    · rw [if_pos c]
      have : k = 0 := by omega
      subst this
      exact ⟨by decide, .str (repS z 0), H, I.tok _, ⟨s.toks, by rw [show repS z 0 = Str.empty from by simp [repS]; rfl]⟩, q⟩
    · rw [if_neg c]
      by_cases d : (k == 1 || z.length == 0) = true
      · rw [if_pos d]
        refine ⟨.str (repS z k.toNat), H, I, ⟨t, ?_⟩, q⟩
        have : repS z k.toNat = z := by
          rw [Bool.or_eq_true] at d
          rcases d with d | d
          · have : k = 1 := by simpa using d
            subst this
            simp [repS]
          · have h0 : z.cps.size = 0 := (show z.length = 0 by simpa using d)
            have h1 : z.cps = #[] := Array.eq_empty_of_size_eq_zero h0
            obtain ⟨c⟩ := z
            simp at h1
            subst h1
            simp [repS]
        rw [this]
      · rw [if_neg d]
        have e : (⟨(List.replicate k.toNat z.cps).foldl (· ++ ·) #[]⟩ : Str) = repS z k.toNat := by
          unfold repS
          rw [foldl_app]
          simp
        rw [e]
        refine ⟨?_, .str (repS z k.toNat), H, I.tok _, ⟨_, rfl⟩, q⟩
        show (repS z k.toNat).cps.size ≤ sizeLine
        have e2 : (repS z k.toNat).cps.size = z.length * k.toNat := by
          unfold repS
          simp [List.length_flatten]
          show k.toNat * z.cps.size = z.cps.size * k.toNat
          rw [Nat.mul_comm]
        rw [e2]
        exact Nat.le_trans h2 (by decide)
end
end HM

namespace HM
open PySem PySem.Spec PyProof.Rows L2
/-! ### written data: what an expression evaluates to, as data -/
section
variable {K : PySem.W.Frag} {σ : L2.St} {H : Hp} {Q : VK} {d : PyData} {ds : List PyData} {te : TE} {ta : TA}
def EvD (K : PySem.W.Frag) (te : TE) (σ : L2.St) (H : Hp) (d : PyData) : Prop := ∀ H1, Same H H1 → ∀ Q : VK, (∀ v H2, Same H1 H2 → Dp K H2 v d → Q v H2) → te σ H1 Q
def EvDs (K : PySem.W.Frag) (ta : TA) (σ : L2.St) (H : Hp) (ds : List PyData) : Prop := ∀ H1, Same H H1 → ∀ Q : List V → Hp → Prop, (∀ vs H2, Same H1 H2 → DpAll K H2 vs ds → Q vs H2) → ta σ H1 Q
theorem evd_int {i : Int} : EvD K (tC (.int i)) σ H (.int i) := fun H1 _ _ q => q _ H1 (Same.refl H1) (.int i)
theorem evd_str {x : Str} : EvD K (tC (.str x)) σ H (.str x) := fun H1 _ _ q => q _ H1 (Same.refl H1) (.str x)
theorem evd_bl {b : Bool} : EvD K (tC (.bl b)) σ H (.bool b) := fun H1 _ _ q => q _ H1 (Same.refl H1) (.bl b)
theorem evd_non : EvD K (tC .non) σ H .none := fun H1 _ _ q => q _ H1 (Same.refl H1) .non
theorem evd_neg {i : Int} : EvD K (tUn (rU fun i => .int (-i)) (tC (.int i))) σ H (.int (-i)) := fun H1 _ _ q => ⟨i, rfl, q _ H1 (Same.refl H1) (.int (-i))⟩
theorem evd_var {i : Nat} {v : V} (e : σ[i]? = some (some v)) (h : Dp K H v d) : EvD K (tVar i) σ H d := fun H1 s _ q => ⟨v, e, q _ H1 (Same.refl H1) (Dp.same s _ _ h)⟩
theorem evds_nil : EvDs K tNil σ H [] := fun H1 _ _ q => q [] H1 (Same.refl H1) .nil
theorem evds_cons (h : EvD K te σ H d) (hr : EvDs K ta σ H ds) : EvDs K (tCons te ta) σ H (d :: ds) := fun H1 s1 _ q =>
  h H1 s1 _ fun v H2 s2 dv => hr H2 (s1.trans s2) _ fun vs H3 s3 dvs => q _ H3 (s2.trans s3) (.cons (Dp.same s3 _ _ dv) dvs)
theorem evd_tup (h : EvDs K ta σ H ds) (hl : ds.length ≤ 100000) : EvD K (tTup ta) σ H (.tuple ds) := fun H1 s1 _ q =>
  h H1 s1 _ fun vs H2 s2 dvs => ⟨Nat.le_trans (by rw [DpAll.length dvs]; exact hl) (by decide), fun p np => q _ _ (s2.trans (same_upd np)) (.tup (SqT.of upd_same) (DpAll.same (same_upd np) _ _ dvs))⟩
theorem evd_lst (h : EvDs K ta σ H ds) (hl : ds.length ≤ 100000) : EvD K (tLst ta) σ H (.list ds) := fun H1 s1 _ q =>
  h H1 s1 _ fun vs H2 s2 dvs => ⟨Nat.le_trans (by rw [DpAll.length dvs]; exact hl) (by decide), fun p np => q _ _ (s2.trans (same_upd np)) (.lst (SqL.of upd_same) (DpAll.same (same_upd np) _ _ dvs))⟩
theorem evd_use (h : EvD K te σ H d) (q : ∀ v H2, Same H H2 → Dp K H2 v d → Q v H2) : te σ H Q := h H (Same.refl H) Q q
theorem evl_use (h : EvDs K ta σ H ds) (hl : ds.length ≤ 100000) (q : ∀ p H2 vs, Same H H2 → H p = none → H2 p = some (.lst vs) → DpAll K H2 vs ds → Q (.ref p) H2) : tLst ta σ H Q :=
  h H (Same.refl H) _ fun vs H2 s2 dvs => ⟨Nat.le_trans (by rw [DpAll.length dvs]; exact hl) (by decide), fun p np => q p _ vs (s2.trans (same_upd np)) (s2.free np) upd_same (DpAll.same (same_upd np) _ _ dvs)⟩
theorem DpAll.mem : ∀ {vs : List V} {ds : List PyData} {v : V}, DpAll K H vs ds → v ∈ vs → ∃ d ∈ ds, Dp K H v d
  | _, _, _, .nil, h => by cases h
  | _, _, v, .cons (d := d) h t, hm => by
    rcases List.mem_cons.mp hm with rfl | hm
    · exact ⟨d, List.mem_cons_self, h⟩
    · obtain ⟨e, he, h2⟩ := DpAll.mem t hm
      exact ⟨e, List.mem_cons_of_mem _ he, h2⟩
end
/-! ### [e for a, b in enumerate(xs)] -/
theorem wipe2 (σ : L2.St) (i j : Nat) (u v : Option V) : wipe (((wipe σ [i, j]).set i u).set j v) [i, j] = wipe σ [i, j] := by
  show ((((((σ.set j none).set i none).set i u).set j v).set j none).set i none) = (σ.set j none).set i none
  apply List.ext_getElem?
  intro k
  simp only [List.getElem?_set, List.length_set]
  by_cases h1 : i = k
  · simp [h1]
  · by_cases h2 : j = k
    · simp [h1, h2]
    · simp [h1, h2]
section
variable {R : Nat → V → Hp → Prop} {i j n2 : Nat} {σ : L2.St} {el : TE} {H : Hp} {Q : VK} {K : PySem.W.Frag} {a : Addr} {xs : List V}
theorem lc_e (hn2 : n2 = 2) (hx : SqL K H a xs) (hn : xs.length ≤ sizeLine) (hR : ∀ m y H1 H2, Tk H1 H2 → R m y H1 → R m y H2)
    (hs : ∀ (m : Nat) x H1 (k : VK), xs[m]? = some x → Same H H1 → (∀ y H2, Same H1 H2 → R m y H2 → k y H2) → el (((wipe σ [i, j]).set i (some (.int (m : Nat)))).set j (some x)) H1 k)
    (hq : ∀ D H2 ys, H D = none → Same H H2 → H2 D = some (.lst ys) → ys.length = xs.length → (∀ m y, ys[m]? = some y → R m y H2) → Q (.ref D) H2) :
    LcG (Ite K a) (gTup K n2 (gCons (gName i) (gCons (gName j) gNil))) tYes el [i, j] σ H Q := by
  subst hn2
  intro D hD
  let Pv : Nat → Hp → Prop := fun m H1 => Same H H1 ∧ ∃ ys, H1 D = some (.lst ys) ∧ ys.length = m ∧ ∀ k y, ys[k]? = some y → R k y H1
  refine ⟨fun m c H1 => c = xs.length - m ∧ m ≤ xs.length ∧ Pv m H1, ⟨xs.length, by simp, Nat.zero_le _, same_upd hD, [], upd_same, rfl, fun k y e => by simp at e⟩, ?_⟩
  rintro m c H1 ⟨rfl, hm, sm, ys, eD, el1, eR⟩
  by_cases hlt : m < xs.length
  · refine .inr ⟨⟨xs, xs[m], sm.seq hx, by simp [hlt]⟩, Pv (m + 1), fun H' p' => ⟨xs.length - (m + 1), by omega, rfl, hlt, p'⟩, fun v H2 yl => ?_⟩
    obtain ⟨T, x, rfl, nT, rfl, f1⟩ := yl
    have hx1 := f1 xs (sm.seq hx)
    have s2 : Same H1 (upd H1 T (.tup [.int (m : Nat), x])) := same_upd nT
    refine ⟨T, _, rfl, SqT.of upd_same, rfl, _, _, rfl, _, _, rfl, rfl, wipe2 σ i j _ _, ?_⟩
    show el (((wipe σ [i, j]).set i (some (.int (m : Nat)))).set j (some x)) _ _
    refine hs m x _ _ hx1 (sm.trans s2) fun y H3 s3 r3 => ?_
    have eD3 : H3 D = some (.lst ys) := s3 D _ (s2 D _ eD)
    have tD : Tk H3 (upd H3 D (.lst (ys ++ [y]))) := Tk.upd fun u e => by rw [eD3] at e; cases e; exact fun f => f
    have hl : ys.length < sizeLine := by rw [el1]; omega
    refine ⟨ys, eD3, hl, Same.mut (sm.trans (s2.trans s3)) hD, ys ++ [y], upd_same, by rw [List.length_append, el1]; rfl, fun k y' e => ?_⟩
    by_cases hk : k < ys.length
    · rw [List.getElem?_append_left hk] at e
      exact hR k y' _ _ ((Tk.of (s2.trans s3)).trans tD) (eR k y' e)
    · have hk2 : k = m := by
        have : k < (ys ++ [y]).length := (List.getElem?_eq_some_iff.mp e).1
        rw [List.length_append, List.length_singleton] at this
        omega
      subst hk2
      rw [List.getElem?_append_right (by omega), el1, Nat.sub_self] at e
      simp at e
      subst e
      exact hR k y _ _ tD r3
  · have e : m = xs.length := by omega
    subst e
    exact .inl ⟨⟨xs, sm.seq hx, Nat.le_refl _⟩, hq D H1 ys hD sm eD el1 eR⟩
end
end HM

namespace HM
open PySem PySem.Spec PyProof.Rows L2
/-! ### sorted(xs, key=f), f a def of the text whose key is data -/
def rSortK (K : PySem.W.Frag) (sp : Sp) : V → Hp → VK → Prop := fun v H Q => ∃ (a : Addr) (xs : List V) (kz : List PyData), v = .ref a ∧ (SqL K H a xs ∨ SqT K H a xs) ∧ kz.length = xs.length ∧ PySem.W.AllAlike kz ∧ PySem.W.Sortable kz ∧ (∀ d ∈ kz, d.depth ≤ 60) ∧
  (∀ (i : Nat) x d H1, xs[i]? = some x → kz[i]? = some d → Same H H1 → sp [x] H1 (fun y H2 => Same H1 H2 ∧ Dp K H2 y d) E0) ∧
  ∀ H' p, Same H H' → H p = none → H' p = none → Q (.ref p) (upd H' p (.lst (((xs.zip kz).mergeSort (PySem.W.dataLe false Prod.snd)).map Prod.fst)))
theorem get_freed (h : Heap) (a : Addr) : (h.update a fun o => { o with data := .freed }).get? a = none := by
  unfold Heap.get? Heap.update
  simp only [Array.getElem?_modify, if_pos]
  cases h.objs[a]? <;> rfl
section
variable {X : Cx} {pins : List (Addr × Obj)} {σ : L2.St} {H : Hp} {s : Shared}
theorem seq_at {a : Addr} {xs : List V} (I : Inv X pins σ H s) (h : SqL X.K H a xs ∨ SqT X.K H a xs) : ∃ its : List Value, Vals xs its ∧ xs.length ≤ sizeLine ∧ ∃ (T : String) (o : Obj) (n : Nat), (T = "list" ∨ T = "tuple") ∧ s.heap.get? a = some o ∧ o.cls = .type T ∧ o.data = .seq its.toArray n := by
  rcases h with h | h
  · obtain ⟨its, r, p, z⟩ := I.list h
    obtain ⟨o, h1, h2, n, h3⟩ := p.isList
    exact ⟨its, r, z, "list", o, n, .inl rfl, h1, h2, h3⟩
  · obtain ⟨its, r, p, z⟩ := I.tuple h
    obtain ⟨o, h1, h2, n, h3⟩ := p
    exact ⟨its, r, z, "tuple", o, n, .inr rfl, h1, h2, h3⟩
theorem valsGet : ∀ {xs : List V} {us : List Value} {i : Nat} {x : V} {u : Value}, Vals xs us → xs[i]? = some x → us[i]? = some u → RelV x u
  | _, _, 0, _, _, .cons r _, h1, h2 => by cases h1; cases h2; exact r
  | _, _, i + 1, _, _, .cons _ t, h1, h2 => valsGet t (by simpa using h1) (by simpa using h2)
theorem vals_of_each {bs : List (V × PyData)} {us : List Value} (h : PySem.W.EachIs (fun u (b : V × PyData) => RelV b.1 u) us bs) : Vals (bs.map Prod.fst) us := by
  induction h with
  | nil => exact .nil
  | cons h _ ih => exact .cons h ih
theorem each_of_vals : ∀ {xs : List V} {us : List Value} {kz : List PyData}, Vals xs us → kz.length = xs.length → PySem.W.EachIs (fun u (b : V × PyData) => RelV b.1 u) us (xs.zip kz)
  | _, _, [], .nil, _ => .nil
  | _, _, _ :: _, .nil, h => by cases h
  | _, _, [], .cons _ _, h => by cases h
  | _, _, _ :: _, .cons r t, h => .cons r (each_of_vals t (by simpa using h))
theorem readsE : ∀ {ys : List V} {us : List Value} {ds : List PyData}, Inv X pins σ H s → Vals ys us → DpAll X.K H ys ds → PySem.W.EachIs (fun v d => ∃ as, Reads s.heap v d as) us ds
  | _, _, _, _, .nil, .nil => .nil
  | _, _, _, I, .cons r t, .cons d ds => .cons (Dp.reads I _ _ _ d r) (readsE I t ds)
theorem fp_pin {s0 : Shared} (I0 : Inv X pins σ H s0) {b : Addr} {o : Obj} (h : s0.heap.objs.size ≤ b) (hn : H b = none) {H' : Hp} {s' : Shared} (g : s'.heap.get? b = some o) (n : H' b = none) (hc : ∀ v, o.data ≠ .cell v) : s'.heap.get? b = some o ∧ H' b = none ∧ b ≠ X.env.locals ∧ b ∉ X.fs ∧ ∀ v, o.data ≠ .cell v :=
  ⟨g, n, (I0.fpOk h hn).2.1, (I0.fpOk h hn).2.2.1, hc⟩
theorem sortK_rest {k : Nat} {p : Str} {sp : Sp} {f : Addr} {fd : FuncData} (F : FnOk X.prog X.w X.K X.mg X.base CX0 k f fd [p] sp) (hb : Binds X.K fd [p] []) (hr : Room (k + 2) X.A) {s0 : Shared} (I0 : Inv X pins σ H s0) (I : Inv X pins σ H s) {D kS : Addr} {e1 : Nat} (hD : s0.heap.objs.size ≤ D) (hK : s0.heap.objs.size ≤ kS) (hDK : kS ≠ D)
    (gD : s.heap.get? D = some (seqObj "list" #[] e1)) (gK : s.heap.get? kS = some (seqObj "list" #[] 0)) {xs : List V} {its : List Value} {kz : List PyData} {Q : VK} {E : Value → Shared → Prop}
    (r1 : Vals xs its) (hz : its.length ≤ sizeLine) (hlen : kz.length = xs.length) (hal : PySem.W.AllAlike kz) (hso : PySem.W.Sortable kz) (hdp : ∀ d ∈ kz, d.depth ≤ 60)
    (turn : ∀ (i : Nat) x d H1, xs[i]? = some x → kz[i]? = some d → Same H H1 → sp [x] H1 (fun y H2 => Same H1 H2 ∧ Dp X.K H2 y d) E0)
    (q : ∀ H' p, Same H H' → H p = none → H' p = none → Q (.ref p) (upd H' p (.lst (((xs.zip kz).mergeSort (PySem.W.dataLe false Prod.snd)).map Prod.fst)))) :
    wpAny (model X.prog X.w) X.A.in1.in1 (ksk_rest D (.ref f) false its.toArray e1 (.ref kS)) (fun fin s' => fin = .done (.ret .none) ∧ EP X pins σ Q (.ref D) s') E s := by
  have hl1 : xs.length = its.length := r1.length
  have nD : H D = none := I0.hok.fresh hD
  have nK : H kS = none := I0.hok.fresh hK
  have ncell : ∀ (ws : Array Value) (n : Nat) (v : Option Value), (seqObj "list" ws n).data ≠ .cell v := fun _ _ _ z => by cases z
  have pinned : ∀ {H' : Hp} {s' : Shared} {kA : Array Value} {e : Nat}, Inv X pins σ H' s' → s'.heap.get? D = some (seqObj "list" #[] e1) → s'.heap.get? kS = some (seqObj "list" kA e) → H' D = none → H' kS = none → Inv X ((D, seqObj "list" #[] e1) :: (kS, seqObj "list" kA e) :: pins) σ H' s' := by
    intro H' s' kA e I' d1 d2 n1 n2
    refine I'.pins_of fun b hb => ?_
    rcases List.mem_cons.mp hb with rfl | hb
    · exact fp_pin I0 hD nD d1 n1 (ncell _ _)
    rcases List.mem_cons.mp hb with rfl | hb
    · exact fp_pin I0 hK nK d2 n2 (ncell _ _)
    · exact I'.pin b (List.mem_append_right _ hb)
  unfold ksk_rest
  refine wpAny_bind (wpAny_rule ?_); first | rw [List.forIn_toArray] | (rw [← Array.forIn_toList]; simp only [List.toList_toArray]) | rw [← Array.forIn_toList]
  refine wpAny_bind (ksk_fold (fun i s' => ∃ H' kA e ys, Inv X ((D, seqObj "list" #[] e1) :: (kS, seqObj "list" kA e) :: pins) σ H' s' ∧ Same H H' ∧ Vals ys kA.toList ∧ DpAll X.K H' ys (kz.take i)) its 0 s ?_ ?_ ?_)
  · exact ⟨H, #[], 0, [], pinned I gD gK nD nK, fun _ _ e => e, .nil, by rw [List.take_zero]; exact .nil⟩
  · rintro j v s' hv ⟨H', kA, e, ys, I', sm, vy, dy⟩
    rw [Nat.zero_add] at dy ⊢
    have hj : j < its.length := (List.getElem?_eq_some_iff.mp hv).1
    obtain ⟨x, hx, rx⟩ : ∃ x, xs[j]? = some x ∧ RelV x v := by
      have h1 : j < xs.length := by omega
      exact ⟨xs[j], List.getElem?_eq_getElem h1, valsGet r1 (List.getElem?_eq_getElem h1) hv⟩
    obtain ⟨d, hd⟩ : ∃ d, kz[j]? = some d := ⟨_, List.getElem?_eq_getElem (by omega)⟩
    have hkl : kA.size ≤ its.length := by
      have h1 := vy.length
      have h2 := DpAll.length dy
      rw [List.length_take] at h2
      have h3 : kA.toList.length = kA.size := by simp
      rw [← h3, ← h1, h2]
      exact Nat.le_trans (Nat.min_le_left _ _) (Nat.le_of_lt hj)
    have e0 : Env0 X.prog X.w X.K X.mg X.base X.A.in1.in1 X.stack s' H' := I'.env0.in1.in1
    have hrun := F.run X.A.in1.in1 X.stack s' H' ⟨[v], []⟩ [v] [x] _ E0 hr.in1.in1 e0 (by have := hb s' [v] I'.kIn rfl; simpa using this) (.cons rx .nil) (turn j x d H' hx hd sm)
    refine wpAny_bind (wpAny_attempt (wpAny_call (codeAny_mono hrun fun r s2 hq => ?_)))
    cases r with
    | error e => exact False.elim hq
    | ok fl =>
      cases fl with
      | next => exact False.elim hq
      | brk => exact False.elim hq
      | cont => exact False.elim hq
      | ret u =>
        obtain ⟨y, H2, I2, ry, sm2, hdy⟩ := I'.after hq
        have pK := I2.pin (kS, seqObj "list" kA e) (List.mem_append_right _ (by simp))
        have pD := I2.pin (D, seqObj "list" #[] e1) (List.mem_append_right _ (by simp))
        have s1 := Heap.SameBut.update s2.heap kS (Obj.mapSeq (·.push u))
        obtain ⟨c2, hc2⟩ : ∃ c2, (s2.heap.update kS (Obj.mapSeq (·.push u))).get? kS = some (seqObj "list" (kA.push u) c2) := ⟨_, get?_update_seq pK.1 (·.push u)⟩
        have fK := I0.fpOk (H' := H2) hK pK.2.1
        have I3 : Inv X pins σ H2 { s2 with heap := s2.heap.update kS (Obj.mapSeq (·.push u)) } := by
          have I2' : Inv X pins σ H2 s2 := I2.pins_of fun b hb => I2.pin b (List.mem_append_right _ (by simp [hb]))
          exact I2'.turned (t' := s2.toks) (fun b o hb e => (s1.2 b hb).trans e) pK.2.1 fK.2.1 fK.2.2.2.1 fK.2.2.2.2.1 fK.2.2.2.2.2
        refine wpAny_bind (listUpdate_at pK.1 rfl ?_ (Nat.le_trans hkl hz) (Nat.le_trans (Nat.le_of_eq (Array.size_push ..)) (Nat.succ_le_succ (Nat.le_trans hkl hz))))
        refine wpAny_pure ⟨rfl, H2, kA.push u, c2, ys ++ [y], pinned I3 ((s1.2 D hDK.symm).trans pD.1) hc2 pD.2.1 pK.2.1, fun b o eb => sm2 b o (sm b o eb), ?_, ?_⟩
        · rw [Array.toList_push]
          exact vy.append (.cons ry .nil)
        · rw [List.take_add_one, hd]
          exact DpAll.append (DpAll.same sm2 _ _ dy) (.cons hdy .nil)
  · rintro s' ⟨H', kA, e, ys, I', sm, vy, dy⟩
    have ek : kz.take (0 + its.length) = kz := List.take_of_length_le (by omega)
    rw [ek] at dy
    have pK := I'.pin (kS, seqObj "list" kA e) (List.mem_append_right _ (by simp))
    have pD := I'.pin (D, seqObj "list" #[] e1) (List.mem_append_right _ (by simp))
    have hkl : kA.size = its.length := by
      have h1 := vy.length
      have h2 := DpAll.length dy
      have h3 : kA.toList.length = kA.size := by simp
      omega
    have I2 : Inv X pins σ H' s' := I'.pins_of fun b hb => I'.pin b (List.mem_append_right _ (by simp [hb]))
    have sK := Heap.SameBut.update s'.heap kS fun o => { o with data := .freed }
    refine wpAny_bind (listItems_at pK.1 rfl ?_)
    have hS : PySem.W.SortsAt X.prog X.w X.A.in1.in1 s' (PySem.W.dataKind s'.heap kz) kA.toList := PySem.W.SortsAt.data (readsE I2 vy dy) hal hso fun d hd => by
      have := hr.in1.in1.units
      have := hdp d hd
      omega
    refine PySem.W.keyH_end (κ := PySem.W.dataKind s'.heap kz) (h₁ := s'.heap.update kS fun o => { o with data := .freed }) (fun b o hb eb => ?_) (get_freed _ _) pK.1 pD.1 hDK hS hkl hz fun h3 tk c k3 n3 => ⟨rfl, ?_⟩
    · by_cases hbk : b = kS
      · rw [hbk, get_freed] at eb
        cases eb
      · rw [← sK.2 b hbk]
        exact eb
    have kk : ∀ b o, b ∉ [kS, D] → s'.heap.get? b = some o → h3.get? b = some o := fun b o hb eb => k3 b o (fun z => hb (by simp [z])) ((sK.2 b fun z => hb (by simp [z])).trans eb)
    have I3 : Inv X pins σ H' { s' with heap := h3, toks := tk } := I2.turnedL (t' := tk) kk fun b hb => by
      rcases List.mem_cons.mp hb with rfl | hb
      · exact I0.fpOk hK pK.2.1
      · rw [List.mem_singleton.mp hb]
        exact I0.fpOk hD pD.2.1
    have hout : PySem.W.EachIs (fun u (b : V × PyData) => RelV b.1 u) (PySem.W.sortVals (PySem.W.dataKind s'.heap kz) false kA.toList its) ((xs.zip kz).mergeSort (PySem.W.dataLe false Prod.snd)) := by
      refine PySem.W.keyedOut_each (bs := xs.zip kz) (vs := its) Prod.snd ?_ (each_of_vals r1 hlen)
      rw [List.map_snd_zip (by omega)]
      exact ⟨s'.heap, kA.toList, hal, rfl, readsE I2 vy dy⟩
    have hv := vals_of_each hout
    have hvl : (((xs.zip kz).mergeSort (PySem.W.dataLe false Prod.snd)).map Prod.fst).length ≤ sizeLine := by
      rw [List.length_map, List.length_mergeSort, List.length_zip]
      omega
    exact ⟨.ref D, _, I3.take (o := .lst (((xs.zip kz).mergeSort (PySem.W.dataLe false Prod.snd)).map Prod.fst)) (t' := tk) (h' := h3) (fun _ _ _ e => e) (I0.fpOk hD pD.2.1) ⟨hvl, _, c, hv, n3⟩, rfl, q H' D sm nD pD.2.1⟩
theorem sortK_core {k : Nat} {p : Str} {sp : Sp} {f : Addr} {fd : FuncData} (F : FnOk X.prog X.w X.K X.mg X.base CX0 k f fd [p] sp) (hb : Binds X.K fd [p] []) (hr : Room (k + 2) X.A) (I : Inv X pins σ H s) {xs : List V} {its : List Value} {kz : List PyData} {Q : VK} {E : Value → Shared → Prop}
    (r1 : Vals xs its) (hz : its.length ≤ sizeLine) (hlen : kz.length = xs.length) (hal : PySem.W.AllAlike kz) (hso : PySem.W.Sortable kz) (hdp : ∀ d ∈ kz, d.depth ≤ 60)
    (turn : ∀ (i : Nat) x d H1, xs[i]? = some x → kz[i]? = some d → Same H H1 → sp [x] H1 (fun y H2 => Same H1 H2 ∧ Dp X.K H2 y d) E0)
    (q : ∀ H' p, Same H H' → H p = none → H' p = none → Q (.ref p) (upd H' p (.lst (((xs.zip kz).mergeSort (PySem.W.dataLe false Prod.snd)).map Prod.fst)))) :
    wpAny (model X.prog X.w) X.A.in1.in1 (ksk_tree s.heap.objs.size (.ref f) false) (fun fin s' => fin = .done (.ret .none) ∧ EP X pins σ Q (.ref s.heap.objs.size) s') E { s with heap := s.heap.push (seqObj "list" its.toArray 0) } := by
  have hl1 : xs.length = its.length := r1.length
  have g0 : (s.heap.push (seqObj "list" its.toArray 0)).get? s.heap.objs.size = some (seqObj "list" its.toArray 0) := Heap.get?_push_size _ rfl
  obtain ⟨e1, g1⟩ : ∃ e1, ((s.heap.push (seqObj "list" its.toArray 0)).update s.heap.objs.size (Obj.mapSeq fun _ => (#[] : Array Value))).get? s.heap.objs.size = some (seqObj "list" #[] e1) := ⟨_, get?_update_seq g0 fun _ => #[]⟩
  unfold ksk_tree
  refine wpAny_bind (listItems_at g0 rfl (wpAny_bind (listUpdate_at g0 rfl (wpAny_bind (seqEpoch_at g1 rfl (wpAny_bind (wpAny_newTuple (wpAny_bind (wpAny_newList (wpAny_holding ?_) (Nat.zero_le _))) ?_)))) ?_ (Nat.zero_le _))))
  rotate_left
  · simpa using hz
  · simpa using hz
  have k0 : ∀ b u, s.heap.get? b = some u → ((s.heap.push (seqObj "list" its.toArray 0)).update s.heap.objs.size (Obj.mapSeq fun _ => (#[] : Array Value))).get? b = some u := fun b u e =>
    (Heap.get?_update_other _ _ (Nat.ne_of_gt (Heap.lt_size e))).trans (Heap.get?_push_of_some _ e)
  have z0 : ((s.heap.push (seqObj "list" its.toArray 0)).update s.heap.objs.size (Obj.mapSeq fun _ => (#[] : Array Value))).objs.size = s.heap.objs.size + 1 := by rw [Heap.size_update, size_push']
  generalize ((s.heap.push (seqObj "list" its.toArray 0)).update s.heap.objs.size (Obj.mapSeq fun _ => (#[] : Array Value))) = h1 at g1 k0 z0 ⊢
  have g2 : ((h1.push (seqObj "tuple" its.toArray 0)).push (seqObj "list" #[] 0)).get? s.heap.objs.size = some (seqObj "list" #[] e1) := Heap.get?_push_of_some _ (Heap.get?_push_of_some _ g1)
  have g3 : ((h1.push (seqObj "tuple" its.toArray 0)).push (seqObj "list" #[] 0)).get? (s.heap.objs.size + 2) = some (seqObj "list" #[] 0) := by
    have := Heap.get?_push_size (h1.push (seqObj "tuple" its.toArray 0)) (o := seqObj "list" #[] 0) rfl
    rw [size_push', z0] at this
    exact this
  have k2 : ∀ b u, s.heap.get? b = some u → ((h1.push (seqObj "tuple" its.toArray 0)).push (seqObj "list" #[] 0)).get? b = some u := fun b u e => Heap.get?_push_of_some _ (Heap.get?_push_of_some _ (k0 b u e))
  have z2 : (h1.push (seqObj "tuple" its.toArray 0)).objs.size = s.heap.objs.size + 2 := by rw [size_push', z0]
  have I2 : Inv X pins σ H { s with heap := (h1.push (seqObj "tuple" its.toArray 0)).push (seqObj "list" #[] 0) } := I.kept (t' := s.toks) k2
  have fin := sortK_rest (E := E) F hb hr I I2 (D := s.heap.objs.size) (kS := s.heap.objs.size + 2) (e1 := e1) (Nat.le_refl _) (Nat.le_add_right _ 2) (fun z => by have z2 : s.heap.objs.size + 2 = s.heap.objs.size := z; omega) g2 g3 r1 hz hlen hal hso hdp turn q
  rw [← z2] at fin
  exact fin
theorem sortK_run {k : Nat} {p : Str} {sp : Sp} {f : Addr} {fd : FuncData} (F : FnOk X.prog X.w X.K X.mg X.base CX0 k f fd [p] sp) (hb : Binds X.K fd [p] []) (hr : Room (k + 2) X.A) (I : Inv X pins σ H s) {v : V} {u : Value} (rv : RelV v u) {Q : VK} (h : rSortK X.K sp v H Q) :
    wpAny (model X.prog X.w) X.A (call (.builtin "sorted") [u] [(Str.ofString "key", .ref f)]) (EP X pins σ Q) X.xe s := by
  obtain ⟨a, xs, kz, rfl, hs, hlen, hal, hso, hdp, turn, q⟩ := h
  cases rv
  obtain ⟨its, r1, hz, T, o, n, hT, ho, hc, hd⟩ := seq_at I hs
  have hzi : its.length ≤ sizeLine := by rw [← r1.length]; exact hz
  refine PyProof.Rows.call_function_entry_kw kind_sorted plain_sorted entry_sorted (ksk_s1 _ _) ?_; unfold Builtin.«sorted»
  refine wpAny_bind (m := checkCount "sorted" 1 1 _) (wpAny_pure (wpAny_bind (wpAny_collect_seq a hT ho hc hd (fun h1 k1 => ?_) (by rw [List.size_toArray]; exact hzi))))
  have I1 : Inv X pins σ H { s with heap := h1 } := I.kept (t' := s.toks) k1
  refine wpAny_bind (wpAny_newList (wpAny_bind (wpAny_holding (wpAny_call_entry_kw slot_list_sort ⟨_, Heap.get?_push_size _ rfl, rfl⟩ entry_list_sort ?_ (ksk_l1 _ _)))) (by simpa using hzi))
  have fin := sortK_core (E := X.xe) F hb hr I1 r1 hzi hlen hal hso hdp turn q
  refine wpAny_mono (show wpAny _ _ (Builtin.«list.sort» ⟨[.ref h1.objs.size], [(Str.ofString "key", .ref f)]⟩) _ X.xe _ from fin) (fun fl s' hf => ?_) fun _ _ e => e
  obtain ⟨rfl, hq⟩ := hf
  exact ⟨_, rfl, wpAny_pure ⟨_, rfl, hq⟩⟩
end
/-- sorted(e, key=x), x a def of the text -/
def tSortK (K : PySem.W.Frag) (sp : Sp) (t : TA) : TE := fun σ H Q => t σ H fun vs H1 => ∃ v, vs = [v] ∧ rSortK K sp v H1 Q
theorem pe_sortK {X : Cx} {x p : Str} {k : Nat} {sp : Sp} {e : Expr} {t : TA} {p1 p2 p3 pos : Pos} (O : Okf X.prog X.w X.K X.mg X.base x k [p] [] sp) (hr : Room (k + 2) X.A) (hg : Gl X "sorted") (hm : X.mg "sorted" = none) (hx : Gl X x) (ha : PA X [e] t) (hdb : (x == ("__debug__" : Str)) = false := by decide)
    (he : backTo pos (starEach [e] X.env) = (false, eval e X.env) :: backTo pos (starEach [] X.env) := by rfl) (hpl : (backTo pos (starEach [e] X.env)).any (·.1) = false := by rfl)
    (hall : (backToKw pos (keywordEach [⟨some "key", .Name x p2, p3⟩] X.env)).all (·.1.isSome) = true := by rfl) (hnone : (backToKw pos (keywordEach [⟨some "key", .Name x p2, p3⟩] X.env)).any (·.1.isNone) = false := by rfl) (hks : (backToKw pos (keywordEach [⟨some "key", .Name x p2, p3⟩] X.env)).filterMap (·.1) = [Str.ofString "key"] := by rfl) :
    PE X (.Call (.Name "sorted" p1) [e] [⟨some "key", .Name x p2, p3⟩] pos) (tSortK X.K sp t) := by
  obtain ⟨f, fd, us, hmx, hk, hv, hb, _, F⟩ := O
  cases hv
  have pf : PE X (.Name x p2) (tC (.ref f)) := pe_glob (v := .ref f) hx hmx rfl hdb
  have cr : CallRK X (.builtin "sorted") [Str.ofString "key"] (fun vs zs H Q => zs = [.ref f] ∧ ∃ v, vs = [v] ∧ rSortK X.K sp v H Q) := by
    rintro pins s σ H vs zs us ws Q I r rz ⟨rfl, v, rfl, h⟩
    obtain ⟨u, rfl, ru⟩ := vals1 r
    obtain ⟨w1, rfl, e1⟩ := vals1 rz
    cases e1
    exact sortK_run F hb hr I ru h
  have base := pe_callBK (p := p1) (pos := pos) cr hg hm (by decide +kernel) ha (pk_cons (nm := some "key") (kpos := p3) pf pk_nil) (he := he) (hpl := hpl) (hall := hall) (hnone := hnone) (hks := hks)
  refine ⟨fun pins s σ H Q I h => base.run pins s σ H Q I ?_⟩
  have e : (fun (vs : List V) (H1 : Hp) => ([V.ref f] : List V) = [V.ref f] ∧ ∃ v, vs = [v] ∧ rSortK X.K sp v H1 Q) = fun vs H1 => ∃ v, vs = [v] ∧ rSortK X.K sp v H1 Q := by
    funext vs H1
    simp only [true_and]
  show t σ H fun (vs : List V) (H1 : Hp) => ([V.ref f] : List V) = [V.ref f] ∧ ∃ v, vs = [v] ∧ rSortK X.K sp v H1 Q
  rw [e]
  exact h
end HM

namespace HM
open PySem PySem.Spec PyProof.Rows L2
section
variable {X : Cx}
/-! ### data: less, greater, within, taken out -/
def rLtD (K : PySem.W.Frag) : R2 := fun x y H Q => ∃ d e, Dp K H x d ∧ Dp K H y e ∧ PySem.W.alike d e = true ∧ d ≠ .none ∧ min d.depth e.depth ≤ 64 ∧ Q (.bl (PySem.W.dataLt d e)) H
def rGtD (K : PySem.W.Frag) : R2 := fun x y H Q => ∃ d e, Dp K H x d ∧ Dp K H y e ∧ PySem.W.alike d e = true ∧ d ≠ .none ∧ min d.depth e.depth ≤ 64 ∧ Q (.bl (PySem.W.dataLt e d)) H
theorem op_ltD (hu : X.A.units + 64 < cLine) : OpR X (compareOp .Lt) (rLtD X.K) := by
  intro pins s σ H x y v u Q I rx ry h
  obtain ⟨d, e, hd, he, ha, hn, hm, q⟩ := h
  obtain ⟨as, r1⟩ := Dp.reads I d x v hd rx
  obtain ⟨bs, r2⟩ := Dp.reads I e y u he ry
  exact PySem.W.lt_data r1 r2 ha hn (by omega) ⟨.bl _, H, I, rfl, q⟩
theorem op_gtD (hu : X.A.units + 64 < cLine) : OpR X (compareOp .Gt) (rGtD X.K) := by
  intro pins s σ H x y v u Q I rx ry h
  obtain ⟨d, e, hd, he, ha, hn, hm, q⟩ := h
  obtain ⟨as, r1⟩ := Dp.reads I d x v hd rx
  obtain ⟨bs, r2⟩ := Dp.reads I e y u he ry
  exact PySem.W.gt_data r1 r2 ha hn (by omega) ⟨.bl _, H, I, rfl, q⟩
/-- x in xs, x not in xs, for data and a list of data -/
def rInD (K : PySem.W.Frag) (n : Bool) : R2 := fun x y H Q => ∃ d es, Dp K H x d ∧ Dp K H y (.list es) ∧ d.canLay0 = true ∧ PyData.canLayAll0 es = true ∧ d.depth ≤ 60 ∧ Q (.bl (n != es.any fun z => PyData.eqv z d)) H
theorem op_inD (hu : X.A.units + 64 < cLine) : OpR X (compareOp .In) (rInD X.K false) := by
  intro pins s σ H x y v u Q I rx ry h
  obtain ⟨d, es, hd, he, c1, c2, hm, q⟩ := h
  obtain ⟨as, r1⟩ := Dp.reads I d x v hd rx
  obtain ⟨bs, r2⟩ := Dp.reads I _ y u he ry
  refine SeqAt.in_list_reads r2 r1 c2 c1 (by omega) ⟨.bl _, H, I, rfl, ?_⟩
  rw [Bool.false_bne] at q
  exact q
theorem op_notInD (hu : X.A.units + 64 < cLine) : OpR X (compareOp .NotIn) (rInD X.K true) := by
  intro pins s σ H x y v u Q I rx ry h
  obtain ⟨d, es, hd, he, c1, c2, hm, q⟩ := h
  obtain ⟨as, r1⟩ := Dp.reads I d x v hd rx
  obtain ⟨bs, r2⟩ := Dp.reads I _ y u he ry
  refine SeqAt.notIn_list_reads r2 r1 c2 c1 (by omega) ⟨.bl _, H, I, rfl, ?_⟩
  rw [Bool.true_bne] at q
  exact q
/-- two rules for one sign -/
def rOr (r r' : R2) : R2 := fun x y H Q => r x y H Q ∨ r' x y H Q
theorem op_or {op : Value → Value → Sem Value} {r r' : R2} (h : OpR X op r) (h' : OpR X op r') : OpR X op (rOr r r') := by
  intro pins s σ H x y v u Q I rx ry q
  rcases q with q | q
  · exact h pins s σ H x y v u Q I rx ry q
  · exact h' pins s σ H x y v u Q I rx ry q
/-- l.remove(x): the first that is equal goes -/
def rRemD (K : PySem.W.Frag) : V → List V → Hp → VK → Prop := fun x ys H Q => ∃ (l : Addr) (xs : List V) (y : V) (d : PyData) (es : List PyData) (j : Nat), x = .ref l ∧ ys = [y] ∧ H l = some (.lst xs) ∧ DpAll K H xs es ∧ Dp K H y d ∧ d.canLay0 = true ∧ PyData.canLayAll0 es = true ∧ d.depth ≤ 60 ∧
  es.findIdx? (fun z => PyData.eqv z d) = some j ∧ Q .non (upd H l (.lst (xs.eraseIdx j)))
theorem readsAllE : ∀ {pins : List (Addr × Obj)} {σ : L2.St} {H : Hp} {s : Shared} {ys : List V} {us : List Value} {ds : List PyData}, Inv X pins σ H s → Vals ys us → DpAll X.K H ys ds → ∃ as, ReadsAll s.heap us ds as
  | _, _, _, _, _, _, _, _, .nil, .nil => ⟨_, .nil⟩
  | _, _, _, _, _, _, _, I, .cons r t, .cons d ds => by
    obtain ⟨as, h1⟩ := Dp.reads I _ _ _ d r
    obtain ⟨bs, h2⟩ := readsAllE I t ds
    exact ⟨_, .cons h1 h2⟩
theorem mt_removeD (hu : X.A.units + 64 < cLine) : MtR X "list.remove" (rRemD X.K) := by
  intro pins s σ H x xs v us Q I rx rxs h
  obtain ⟨l, zs, y, d, es, j, rfl, rfl, hH, de, dd, c1, c2, hm, hj, q⟩ := h
  cases rx
  obtain ⟨u, rfl, ru⟩ := rxs.one
  obtain ⟨z, its, n, r, hl, e⟩ := I.lstM hH
  obtain ⟨as, r1⟩ := Dp.reads I d y u dd ru
  obtain ⟨bs, r2⟩ := readsAllE I r de
  have hlt : min (PyData.depthAll es) d.depth ≤ 60 := Nat.le_trans (Nat.min_le_right _ _) hm
  refine PySem.SeqAt.remove_list_data (vs := its.toArray) ⟨_, e, rfl, n, rfl⟩ (by simpa using r2) r1 (PyData.plainAll_of_canLay0 _ c2) (PyData.plain_of_canLay0 _ c1) (by omega) hj (by rw [List.size_toArray]; omega) ?_
  refine ⟨.non, _, I.lset (its' := its.eraseIdx j) (t' := s.toks) hH e (by rw [List.eraseIdxIfInBounds_toArray]) (r.eraseIdx j) ?_, rfl, q⟩
  exact Nat.le_trans (List.length_eraseIdx_le _ _) z
end
end HM

namespace K1
open PySem PySem.Spec PyProof.Rows L2 HM
def tooGreat : Int := 1000000000000000000000000000000000000000000000000000000000000000000000000000000000000000000000000000000000000000000000000000000000000000000000000000000000000000000000000000000000000000000000000000000000000000000000000000000000000000000000000000000000000000000000000000000000000000000000000000000000000
def topS (i : Nat) : Stmt := PySem.Challenge.pw_hornmill_k03_whole_order_of_terms.main.body.getD i (.Pass ⟨0, 0, 0, 0⟩)
abbrev s_is_int : Stmt := topS 7
theorem sc_is_int : FnScope ["thing"] ["thing"] (defScope s_is_int) := ⟨rfl, rfl, rfl, by decide +kernel, rfl, by decide +kernel, by decide +kernel⟩
abbrev s_is_variable : Stmt := topS 8
theorem sc_is_variable : FnScope ["thing"] ["thing"] (defScope s_is_variable) := ⟨rfl, rfl, rfl, by decide +kernel, rfl, by decide +kernel, by decide +kernel⟩
abbrev s_is_any_number : Stmt := topS 9
theorem sc_is_any_number : FnScope ["thing"] ["thing"] (defScope s_is_any_number) := ⟨rfl, rfl, rfl, by decide +kernel, rfl, by decide +kernel, by decide +kernel⟩
abbrev s_is_any_atom : Stmt := topS 10
theorem sc_is_any_atom : FnScope ["thing", "sign"] ["thing"] (defScope s_is_any_atom) := ⟨rfl, rfl, rfl, by decide +kernel, rfl, by decide +kernel, by decide +kernel⟩
abbrev s_is_compound : Stmt := topS 11
theorem sc_is_compound : FnScope ["term"] ["term"] (defScope s_is_compound) := ⟨rfl, rfl, rfl, by decide +kernel, rfl, by decide +kernel, by decide +kernel⟩
abbrev s_is_term : Stmt := topS 12
theorem sc_is_term : FnScope ["thing", "waiting", "part"] ["thing"] (defScope s_is_term) := ⟨rfl, rfl, rfl, by decide +kernel, rfl, by decide +kernel, by decide +kernel⟩
abbrev s_check_terms : Stmt := topS 13
theorem sc_check_terms : FnScope ["things", "thing"] ["things"] (defScope s_check_terms) := ⟨rfl, rfl, rfl, by decide +kernel, rfl, by decide +kernel, by decide +kernel⟩
abbrev s_parts_of : Stmt := topS 14
theorem sc_parts_of : FnScope ["term", "found", "waiting", "part"] ["term"] (defScope s_parts_of) := ⟨rfl, rfl, rfl, by decide +kernel, rfl, by decide +kernel, by decide +kernel⟩
abbrev s_order_key : Stmt := topS 16
theorem sc_order_key : FnScope ["term", "found", "part"] ["term"] (defScope s_order_key) := ⟨rfl, rfl, rfl, by decide +kernel, rfl, by decide +kernel, by decide +kernel⟩
abbrev s_compare_terms : Stmt := topS 17
theorem sc_compare_terms : FnScope ["one", "other", "here", "there"] ["one", "other"] (defScope s_compare_terms) := ⟨rfl, rfl, rfl, by decide +kernel, rfl, by decide +kernel, by decide +kernel⟩
abbrev s_sort_terms : Stmt := topS 18
theorem sc_sort_terms : FnScope ["terms"] ["terms"] (defScope s_sort_terms) := ⟨rfl, rfl, rfl, by decide +kernel, rfl, by decide +kernel, by decide +kernel⟩
abbrev s__law_cell_at : Stmt := topS 20
theorem sc__law_cell_at : FnScope ["_law_script", "_law_k"] ["_law_script", "_law_k"] (defScope s__law_cell_at) := ⟨rfl, rfl, rfl, by decide +kernel, rfl, by decide +kernel, by decide +kernel⟩
abbrev s__law_well : Stmt := topS 21
theorem sc__law_well : FnScope ["_law_cell"] ["_law_cell"] (defScope s__law_well) := ⟨rfl, rfl, rfl, by decide +kernel, rfl, by decide +kernel, by decide +kernel⟩
abbrev s__law_draw : Stmt := topS 22
theorem sc__law_draw : FnScope ["_law_well_here", "_law_many", "_law_digit", "_law_mixed"] ["_law_well_here", "_law_many"] (defScope s__law_draw) := ⟨rfl, rfl, rfl, by decide +kernel, rfl, by decide +kernel, by decide +kernel⟩
abbrev s__law_one : Stmt := topS 23
theorem sc__law_one : FnScope ["_law_well_here", "_law_some"] ["_law_well_here", "_law_some"] (defScope s__law_one) := ⟨rfl, rfl, rfl, by decide +kernel, rfl, by decide +kernel, by decide +kernel⟩
abbrev s__law_leaf : Stmt := topS 24
theorem sc__law_leaf : FnScope ["_law_well_here", "_law_many", "_law_way", "_law_great"] ["_law_well_here", "_law_many"] (defScope s__law_leaf) := ⟨rfl, rfl, rfl, by decide +kernel, rfl, by decide +kernel, by decide +kernel⟩
abbrev s__law_term : Stmt := topS 25
theorem sc__law_term : FnScope ["_law_well_here", "_law_deep", "_law_many", "_law_some", "_law_name", "_law_arity", "_law_k"] ["_law_well_here", "_law_deep", "_law_many"] (defScope s__law_term) := ⟨rfl, rfl, rfl, by decide +kernel, rfl, by decide +kernel, by decide +kernel⟩
abbrev s__law_is_variable : Stmt := topS 26
theorem sc__law_is_variable : FnScope ["_law_term_here"] ["_law_term_here"] (defScope s__law_is_variable) := ⟨rfl, rfl, rfl, by decide +kernel, rfl, by decide +kernel, by decide +kernel⟩
abbrev s__law_is_compound : Stmt := topS 27
theorem sc__law_is_compound : FnScope ["_law_term_here"] ["_law_term_here"] (defScope s__law_is_compound) := ⟨rfl, rfl, rfl, by decide +kernel, rfl, by decide +kernel, by decide +kernel⟩
abbrev s__law_parts : Stmt := topS 28
theorem sc__law_parts : FnScope ["_law_term_here", "_law_found", "_law_part"] ["_law_term_here"] (defScope s__law_parts) := ⟨rfl, rfl, rfl, by decide +kernel, rfl, by decide +kernel, by decide +kernel⟩
abbrev s__law_numbers : Stmt := topS 29
theorem sc__law_numbers : FnScope ["_law_term_here", "_law_found", "_law_part"] ["_law_term_here"] (defScope s__law_numbers) := ⟨rfl, rfl, rfl, by decide +kernel, rfl, by decide +kernel, by decide +kernel⟩
abbrev s__law_put : Stmt := topS 30
theorem sc__law_put : FnScope ["_law_term_here", "_law_table", "_law_part"] ["_law_term_here", "_law_table"] (defScope s__law_put) := ⟨rfl, rfl, rfl, by decide +kernel, rfl, by decide +kernel, by decide +kernel⟩
abbrev s__law_anew : Stmt := topS 31
theorem sc__law_anew : FnScope ["_law_term_here", "_law_first", "_law_at", "_law_number"] ["_law_term_here", "_law_first"] (defScope s__law_anew) := ⟨rfl, rfl, rfl, by decide +kernel, rfl, by decide +kernel, by decide +kernel⟩
abbrev s__law_rank : Stmt := topS 32
theorem sc__law_rank : FnScope ["_law_term_here"] ["_law_term_here"] (defScope s__law_rank) := ⟨rfl, rfl, rfl, by decide +kernel, rfl, by decide +kernel, by decide +kernel⟩
abbrev s__law_order : Stmt := topS 33
theorem sc__law_order : FnScope ["_law_one_here", "_law_other", "_law_ranks", "_law_mine", "_law_its", "_law_found"] ["_law_one_here", "_law_other"] (defScope s__law_order) := ⟨rfl, rfl, rfl, by decide +kernel, rfl, by decide +kernel, by decide +kernel⟩
abbrev s__law_near : Stmt := topS 34
theorem sc__law_near : FnScope ["_law_well_here", "_law_term_here", "_law_at"] ["_law_well_here", "_law_term_here"] (defScope s__law_near) := ⟨rfl, rfl, rfl, by decide +kernel, rfl, by decide +kernel, by decide +kernel⟩
abbrev s__law_right : Stmt := topS 35
theorem sc__law_right : FnScope ["_law_well_here", "_law_some", "_law_turn", "_law_one_here", "_law_other", "_law_found", "_law_left", "_law_back"] ["_law_well_here"] (defScope s__law_right) := ⟨rfl, rfl, rfl, by decide +kernel, rfl, by decide +kernel, by decide +kernel⟩
abbrev s_law : Stmt := topS 36
theorem sc_law : FnScope ["_law_script", "_law_k"] ["_law_script"] (defScope s_law) := ⟨rfl, rfl, rfl, by decide +kernel, rfl, by decide +kernel, by decide +kernel⟩
structure Bf (K : PySem.W.Frag) (mg : Str → Option Value) : Prop where
  b_isinstance : mg "isinstance" = none
  b_int : mg "int" = none
  b_bool : mg "bool" = none
  b_tuple : mg "tuple" = none
  b_len : mg "len" = none
  b_abs : mg "abs" = none
  b_all : mg "all" = none
  b_str : mg "str" = none
  b_ord : mg "ord" = none
  b_sorted : mg "sorted" = none
  b_list : mg "list" = none
  b_range : mg "range" = none
  b_dict : mg "dict" = none
  b_enumerate : mg "enumerate" = none
  b_zip : mg "zip" = none
  b_max : mg "max" = none
  b_min : mg "min" = none
  g_MOST_SIGNS : ∃ t, mg "MOST_SIGNS" = some (.int 40 t)
  g_MOST_ARGUMENTS : ∃ t, mg "MOST_ARGUMENTS" = some (.int 8 t)
  g_TOO_GREAT : ∃ t, mg "TOO_GREAT" = some (.int tooGreat t)
local macro_rules | `(tactic| walk_at "rd") => `(tactic| (dsimp only [tSeq, tNext, tRet, tRetN, tAsg, gName, gTup, gCons, gNil, gSub, tDrop, tIfS, tVar, tC, tOp, tUn, tTest, tB, tAnd, tOr, tNot, tAndV, tOrV, tNotV, tIf, tCB, tCons, tNil, tTup, tLst, tCall, tPar, tPar3, tAug, tSl, tPart, tNoPart, tBM, tBM0, tRevT, tRevL, tChain, sDPut, tDGet, tDGet1, tDGet2, tDNewK, tDNewT, tDIn, tDNotIn, tYes, wipe, cxOf, Cx.nox, Cx.wish, L2.start, rI0, rI, rU, ipI, List.length_cons, List.length_nil, List.map_cons, List.map_nil, List.replicate, List.cons_append, List.nil_append, List.append_nil, List.getElem?_cons_zero, List.getElem?_cons_succ, List.set_cons_zero, List.set_cons_succ, Nat.reduceAdd, Nat.reduceSub]; try simp only [List.map_cons, List.map_nil, List.append_nil, List.cons_append, List.nil_append, List.getElem?_cons_zero, List.getElem?_cons_succ, List.set_cons_zero, List.set_cons_succ, rIntI_eq, rIntB_eq, rAbs_eq, Option.some.injEq, V.int.injEq, V.bl.injEq, V.str.injEq, V.ref.injEq, exists_eq_left', exists_and_left, exists_eq', true_and, and_true, if_true, if_false, Bool.false_eq_true]))
local macro_rules | `(tactic| walk_at "r0") => `(tactic| (dsimp only [tSeq, tNext, tRet, tRetN, tAsg, gName, gTup, gCons, gNil, gSub, tDrop, tIfS, tVar, tC, tOp, tUn, tTest, tB, tAnd, tOr, tNot, tAndV, tOrV, tNotV, tIf, tCB, tCons, tNil, tCall, tPar, tPar3, tAug, tSl, tPart, tNoPart, tBM, tBM0, tRevT, tRevL, tChain, sDPut, tDGet, tDGet1, tDGet2, tDNewK, tDNewT, tDIn, tDNotIn, tYes, wipe, cxOf, Cx.nox, Cx.wish, L2.start, rI0, rI, rU, ipI, List.length_cons, List.length_nil, List.map_cons, List.map_nil, List.replicate, List.cons_append, List.nil_append, List.append_nil, List.getElem?_cons_zero, List.getElem?_cons_succ, List.set_cons_zero, List.set_cons_succ, Nat.reduceAdd, Nat.reduceSub]; try simp only [List.map_cons, List.map_nil, List.append_nil, List.cons_append, List.nil_append, List.getElem?_cons_zero, List.getElem?_cons_succ, List.set_cons_zero, List.set_cons_succ, rIntI_eq, rIntB_eq, rAbs_eq, Option.some.injEq, V.int.injEq, V.bl.injEq, V.str.injEq, V.ref.injEq, exists_eq_left', exists_and_left, exists_eq', true_and, and_true, if_true, if_false, Bool.false_eq_true]))
local macro_rules | `(tactic| walk_at "evd") => `(tactic| repeat (first | exact evds_nil | exact evd_int | exact evd_str | exact evd_bl | exact evd_non | exact evd_neg | apply evds_cons | apply evd_tup | apply evd_lst | (simp only [List.length_cons, List.length_nil]; omega)))
section
variable {P : Program} {w : World} {K : PySem.W.Frag} {mg : Str → Option Value} {base : Heap}
def isIntD : PyData → Bool | .int _ => true | _ => false
def sp_is_int (K : PySem.W.Frag) : Sp := fun vs H Q _ => ∃ v d, vs = [v] ∧ Dp K H v d ∧ Q (.bl (isIntD d)) H
theorem ok_is_int (B : Bf K mg) (G : Gd K mg "is_int" s_is_int) : Okf P w K mg base "is_int" 1 ["thing"] [] (sp_is_int K) := by
  refine okf_mk G sc_is_int (fun _ _ _ _ _ _ us hl => match us, hl with | [_], _ => rfl) (fun vs H Q E h => ?_) (fun cdv A outer s H vs Q E hr h => ?_)
  · obtain ⟨v, d, rfl, _⟩ := h
    rfl
  · obtain ⟨v, d, rfl, hd, q⟩ := h
    refine ⟨_, (pss_one (ps_ret (pe_and (pe_callB call_isi (by rfl) B.b_isinstance (by decide +kernel) (pa_cons (pv 0) (pa_cons (pe_bltn (v := .ty "int") (by rfl) B.b_int (by decide +kernel) rfl) pa_nil))) (pe_one (pe_not (pe_callB call_isi (by rfl) B.b_isinstance (by decide +kernel) (pa_cons (pv 0) (pa_cons (pe_bltn (v := .ty "bool") (by rfl) B.b_bool (by decide +kernel) rfl) pa_nil)))))))), ?_⟩
    walk_at "rd"
    refine isi_int hd ⟨_, rfl, ?_⟩
    refine ite2 (fun e => isi_bool hd ⟨_, rfl, ?_⟩) (fun e => ?_)
    · cases d <;> first | exact q | cases e
    · cases d <;> first | exact q | exact absurd rfl e
def isCompD : PyData → Bool | .tuple (_ :: _ :: _) => true | _ => false
def sp_is_compound (K : PySem.W.Frag) : Sp := fun vs H Q _ => ∃ v d, vs = [v] ∧ Dp K H v d ∧ Q (.bl (isCompD d)) H
theorem ok_is_compound (B : Bf K mg) (G : Gd K mg "is_compound" s_is_compound) : Okf P w K mg base "is_compound" 1 ["term"] [] (sp_is_compound K) := by
  refine okf_mk G sc_is_compound (fun _ _ _ _ _ _ us hl => match us, hl with | [_], _ => rfl) (fun vs H Q E h => ?_) (fun cdv A outer s H vs Q E hr h => ?_)
  · obtain ⟨v, d, rfl, _⟩ := h
    rfl
  · obtain ⟨v, d, rfl, hd, q⟩ := h
    refine ⟨_, (pss_one (ps_ret (pe_and (pe_callB call_isi (by rfl) B.b_isinstance (by decide +kernel) (pa_cons (pv 0) (pa_cons (pe_bltn (v := .ty "tuple") (by rfl) B.b_tuple (by decide +kernel) rfl) pa_nil))) (pe_one (pe_cmpR op_gt (pe_callB call_lenQ (by rfl) B.b_len (by decide +kernel) (pa_cons (pv 0) pa_nil)) pe_int (nomark _)))))), ?_⟩
    walk_at "rd"
    refine isi_tuple hd ⟨_, rfl, ite2 (fun e => ?_) (fun e => ?_)⟩
    · cases hd with
      | tup hs ha =>
        refine lenT hs ⟨_, rfl, q_bl ?_ q⟩
        cases ha with
        | nil => rfl
        | cons h1 h2 =>
          cases h2 with
          | nil => rfl
          | cons h3 h4 =>
            simp only [List.length_cons, isCompD, decide_eq_true_eq]
            omega
      | _ => cases e
    · cases d <;> first | exact q | exact absurd rfl e
def isVarD : PyData → Bool | .tuple [.int k] => decide (0 ≤ k) | _ => false
theorem isVarD_two (d e : PyData) (ds : List PyData) : isVarD (.tuple (d :: e :: ds)) = false := by cases d <;> rfl
def sp_is_variable (K : PySem.W.Frag) : Sp := fun vs H Q _ => ∃ v d, vs = [v] ∧ Dp K H v d ∧ Q (.bl (isVarD d)) H
theorem ok_is_variable (B : Bf K mg) (G : Gd K mg "is_variable" s_is_variable) (O_is_int : Okf P w K mg base "is_int" 1 ["thing"] [] (sp_is_int K)) : Okf P w K mg base "is_variable" 2 ["thing"] [] (sp_is_variable K) := by
  refine okf_mk G sc_is_variable (fun _ _ _ _ _ _ us hl => match us, hl with | [_], _ => rfl) (fun vs H Q E h => ?_) (fun cdv A outer s H vs Q E hr h => ?_)
  · obtain ⟨v, d, rfl, _⟩ := h
    rfl
  · obtain ⟨v, d, rfl, hd, q⟩ := h
    refine ⟨_, (pss_one (ps_ret (pe_and (pe_callB call_isi (by rfl) B.b_isinstance (by decide +kernel) (pa_cons (pv 0) (pa_cons (pe_bltn (v := .ty "tuple") (by rfl) B.b_tuple (by decide +kernel) rfl) pa_nil))) (pe_and (pe_cmpR op_eq (pe_callB call_lenQ (by rfl) B.b_len (by decide +kernel) (pa_cons (pv 0) pa_nil)) pe_int (nomark _)) (pe_and (pe_callO O_is_int (hr.mono (by decide)) (by rfl) (pa_cons (pe_ix (show IxR _ (rIxT K) from ix_tup) (pv 0) pe_int (fun _ _ => rfl)) pa_nil)) (pe_one (pe_cmpR op_ge (pe_ix (show IxR _ (rIxT K) from ix_tup) (pv 0) pe_int (fun _ _ => rfl)) pe_int (nomark _)))))))), ?_⟩
    walk_at "rd"
    refine isi_tuple hd ⟨_, rfl, ite2 (fun e => ?_) (fun e => ?_)⟩
    · cases hd with
      | tup hs ha =>
        refine lenT hs (eqI ⟨_, rfl, ?_⟩)
        cases ha with
        | nil => exact q
        | cons h1 h2 =>
          cases h2 with
          | nil =>
            refine iteT (ixT0 hs ⟨_, _, rfl, h1, _, rfl, ite2 (fun e1 => ?_) (fun e1 => ?_)⟩)
            · cases h1 with
              | int i => exact ixT0 hs ⟨_, rfl, q⟩
              | _ => cases e1
            · cases h1 with
              | int i => exact absurd rfl e1
              | _ => exact q
          | cons h3 h4 =>
            refine ite2 (fun e1 => ?_) (fun e1 => q_bl (isVarD_two _ _ _).symm q)
            simp only [List.length_cons, decide_eq_true_eq] at e1
            omega
      | _ => cases e
    · cases d <;> first | exact q | exact absurd rfl e
def isNumD : PyData → Bool | .int i => decide (-tooGreat < i ∧ i < tooGreat) | _ => false
def sp_is_any_number (K : PySem.W.Frag) : Sp := fun vs H Q _ => ∃ v d, vs = [v] ∧ Dp K H v d ∧ Q (.bl (isNumD d)) H
theorem ok_is_any_number (B : Bf K mg) (G : Gd K mg "is_any_number" s_is_any_number) (O_is_int : Okf P w K mg base "is_int" 1 ["thing"] [] (sp_is_int K)) : Okf P w K mg base "is_any_number" 2 ["thing"] [] (sp_is_any_number K) := by
  refine okf_mk G sc_is_any_number (fun _ _ _ _ _ _ us hl => match us, hl with | [_], _ => rfl) (fun vs H Q E h => ?_) (fun cdv A outer s H vs Q E hr h => ?_)
  · obtain ⟨v, d, rfl, _⟩ := h
    rfl
  · obtain ⟨v, d, rfl, hd, q⟩ := h
    refine ⟨_, (pss_one (ps_ret (pe_and (pe_callO O_is_int (hr.mono (by decide)) (by rfl) (pa_cons (pv 0) pa_nil)) (pe_one (pe_cmpR op_lt (pe_callB call_absQ (by rfl) B.b_abs (by decide +kernel) (pa_cons (pv 0) pa_nil)) (pe_globI rfl B.g_TOO_GREAT) (nomark _)))))), ?_⟩
    walk_at "rd"
    refine ⟨_, _, rfl, hd, _, rfl, ite2 (fun e => ?_) (fun e => ?_)⟩
    · cases hd with
      | int i =>
        refine ⟨_, rfl, _, rfl, q_bl ?_ q⟩
        simp only [isNumD, decide_eq_decide]
        split <;> (constructor <;> intro h <;> (try constructor) <;> omega)
      | _ => cases e
    · cases hd with
      | int i => exact absurd rfl e
      | _ => exact q
def signOk (c : Nat) : Bool := decide (32 ≤ c ∧ c ≤ 126 ∧ c ≠ 37)
def atomOk (x : Str) : Bool := decide (x.length ≤ 40) && x.cps.toList.all signOk
def isAtmD : PyData → Bool | .str x => atomOk x | _ => false
def lenOkD : PyData → Prop | .str x => x.length ≤ sizeLine | _ => True
theorem list_of_get {α : Type} {ys zs : List α} (hl : ys.length = zs.length) (h : ∀ (j : Nat) y, ys[j]? = some y → zs[j]? = some y) : ys = zs := by
  apply List.ext_getElem?
  intro j
  cases e : ys[j]? with
  | some y => exact (h j y e).symm
  | none =>
    rw [List.getElem?_eq_none_iff] at e
    exact (List.getElem?_eq_none (by omega)).symm
theorem cmp1 (a b : Nat) : ([a] : List Nat) < [b] ↔ a < b := by
  constructor
  · intro h
    cases h with
    | cons h => cases h
    | rel h => exact h
  · intro h
    exact .rel h
def sp_is_any_atom (K : PySem.W.Frag) : Sp := fun vs H Q _ => ∃ v d, vs = [v] ∧ Dp K H v d ∧ lenOkD d ∧ ∀ H', Same H H' → Q (.bl (isAtmD d)) H'
theorem ok_is_any_atom (B : Bf K mg) (G : Gd K mg "is_any_atom" s_is_any_atom) : Okf P w K mg base "is_any_atom" 1 ["thing"] [] (sp_is_any_atom K) := by
  refine okf_mk G sc_is_any_atom (fun _ _ _ _ _ _ us hl => match us, hl with | [_], _ => rfl) (fun vs H Q E h => ?_) (fun cdv A outer s H vs Q E hr h => ?_)
  · obtain ⟨v, d, rfl, _⟩ := h
    rfl
  · obtain ⟨v, d, rfl, hd, hl, q⟩ := h
    refine ⟨_, (pss_cons (ps_if (PW.pt (pw_or (pt_not (pt_val (pe_callB call_isi (by rfl) B.b_isinstance (by decide +kernel) (pa_cons (pv 0) (pa_cons (pe_bltn (v := .ty "str") (by rfl) B.b_str (by decide +kernel) rfl) pa_nil))))) (pw_or1 (pt_cmpR op_gt (pe_callB call_lenS (by rfl) B.b_len (by decide +kernel) (pa_cons (pv 0) pa_nil)) (pe_globI rfl B.g_MOST_SIGNS) (nomark _)))))
        (pss_one (ps_ret pe_bl))
        pss_nil)
      (pss_one (ps_ret (pe_callB (cr_all rfl) (by rfl) B.b_all (by decide +kernel) (pa_cons (pe_lc (own := [("sign", 1)]) (g := gName 1) (tt := tYes) rfl sc_is_any_atom.nd (pi_str (pv 0)) (blkOk_by (own := [("sign", 1)]) (N := ["thing", "sign"]) (sc := defScope s_is_any_atom) (by decide +kernel)) (fun _ _ _ _ _ => (pg_name (i := 1) sc_is_any_atom.nd rfl (Or.inl rfl))) (fun _ _ _ _ _ => pts_nil) (fun _ _ _ _ _ => (pe_and (pe_chain op_le_str op_le_str pe_str (pv 1) pe_str) (pe_one (pe_cmpR op_ne (pe_callB call_ord (by rfl) B.b_ord (by decide +kernel) (pa_cons (pv 1) pa_nil)) pe_int (nomark _)))))) pa_nil))))), ?_⟩
    walk_at "rd"
    refine isi_str hd ⟨_, rfl, ?_⟩
    cases hd with
    | str x =>
      refine iteF ⟨x, rfl, hl, _, rfl, ite2 (fun e => ?_) (fun e => ?_)⟩
      · refine q_bl ?_ (q H (Same.refl H))
        have e1 : 40 < (x.length : Int) := by simpa using e
        have e' : 40 < x.length := by omega
        simp only [isAtmD, atomOk, show decide (x.length ≤ 40) = false from by simp; omega, Bool.false_and]
      · have e1 : (x.length : Int) ≤ 40 := by simpa using e
        have e' : x.length ≤ 40 := by omega
        refine tlc_of ⟨_, rfl, x, rfl, lc_str (R := fun j y _ => ∃ c, x.cps[j]? = some c ∧ y = .bl (signOk c)) hl (fun _ _ _ _ _ h => h) (fun j c H1 k hc hs kk => ?_) (fun D H2 ys hD hs e2 l r => ?_)⟩
        · walk_at "rd"
          have e3 : (Str.ofString " ").cps.toList = [32] := by decide +kernel
          have e4 : (Str.ofString "~").cps.toList = [126] := by decide +kernel
          rw [e3, e4]
          have key : ∀ b, b = signOk c → k (.bl b) H1 := fun b hb => kk _ _ (Same.refl H1) ⟨c, hc, by rw [hb]⟩
          refine ite2 (fun h1 => ite2 (fun h2 => ⟨_, rfl, rfl, neI (key _ ?_)⟩) (fun h2 => key _ ?_)) (fun h1 => key _ ?_)
          · simp only [Bool.not_eq_true', decide_eq_false_iff_not, cmp1] at h1 h2
            show (!decide ((c : Int) = 37)) = decide (32 ≤ c ∧ c ≤ 126 ∧ c ≠ 37)
            by_cases hc37 : c = 37
            · subst hc37; rfl
            · rw [decide_eq_false (by omega), decide_eq_true (show 32 ≤ c ∧ c ≤ 126 ∧ c ≠ 37 by omega)]; rfl
          · simp only [Bool.not_eq_true', decide_eq_false_iff_not, cmp1, Classical.not_not] at h2
            simp only [signOk]
            exact (decide_eq_false (by omega)).symm
          · simp only [Bool.not_eq_true', decide_eq_false_iff_not, cmp1, Classical.not_not] at h1
            simp only [signOk]
            exact (decide_eq_false (by omega)).symm
        · have ey : ys = (x.cps.toList.map signOk).map V.bl := list_of_get (by simpa using l) fun j y hy => by
            obtain ⟨c, h1, rfl⟩ := r j y hy
            simp [h1]
          refine ⟨D, x.cps.toList.map signOk, rfl, SqL.of (by rw [e2, ey]), q_bl ?_ (q H2 hs)⟩
          simp [isAtmD, atomOk, e', List.all_map]
    | _ => exact iteT (q H (Same.refl H))
/-! ### is_term -/
mutual
def isTerm : PyData → Bool
  | .int i => isNumD (.int i)
  | .str x => atomOk x
  | .tuple [] => false
  | .tuple [d] => isVarD (.tuple [d])
  | .tuple (f :: a :: as) => decide (as.length < 8) && isAtmD f && isTerm a && isTerms as
  | _ => false
def isTerms : List PyData → Bool
  | [] => true
  | d :: ds => isTerm d && isTerms ds
end
mutual
def szD : PyData → Nat
  | .tuple ds => 1 + szDs ds
  | _ => 1
def szDs : List PyData → Nat
  | [] => 0
  | d :: ds => szD d + szDs ds
end
mutual
/-- texts and tuples within the lines -/
def smD : PyData → Prop
  | .str x => x.length ≤ 1000
  | .tuple ds => ds.length ≤ 1000 ∧ smDs ds
  | _ => True
def smDs : List PyData → Prop
  | [] => True
  | d :: ds => smD d ∧ smDs ds
end
theorem szD_pos (d : PyData) : 0 < szD d := by cases d <;> simp [szD] <;> omega
theorem szDs_append : ∀ (a b : List PyData), szDs (a ++ b) = szDs a + szDs b
  | [], b => by simp [szDs]
  | d :: a, b => by rw [List.cons_append]; simp only [szDs]; rw [szDs_append a b]; omega
theorem isTerms_append : ∀ (a b : List PyData), isTerms (a ++ b) = (isTerms a && isTerms b)
  | [], b => by simp [isTerms]
  | d :: a, b => by rw [List.cons_append]; simp only [isTerms]; rw [isTerms_append a b, Bool.and_assoc]
theorem smDs_append : ∀ {a b : List PyData}, smDs (a ++ b) ↔ smDs a ∧ smDs b
  | [], b => by simp [smDs]
  | d :: a, b => by rw [List.cons_append]; simp only [smDs]; rw [smDs_append (a := a), and_assoc]
theorem smDs_length : ∀ {a : List PyData}, a.length ≤ szDs a
  | [] => Nat.le_refl _
  | d :: a => by have := smDs_length (a := a); have := szD_pos d; simp only [List.length_cons, szDs]; omega
theorem lenOk_of {d : PyData} (h : smD d) : lenOkD d := by
  cases d with
  | str x => exact Nat.le_trans (show x.length ≤ 1000 from h) (by decide)
  | _ => exact trivial
theorem isTerm_leaf (d : PyData) (h : isCompD d = false) : isTerm d = (isVarD d || isNumD d || isAtmD d) := by
  cases d with
  | tuple ds =>
    cases ds with
    | nil => rfl
    | cons a r =>
      cases r with
      | nil => simp [isTerm, isNumD, isAtmD]
      | cons b r => cases h
  | _ => simp [isTerm, isVarD, isNumD, isAtmD]
def sp_is_term (K : PySem.W.Frag) : Sp := fun vs H Q _ => ∃ v d, vs = [v] ∧ Dp K H v d ∧ smD d ∧ szD d ≤ 100000 ∧ ∀ H', Same H H' → Q (.bl (isTerm d)) H'
theorem ok_is_term (B : Bf K mg) (G : Gd K mg "is_term" s_is_term) (O_is_compound : Okf P w K mg base "is_compound" 1 ["term"] [] (sp_is_compound K)) (O_is_any_atom : Okf P w K mg base "is_any_atom" 1 ["thing"] [] (sp_is_any_atom K))
    (O_is_variable : Okf P w K mg base "is_variable" 2 ["thing"] [] (sp_is_variable K)) (O_is_any_number : Okf P w K mg base "is_any_number" 2 ["thing"] [] (sp_is_any_number K)) : Okf P w K mg base "is_term" 3 ["thing"] [] (sp_is_term K) := by
  refine okf_mk G sc_is_term (fun _ _ _ _ _ _ us hl => match us, hl with | [_], _ => rfl) (fun vs H Q E h => ?_) (fun cdv A outer s H vs Q E hr h => ?_)
  · obtain ⟨v, d, rfl, _⟩ := h
    rfl
  · obtain ⟨v, d, rfl, hd, hm, hz, q⟩ := h
    refine ⟨_, (pss_cons (ps_set (i := 1) sc_is_term.nd rfl (Or.inl rfl) (pe_lst (pa_cons (pv 0) pa_nil)))
      (pss_cons (ps_while PassesOwn.never (pt_cmpR (op_neNil hr.units0) (pv 1) (pe_lst pa_nil) (nomark _))
      (pss_cons (ps_set (i := 2) sc_is_term.nd rfl (Or.inl rfl) (pe_bm0 PySem.F.plainAttrs_list PySem.F.slot_list_pop PySem.F.type_list_pop mt_pop (pv 1)))
      (pss_one (ps_if (pt_val (pe_callO O_is_compound (hr.mono (by decide)) (by rfl) (pa_cons (pv 2) pa_nil)))
        (pss_cons (ps_if (PW.pt (pw_or (pt_cmpR op_gt (pe_callB call_lenQ (by rfl) B.b_len (by decide +kernel) (pa_cons (pv 2) pa_nil)) (pe_op op_add (pe_globI rfl B.g_MOST_ARGUMENTS) pe_int) (nomark _)) (pw_or1 (pt_not (pt_val (pe_callO O_is_any_atom (hr.mono (by decide)) (by rfl) (pa_cons (pe_ix (show IxR _ (rIxT K) from ix_tup) (pv 2) pe_int (fun _ _ => rfl)) pa_nil)))))))
        (pss_one (ps_ret pe_bl))
        pss_nil)
      (pss_one (ps_expr (pe_bm PySem.F.plainAttrs_list PySem.F.slot_list_extend PySem.F.type_list_extend mt_extendT (pv 1) (pa_cons (pe_slice sl_tupA (pv 2) (po_some pe_int) po_none) pa_nil)))))
        (pss_one (ps_if (PW.pt (pw_and (pt_not (pt_val (pe_callO O_is_variable (hr.mono (by decide)) (by rfl) (pa_cons (pv 2) pa_nil)))) (pw_and (pt_not (pt_val (pe_callO O_is_any_number (hr.mono (by decide)) (by rfl) (pa_cons (pv 2) pa_nil)))) (pw_and1 (pt_not (pt_val (pe_callO O_is_any_atom (hr.mono (by decide)) (by rfl) (pa_cons (pv 2) pa_nil))))))))
        (pss_one (ps_ret pe_bl))
        pss_nil))))))
      (pss_one (ps_ret pe_bl)))), ?_⟩
    walk_at "rd"
    refine ⟨(by show 1 ≤ sizeLine; decide), fun p np => ?_⟩
    refine twhile_of (fun m σ H1 => ∃ ws ds z, σ = [some v, some (.ref p), z] ∧ Same H H1 ∧ H1 p = some (.lst ws) ∧ DpAll K H ws ds ∧ smDs ds ∧ szDs ds ≤ 100000 ∧ m = szDs ds ∧ isTerms ds = isTerm d) (m := szD d)
      ⟨[v], [d], none, rfl, same_upd np, upd_same, .cons hd .nil, ⟨hm, trivial⟩, by simp [szDs]; exact hz, by simp [szDs], by simp [isTerms]⟩ ?_
    rintro m σ H1 ⟨ws, ds, z, rfl, sm, ep, dp, hm1, hz1, rfl, ht⟩
    walk_at "rd"
    refine ⟨Nat.zero_le _, fun b nb => neNilR ep nb ⟨_, rfl, ?_⟩⟩
    have ep1 : upd H1 b (.lst []) p = some (.lst ws) := by rw [upd_ne (ne_of_none ep nb)]; exact ep
    have s1 : Same H (upd H1 b (.lst [])) := sm.trans (same_upd nb)
    generalize upd H1 b (.lst []) = H2 at ep1 s1 ⊢
    rcases concat_or ds with rfl | ⟨ds, d0, rfl⟩
    · cases dp
      refine iteF (q_bl ?_ (q H2 s1))
      rw [← ht]; rfl
    · obtain ⟨ws, v0, rfl, dq, d0p⟩ := DpAll.snoc dp
      clear dp
      rw [show (!(ws ++ [v0]).isEmpty) = true by simp]
      obtain ⟨hm2, hm3, _⟩ := smDs_append.mp hm1
      rw [szDs_append] at hz1
      have hz2 : szDs ds + szD d0 ≤ 100000 := by simpa [szDs] using hz1
      have hz3 : szDs (ds ++ [d0]) = szDs ds + szD d0 := by rw [szDs_append]; simp [szDs]
      have ht2 : (isTerms ds && isTerm d0) = isTerm d := by rw [← ht, isTerms_append]; simp [isTerms]
      have hlen : ws.length ≤ 100000 := by have := DpAll.length dq; have := smDs_length (a := ds); omega
      have hpos := szD_pos d0
      refine iteT ⟨_, fun σ' H' h => h, tyL ep1, popR ep1 ?_⟩
      have t3 : Same H (upd H2 p (.lst ws)) := Same.mut s1 np
      have e3 : upd H2 p (.lst ws) p = some (.lst ws) := upd_same
      generalize upd H2 p (.lst ws) = H3 at t3 e3 ⊢
      have d3 : Dp K H3 v0 d0 := Dp.same t3 _ _ d0p
      have no : isTerm d0 = false → ∀ H', Same H H' → Q (.bl false) H' := fun e H' s' => q_bl (by rw [← ht2, e, Bool.and_false]) (q H' s')
      rw [hz3]
      refine ⟨_, d0, rfl, d3, _, rfl, ite2 (fun c => ?_) (fun c => ?_)⟩
      · cases d0p with
        | @tup a xs es hs ha =>
          cases ha with
          | nil => cases c
          | @cons f xs df es h1 h2 =>
            cases h2 with
            | nil => cases c
            | @cons u xs du es h3 h4 =>
              have hl4 := DpAll.length h4
              have hs3 := Same.sqT t3 hs
              have hsm : smD df ∧ smD du ∧ smDs es := by simpa [smD, smDs] using hm3.2
              have hsz : szD (.tuple (df :: du :: es)) = 1 + (szD df + (szD du + szDs es)) := by simp [szD, szDs]
              have := szD_pos df
              have := smDs_length (a := es)
              refine lenT hs3 ⟨_, rfl, ite2 (fun c1 => ?_) (fun c1 => ?_)⟩
              · refine no ?_ H3 t3
                have c2 : 8 < es.length + 1 := by simp at c1; omega
                simp only [isTerm, show decide (es.length < 8) = false from by simp; omega, Bool.false_and]
              · have c2 : es.length < 8 := by simp at c1; omega
                refine ixT0 hs3 ⟨_, df, rfl, Dp.same t3 _ _ h1, lenOk_of hsm.1, fun H4 s4 => ⟨_, rfl, ite2 (fun c3 => ?_) (fun c3 => ?_)⟩⟩
                · refine no ?_ H4 (t3.trans s4)
                  have c4 : isAtmD df = false := by simpa using c3
                  simp [isTerm, c4]
                · have c4 : isAtmD df = true := by simpa using c3
                  have e4 : H4 p = some (.lst ws) := s4 _ _ e3
                  refine ⟨tyL e4, slT1 (Same.sqT (t3.trans s4) hs) fun p1 n1 => extT (by rw [upd_ne (ne_of_none e4 n1)]; exact e4) upd_same ?_ ?_⟩
                  · show ws.length + (xs.length + 1) ≤ sizeLine
                    exact Nat.le_trans (show _ ≤ 200000 by omega) (by decide)
                  · refine ⟨szDs (ds ++ du :: es), ?_, ws ++ u :: xs, ds ++ du :: es, _, rfl, Same.mut ((t3.trans s4).trans (same_upd n1)) np, upd_same, DpAll.append dq (.cons h3 h4), smDs_append.mpr ⟨hm2, hsm.2⟩, ?_, rfl, ?_⟩
                    · rw [szDs_append, hsz]; simp only [szDs]; omega
                    · rw [szDs_append]; simp only [szDs]; omega
                    · rw [isTerms_append, ← ht2]
                      simp [isTerm, isTerms, c4, c2]
        | _ => cases c
      · have leaf := isTerm_leaf d0 (by simpa using c)
        have nx : isTerm d0 = true → ∀ H', Same H3 H' → ∃ m', m' < szDs ds + szD d0 ∧ ∃ ws ds z, [some v, some (.ref p), some v0] = [some v, some (.ref p), z] ∧ Same H H' ∧ H' p = some (.lst ws) ∧ DpAll K H ws ds ∧ smDs ds ∧ szDs ds ≤ 100000 ∧ m' = szDs ds ∧ isTerms ds = isTerm d :=
          fun e H' s' => ⟨szDs ds, by omega, ws, ds, some v0, rfl, t3.trans s', s' _ _ e3, dq, hm2, by omega, rfl, by rw [← ht2, e, Bool.and_true]⟩
        refine ⟨_, d0, rfl, d3, _, rfl, ite2 (fun c1 => ⟨_, d0, rfl, d3, _, rfl, ite2 (fun c2 => ⟨_, d0, rfl, d3, lenOk_of hm3, fun H4 s4 => ⟨_, rfl, ite2 (fun c3 => ?_) (fun c3 => ?_)⟩⟩) (fun c2 => ?_)⟩) (fun c1 => ?_)⟩
        · exact no (by rw [leaf]; simp at c1 c2 c3; simp [c1, c2, c3]) _ (t3.trans s4)
        · exact nx (by rw [leaf]; simp at c3; simp [c3]) _ s4
        · exact nx (by rw [leaf]; simp at c2; simp [c2]) _ (Same.refl _)
        · exact nx (by rw [leaf]; simp at c1; simp [c1]) _ (Same.refl _)
end
end K1

namespace K1
open PySem PySem.Spec PyProof.Rows L2 HM
local macro_rules | `(tactic| walk_at "rd") => `(tactic| (dsimp only [tSeq, tNext, tRet, tRetN, tAsg, gName, gTup, gCons, gNil, gSub, tDrop, tIfS, tVar, tC, tOp, tUn, tTest, tB, tAnd, tOr, tNot, tAndV, tOrV, tNotV, tIf, tCB, tCons, tNil, tTup, tLst, tCall, tPar, tPar3, tAug, tSl, tPart, tNoPart, tBM, tBM0, tRevT, tRevL, tChain, sDPut, tDGet, tDGet1, tDGet2, tDNewK, tDNewT, tDIn, tDNotIn, tYes, wipe, cxOf, Cx.nox, Cx.wish, L2.start, rI0, rI, rU, ipI, List.length_cons, List.length_nil, List.map_cons, List.map_nil, List.replicate, List.cons_append, List.nil_append, List.append_nil, List.getElem?_cons_zero, List.getElem?_cons_succ, List.set_cons_zero, List.set_cons_succ, Nat.reduceAdd, Nat.reduceSub]; try simp only [List.map_cons, List.map_nil, List.append_nil, List.cons_append, List.nil_append, List.getElem?_cons_zero, List.getElem?_cons_succ, List.set_cons_zero, List.set_cons_succ, rIntI_eq, rIntB_eq, rAbs_eq, Option.some.injEq, V.int.injEq, V.bl.injEq, V.str.injEq, V.ref.injEq, exists_eq_left', exists_and_left, exists_eq', true_and, and_true, if_true, if_false, Bool.false_eq_true]))
local macro_rules | `(tactic| walk_at "r0") => `(tactic| (dsimp only [tSeq, tNext, tRet, tRetN, tAsg, gName, gTup, gCons, gNil, gSub, tDrop, tIfS, tVar, tC, tOp, tUn, tTest, tB, tAnd, tOr, tNot, tAndV, tOrV, tNotV, tIf, tCB, tCons, tNil, tCall, tPar, tPar3, tAug, tSl, tPart, tNoPart, tBM, tBM0, tRevT, tRevL, tChain, sDPut, tDGet, tDGet1, tDGet2, tDNewK, tDNewT, tDIn, tDNotIn, tYes, wipe, cxOf, Cx.nox, Cx.wish, L2.start, rI0, rI, rU, ipI, List.length_cons, List.length_nil, List.map_cons, List.map_nil, List.replicate, List.cons_append, List.nil_append, List.append_nil, List.getElem?_cons_zero, List.getElem?_cons_succ, List.set_cons_zero, List.set_cons_succ, Nat.reduceAdd, Nat.reduceSub]; try simp only [List.map_cons, List.map_nil, List.append_nil, List.cons_append, List.nil_append, List.getElem?_cons_zero, List.getElem?_cons_succ, List.set_cons_zero, List.set_cons_succ, rIntI_eq, rIntB_eq, rAbs_eq, Option.some.injEq, V.int.injEq, V.bl.injEq, V.str.injEq, V.ref.injEq, exists_eq_left', exists_and_left, exists_eq', true_and, and_true, if_true, if_false, Bool.false_eq_true]))
local macro_rules | `(tactic| walk_at "evd") => `(tactic| repeat (first | exact evds_nil | exact evd_int | exact evd_str | exact evd_bl | exact evd_non | exact evd_neg | apply evds_cons | apply evd_tup | apply evd_lst | (simp only [List.length_cons, List.length_nil]; omega)))
/-! ### terms -/
inductive Tm where
  | var (k : Nat) | num (i : Int) | atm (x : Str) | cmp (f : Str) (as : List Tm)
mutual
def toD : Tm → PyData
  | .var k => .tuple [.int k]
  | .num i => .int i
  | .atm x => .str x
  | .cmp f as => .tuple (.str f :: toDs as)
def toDs : List Tm → List PyData
  | [] => []
  | t :: ts => toD t :: toDs ts
end
mutual
def wf : Tm → Prop
  | .var _ => True
  | .num i => -tooGreat < i ∧ i < tooGreat
  | .atm x => atomOk x = true
  | .cmp f as => atomOk f = true ∧ as ≠ [] ∧ as.length ≤ 8 ∧ wfs as
def wfs : List Tm → Prop
  | [] => True
  | t :: ts => wf t ∧ wfs ts
end
mutual
def parts : Tm → List Tm
  | .cmp f as => .cmp f as :: partsL as
  | t => [t]
def partsL : List Tm → List Tm
  | [] => []
  | t :: ts => parts t ++ partsL ts
end
mutual
def depth : Tm → Nat
  | .cmp _ as => 1 + depthL as
  | _ => 1
def depthL : List Tm → Nat
  | [] => 0
  | t :: ts => max (depth t) (depthL ts)
end
theorem toDs_append : ∀ (a b : List Tm), toDs (a ++ b) = toDs a ++ toDs b
  | [], b => rfl
  | t :: a, b => by simp only [List.cons_append, toDs, toDs_append a b]
theorem toDs_length : ∀ (a : List Tm), (toDs a).length = a.length
  | [] => rfl
  | t :: a => by simp only [List.length_cons, toDs, toDs_length a]
theorem toDs_reverse : ∀ (a : List Tm), toDs a.reverse = (toDs a).reverse
  | [] => rfl
  | t :: a => by rw [List.reverse_cons, toDs_append, toDs_reverse a]; simp [toDs]
theorem wfs_append : ∀ {a b : List Tm}, wfs (a ++ b) ↔ wfs a ∧ wfs b
  | [], b => by simp [wfs]
  | t :: a, b => by rw [List.cons_append]; simp only [wfs]; rw [wfs_append (a := a), and_assoc]
theorem wfs_reverse : ∀ {a : List Tm}, wfs a → wfs a.reverse
  | [], _ => trivial
  | t :: a, h => by rw [List.reverse_cons]; exact wfs_append.mpr ⟨wfs_reverse h.2, h.1, trivial⟩
theorem partsL_append : ∀ (a b : List Tm), partsL (a ++ b) = partsL a ++ partsL b
  | [], b => rfl
  | t :: a, b => by simp only [List.cons_append, partsL, partsL_append a b, List.append_assoc]
theorem atomOk_len {x : Str} (h : atomOk x = true) : x.length ≤ 40 := by
  unfold atomOk at h
  simp at h
  exact h.1
theorem toDs_get : ∀ {a : List Tm} {i : Nat} {t : Tm}, a[i]? = some t → (toDs a)[i]? = some (toD t)
  | [], i, t, h => by simp at h
  | x :: a, 0, t, h => by simp at h; subst h; rfl
  | x :: a, i + 1, t, h => by simpa [toDs] using toDs_get (a := a) (i := i) (t := t) (by simpa using h)
mutual
theorem wf_isTerm : ∀ (t : Tm), wf t → isTerm (toD t) = true
  | .var k, _ => by simp [toD, isTerm, isVarD]
  | .num i, h => by simp [toD, isTerm, isNumD]; exact h
  | .atm x, h => by simp only [toD, isTerm]; exact h
  | .cmp f as, h => by
    obtain ⟨h1, h2, h3, h4⟩ := h
    cases as with
    | nil => exact absurd rfl h2
    | cons a as =>
      have q := wfs_isTerms (a :: as) h4
      simp only [toD, toDs, isTerm, isAtmD, h1, toDs_length]
      simp only [toDs, isTerms] at q
      rw [Bool.and_eq_true] at q
      rw [List.length_cons] at h3
      simp [q.1, q.2]
      omega
theorem wfs_isTerms : ∀ (ts : List Tm), wfs ts → isTerms (toDs ts) = true
  | [], _ => rfl
  | t :: ts, h => by simp only [toDs, isTerms, wf_isTerm t h.1, wfs_isTerms ts h.2, Bool.and_self]
end
mutual
theorem wf_sm : ∀ (t : Tm), wf t → smD (toD t)
  | .var k, _ => by simp [toD, smD, smDs]
  | .num i, h => by simp [toD, smD]
  | .atm x, h => by simp only [toD, smD]; exact Nat.le_trans (atomOk_len h) (by decide)
  | .cmp f as, h => by
    obtain ⟨h1, h2, h3, h4⟩ := h
    refine ⟨?_, Nat.le_trans (atomOk_len h1) (by decide), wfs_sm as h4⟩
    rw [List.length_cons, toDs_length]
    omega
theorem wfs_sm : ∀ (ts : List Tm), wfs ts → smDs (toDs ts)
  | [], _ => trivial
  | t :: ts, h => ⟨wf_sm t h.1, wfs_sm ts h.2⟩
end
mutual
theorem sz_toD : ∀ (t : Tm), szD (toD t) ≤ 2 * (parts t).length
  | .var k => by simp [toD, szD, szDs, parts]
  | .num i => by simp [toD, szD, parts]
  | .atm x => by simp [toD, szD, parts]
  | .cmp f as => by
    have := sz_toDs as
    simp [toD, szD, szDs, parts]
    omega
theorem sz_toDs : ∀ (ts : List Tm), szDs (toDs ts) ≤ 2 * (partsL ts).length
  | [] => Nat.le_refl _
  | t :: ts => by
    have h1 := sz_toD t
    have h2 := sz_toDs ts
    simp [toDs, szDs, partsL]
    omega
end
mutual
theorem noL_toD : ∀ (t : Tm), noL (toD t) = true
  | .var k => rfl
  | .num i => rfl
  | .atm x => rfl
  | .cmp f as => by simp [toD, noL, noLs, noLs_toDs as]
theorem noLs_toDs : ∀ (ts : List Tm), noLs (toDs ts) = true
  | [] => rfl
  | t :: ts => by simp [toDs, noLs, noL_toD t, noLs_toDs ts]
end
abbrev Den (K : PySem.W.Frag) (H : Hp) (v : V) (t : Tm) : Prop := Dp K H v (toD t)
abbrev Dens (K : PySem.W.Frag) (H : Hp) (vs : List V) (ts : List Tm) : Prop := DpAll K H vs (toDs ts)
theorem parts_pos (t : Tm) : 0 < (parts t).length := by cases t <;> simp [parts]
theorem partsL_len : ∀ (ts : List Tm), ts.length ≤ (partsL ts).length
  | [] => Nat.le_refl _
  | t :: ts => by have := partsL_len ts; have := parts_pos t; simp [partsL]; omega
def isCmp : Tm → Bool | .cmp _ _ => true | _ => false
def isVar : Tm → Bool | .var _ => true | _ => false
theorem isComp_toD {t : Tm} (h : wf t) : isCompD (toD t) = isCmp t := by
  cases t with
  | cmp f as =>
    obtain ⟨_, h2, _⟩ := h
    cases as with
    | nil => exact absurd rfl h2
    | cons a as => rfl
  | _ => rfl
theorem isVar_toD {t : Tm} (h : wf t) : isVarD (toD t) = isVar t := by
  cases t with
  | cmp f as =>
    obtain ⟨_, h2, _⟩ := h
    cases as with
    | nil => exact absurd rfl h2
    | cons a as => rfl
  | var k => simp [toD, isVarD, isVar]
  | _ => rfl
section
variable {K : PySem.W.Frag} {H : Hp} {v : V} {ts : List Tm} {vs : List V}
theorem den_cmp {f : Str} {as : List Tm} (h : Den K H v (.cmp f as)) : ∃ a us, v = .ref a ∧ SqT K H a (.str f :: us) ∧ Dens K H us as := by
  cases h with
  | tup hs ha =>
    cases ha with
    | cons h1 h2 => cases h1; exact ⟨_, _, rfl, hs, h2⟩
theorem den_var {k : Nat} (h : Den K H v (.var k)) : ∃ a, v = .ref a ∧ SqT K H a [.int k] := by
  cases h with
  | tup hs ha =>
    cases ha with
    | cons h1 h2 => cases h1; cases h2; exact ⟨_, rfl, hs⟩
theorem den_num {i : Int} (h : Den K H v (.num i)) : v = .int i := by cases h; rfl
theorem den_atm {x : Str} (h : Den K H v (.atm x)) : v = .str x := by cases h; rfl
theorem mk_cmp {f : Str} {as : List Tm} {a : Addr} {us : List V} (hs : SqT K H a (.str f :: us)) (h : Dens K H us as) : Den K H (.ref a) (.cmp f as) := .tup hs (.cons (.str f) h)
theorem mk_var {k : Nat} {a : Addr} (hs : SqT K H a [.int k]) : Den K H (.ref a) (.var k) := .tup hs (.cons (.int k) .nil)
theorem dens_snoc {t : Tm} (h : Dens K H vs (ts ++ [t])) : ∃ us v, vs = us ++ [v] ∧ Dens K H us ts ∧ Den K H v t := by
  have h : DpAll K H vs (toDs (ts ++ [t])) := h
  rw [toDs_append] at h
  exact DpAll.snoc h
theorem dens_len (h : Dens K H vs ts) : vs.length = ts.length := (DpAll.length h).trans (toDs_length ts)
theorem dens_app {us : List V} {rs : List Tm} (h : Dens K H vs ts) (h2 : Dens K H us rs) : Dens K H (vs ++ us) (ts ++ rs) := by
  show DpAll K H _ (toDs (ts ++ rs))
  rw [toDs_append]
  exact DpAll.append h h2
theorem dens_rev (h : Dens K H vs ts) : Dens K H vs.reverse ts.reverse := by
  show DpAll K H _ (toDs ts.reverse)
  rw [toDs_reverse]
  exact DpAll.reverse h
end
section
variable {P : Program} {w : World} {K : PySem.W.Frag} {mg : Str → Option Value} {base : Heap}
/-! ### check_terms, where all are terms -/
def sp_check_terms (K : PySem.W.Frag) : Sp := fun vs H Q _ => ∃ a us ds, vs = [.ref a] ∧ (SqL K H a us ∨ SqT K H a us) ∧ DpAll K H us ds ∧ smDs ds ∧ szDs ds ≤ 100000 ∧ isTerms ds = true ∧ ∀ H', Same H H' → Q .non H'
theorem isTerms_get : ∀ {ds : List PyData} {i : Nat} {d : PyData}, isTerms ds = true → ds[i]? = some d → isTerm d = true
  | [], i, d, _, h => by simp at h
  | x :: ds, 0, d, h, e => by simp at e; subst e; simp [isTerms] at h; exact h.1
  | x :: ds, i + 1, d, h, e => by simp [isTerms] at h; exact isTerms_get (ds := ds) h.2 (by simpa using e)
theorem smDs_get : ∀ {ds : List PyData} {i : Nat} {d : PyData}, smDs ds → ds[i]? = some d → smD d
  | [], i, d, _, h => by simp at h
  | x :: ds, 0, d, h, e => by simp at e; subst e; exact h.1
  | x :: ds, i + 1, d, h, e => smDs_get (ds := ds) h.2 (by simpa using e)
theorem szDs_get : ∀ {ds : List PyData} {i : Nat} {d : PyData}, ds[i]? = some d → szD d ≤ szDs ds
  | [], i, d, h => by simp at h
  | x :: ds, 0, d, e => by simp at e; subst e; simp [szDs]
  | x :: ds, i + 1, d, e => by have := szDs_get (ds := ds) (i := i) (d := d) (by simpa using e); simp [szDs]; omega
theorem ok_check_terms (B : Bf K mg) (G : Gd K mg "check_terms" s_check_terms) (O_is_term : Okf P w K mg base "is_term" 3 ["thing"] [] (sp_is_term K)) : Okf P w K mg base "check_terms" 4 ["things"] [] (sp_check_terms K) := by
  refine okf_mk G sc_check_terms (fun _ _ _ _ _ _ us hl => match us, hl with | [_], _ => rfl) (fun vs H Q E h => ?_) (fun cdv A outer s H vs Q E hr h => ?_)
  · obtain ⟨a, us, ds, rfl, _⟩ := h
    rfl
  · obtain ⟨a, us, ds, rfl, hs, hd, hm, hz, ht, q⟩ := h
    refine ⟨_, (pss_one (ps_for PassesOwn.never rfl (pi_seq (pv 0)) (pg_name (i := 1) sc_check_terms.nd rfl (Or.inl rfl))
      (pss_one (ps_if (pt_not (pt_val (pe_callO O_is_term (hr.mono (by decide)) (by rfl) (pa_cons (pv 1) pa_nil))))
        (pss_one ps_never)
        pss_nil)))), ?_⟩
    have step : ∀ (i : Nat) (x : V) (H1 : Hp), us[i]? = some x → Same H H1 → ∃ d, Dp K H1 x d ∧ smD d ∧ szD d ≤ 100000 ∧ isTerm d = true := by
      intro i x H1 hi s1
      have hi2 : i < ds.length := by rw [← DpAll.length hd]; exact (List.getElem?_eq_some_iff.mp hi).1
      obtain ⟨x', e1, hx⟩ := DpAll.get hd (List.getElem?_eq_getElem hi2)
      rw [hi] at e1
      cases e1
      exact ⟨ds[i], Dp.same s1 _ _ hx, smDs_get hm (List.getElem?_eq_getElem hi2), Nat.le_trans (szDs_get (List.getElem?_eq_getElem hi2)) hz, isTerms_get ht (List.getElem?_eq_getElem hi2)⟩
    rcases hs with hs | hs
    · refine tfor_of ⟨_, rfl, a, rfl, .inl ⟨⟨_, hs⟩, for_l (xs := us) (fun i σ H1 => ∃ z, σ = [some (.ref a), z] ∧ Same H H1) ⟨none, rfl, Same.refl H⟩ (fun i σ H1 _ ⟨z, _, s1⟩ => s1.seq hs) ?_ ?_⟩⟩
      · rintro i x σ H1 hi ⟨z, rfl, s1⟩
        obtain ⟨d, h1, h2, h3, h4⟩ := step i x H1 hi s1
        walk_at "rd"
        refine ⟨_, d, rfl, h1, h2, h3, fun H2 s2 => ⟨_, rfl, ?_⟩⟩
        rw [h4]
        exact iteF ⟨some x, rfl, s1.trans s2⟩
      · rintro σ H1 ⟨z, rfl, s1⟩
        exact q H1 s1
    · refine tfor_of ⟨_, rfl, a, rfl, .inr ⟨⟨_, hs⟩, for_t (xs := us) (fun i σ H1 => ∃ z, σ = [some (.ref a), z] ∧ Same H H1) ⟨none, rfl, Same.refl H⟩ (fun i σ H1 _ ⟨z, _, s1⟩ => (Tk.of s1).sqT hs) ?_ ?_⟩⟩
      · rintro i x σ H1 hi ⟨z, rfl, s1⟩
        obtain ⟨d, h1, h2, h3, h4⟩ := step i x H1 hi s1
        walk_at "rd"
        refine ⟨_, d, rfl, h1, h2, h3, fun H2 s2 => ⟨_, rfl, ?_⟩⟩
        rw [h4]
        exact iteF ⟨some x, rfl, s1.trans s2⟩
      · rintro σ H1 ⟨z, rfl, s1⟩
        exact q H1 s1
/-! ### parts_of -/
def sp_parts_of (K : PySem.W.Frag) : Sp := fun vs H Q _ => ∃ v t, vs = [v] ∧ Den K H v t ∧ wf t ∧ (parts t).length ≤ 50000 ∧ ∀ H' p us, Same H H' → H p = none → H' p = some (.lst us) → Dens K H us (parts t) → Q (.ref p) H'
theorem ok_parts_of (B : Bf K mg) (G : Gd K mg "parts_of" s_parts_of) (O_is_compound : Okf P w K mg base "is_compound" 1 ["term"] [] (sp_is_compound K)) : Okf P w K mg base "parts_of" 2 ["term"] [] (sp_parts_of K) := by
  refine okf_mk G sc_parts_of (fun _ _ _ _ _ _ us hl => match us, hl with | [_], _ => rfl) (fun vs H Q E h => ?_) (fun cdv A outer s H vs Q E hr h => ?_)
  · obtain ⟨v, t, rfl, _⟩ := h
    rfl
  · obtain ⟨v, t, rfl, hd, hw, hz, q⟩ := h
    refine ⟨_, (pss_cons (ps_par (by rfl) sc_parts_of.nd (i := 1) (j := 2) rfl rfl (by decide) rfl rfl (pa_cons (pe_lst pa_nil) (pa_cons (pe_lst (pa_cons (pv 0) pa_nil)) pa_nil)) (by rfl))
      (pss_cons (ps_while PassesOwn.never (pt_cmpR (op_neNil hr.units0) (pv 2) (pe_lst pa_nil) (nomark _))
      (pss_cons (ps_set (i := 3) sc_parts_of.nd rfl (Or.inl rfl) (pe_bm0 PySem.F.plainAttrs_list PySem.F.slot_list_pop PySem.F.type_list_pop mt_pop (pv 2)))
      (pss_cons (ps_expr (pe_bm PySem.F.plainAttrs_list PySem.F.slot_list_append PySem.F.type_list_append mt_append (pv 1) (pa_cons (pv 3) pa_nil)))
      (pss_one (ps_if (pt_val (pe_callO O_is_compound (hr.mono (by decide)) (by rfl) (pa_cons (pv 3) pa_nil)))
        (pss_one (ps_expr (pe_bm PySem.F.plainAttrs_list PySem.F.slot_list_extend PySem.F.type_list_extend mt_extendT (pv 2) (pa_cons (pe_revT (pv 3)) pa_nil))))
        pss_nil)))))
      (pss_one (ps_ret (pv 1))))), ?_⟩
    walk_at "rd"
    refine ⟨Nat.zero_le _, fun f nf => ⟨(by show 1 ≤ sizeLine; decide), fun p np => ⟨_, _, rfl, ?_⟩⟩⟩
    have ef : upd (upd H f (.lst [])) p (.lst [v]) f = some (.lst []) := by rw [upd_ne (ne_of_none upd_same np)]; exact upd_same
    have np' : H p = none := (same_upd nf).free np
    have npf : p ≠ f := fun z => by rw [z, upd_same] at np; cases np
    refine twhile_of (fun m σ H1 => ∃ us ws dn wt z, σ = [some v, some (.ref f), some (.ref p), z] ∧ Same H H1 ∧ H1 f = some (.lst us) ∧ H1 p = some (.lst ws) ∧ Dens K H us dn ∧ Dens K H ws wt ∧ wfs wt ∧ m = (partsL wt.reverse).length ∧ dn ++ partsL wt.reverse = parts t) (m := (parts t).length)
      ⟨[], [v], [], [t], none, rfl, (same_upd nf).trans (same_upd np), ef, upd_same, .nil, .cons hd .nil, ⟨hw, trivial⟩, by simp [partsL], by simp [partsL]⟩ ?_
    rintro m σ H1 ⟨us, ws, dn, wt, z, rfl, sm, ef1, ep1, du, dw, hws, rfl, he⟩
    walk_at "rd"
    refine ⟨Nat.zero_le _, fun b nb => neNilR ep1 nb ⟨_, rfl, ?_⟩⟩
    have ep2 : upd H1 b (.lst []) p = some (.lst ws) := by rw [upd_ne (ne_of_none ep1 nb)]; exact ep1
    have ef2 : upd H1 b (.lst []) f = some (.lst us) := by rw [upd_ne (ne_of_none ef1 nb)]; exact ef1
    have s1 : Same H (upd H1 b (.lst [])) := sm.trans (same_upd nb)
    generalize upd H1 b (.lst []) = H2 at ep2 ef2 s1 ⊢
    rcases concat_or wt with rfl | ⟨wt, t0, rfl⟩
    · cases dw
      refine iteF (q H2 f us s1 nf ef2 ?_)
      simp [partsL] at he
      rw [← he]
      exact du
    · obtain ⟨ws, v0, rfl, dq, d0⟩ := dens_snoc dw
      clear dw
      have hws2 := wfs_append.mp hws
      have hw0 : wf t0 := hws2.2.1
      rw [show (!(ws ++ [v0]).isEmpty) = true by simp]
      have hrev : partsL (wt ++ [t0]).reverse = parts t0 ++ partsL wt.reverse := by rw [List.reverse_append]; rfl
      rw [hrev] at he
      have hlen := congrArg List.length he
      rw [List.length_append, List.length_append] at hlen
      have hl1 := dens_len du
      have hl2 := dens_len dq
      have hl3 := partsL_len wt.reverse
      rw [List.length_reverse] at hl3
      have hp0 := parts_pos t0
      rw [hrev, List.length_append]
      refine iteT ⟨_, fun σ' H' h => h, tyL ep2, popR ep2 ?_⟩
      have t3 : Same H (upd H2 p (.lst ws)) := Same.mut s1 np'
      have ep3 : upd H2 p (.lst ws) p = some (.lst ws) := upd_same
      have ef3 : upd H2 p (.lst ws) f = some (.lst us) := by rw [upd_ne npf.symm]; exact ef2
      generalize upd H2 p (.lst ws) = H3 at t3 ep3 ef3 ⊢
      refine ⟨tyL ef3, appR ef3 (Nat.lt_of_le_of_lt (show us.length ≤ 50000 by omega) (by decide)) ?_⟩
      have t4 : Same H (upd H3 f (.lst (us ++ [v0]))) := Same.mut t3 nf
      have ef4 : upd H3 f (.lst (us ++ [v0])) f = some (.lst (us ++ [v0])) := upd_same
      have ep4 : upd H3 f (.lst (us ++ [v0])) p = some (.lst ws) := by rw [upd_ne npf]; exact ep3
      generalize upd H3 f (.lst (us ++ [v0])) = H4 at t4 ef4 ep4 ⊢
      have du4 : Dens K H (us ++ [v0]) (dn ++ [t0]) := dens_app du (.cons d0 .nil)
      refine ⟨_, _, rfl, Dp.same t4 _ _ d0, _, rfl, ?_⟩
      rw [isComp_toD hw0]
      cases t0 with
      | cmp g as =>
        refine iteT ?_
        obtain ⟨a, xs, rfl, hs, hxs⟩ := den_cmp d0
        have hlx := dens_len hxs
        have hla : as.length ≤ 8 := hw0.2.2.1
        refine ⟨tyL ep4, a, rfl, _, _, Same.sqT t4 hs, fun p1 n1 => extT (by rw [upd_ne (ne_of_none ep4 n1)]; exact ep4) upd_same ?_ ?_⟩
        · rw [List.length_reverse]
          exact Nat.le_trans (show _ ≤ 100000 by omega) (by decide)
        · refine ⟨_, ?_, us ++ [.ref a], ws ++ xs.reverse, dn ++ [.cmp g as], wt ++ as.reverse, _, rfl, Same.mut (t4.trans (same_upd n1)) np', ?_, upd_same, du4, dens_app dq (dens_rev hxs), wfs_append.mpr ⟨hws2.1, ?_⟩, rfl, ?_⟩
          · rw [List.reverse_append, List.reverse_reverse, partsL_append, List.length_append]
            simp only [parts, List.length_cons]
            omega
          · rw [upd_ne npf.symm, upd_ne (ne_of_none ef4 n1)]
            exact ef4
          · exact wfs_reverse hw0.2.2.2
          · rw [List.reverse_append, List.reverse_reverse, partsL_append, ← he]
            simp [parts]
      | _ =>
        refine iteF ⟨_, ?_, us ++ [v0], ws, dn ++ [_], wt, _, rfl, t4, ef4, ep4, du4, dq, hws2.1, rfl, ?_⟩
        · simp only [parts, List.length_cons, List.length_nil]
          omega
        · rw [← he]
          simp [parts]
end
end K1

namespace K1
open PySem PySem.Spec PyProof.Rows L2 HM
/-! terms as data: they can be laid, their depth -/
theorem atom_lay {x : Str} (h : atomOk x = true) : PyData.strOk x = true := by
  unfold atomOk at h
  rw [Bool.and_eq_true] at h
  unfold PyData.strOk
  rw [← Array.all_toList, List.all_eq_true]
  intro c hc
  have := List.all_eq_true.mp h.2 c hc
  simp only [signOk, decide_eq_true_eq] at this
  simp
  omega
mutual
theorem canLay_toD : ∀ (t : Tm), wf t → (toD t).canLay0 = true
  | .var k, _ => rfl
  | .num i, _ => rfl
  | .atm x, h => atom_lay h
  | .cmp f as, h => by
    simp only [toD, PyData.canLay0, PyData.canLayAll0, atom_lay h.1, canLay_toDs as h.2.2.2, Bool.and_self]
theorem canLay_toDs : ∀ (ts : List Tm), wfs ts → PyData.canLayAll0 (toDs ts) = true
  | [], _ => rfl
  | t :: ts, h => by simp only [toDs, PyData.canLayAll0, canLay_toD t h.1, canLay_toDs ts h.2, Bool.and_self]
end
mutual
theorem depth_toD : ∀ (t : Tm), (toD t).depth ≤ depth t
  | .var k => by simp [toD, PyData.depth, PyData.depthAll, depth]
  | .num i => by simp [toD, PyData.depth]
  | .atm x => by simp [toD, PyData.depth]
  | .cmp f as => by
    have := depth_toDs as
    simp only [toD, PyData.depth, PyData.depthAll, depth]
    omega
theorem depth_toDs : ∀ (ts : List Tm), PyData.depthAll (toDs ts) ≤ depthL ts
  | [] => Nat.le_refl _
  | t :: ts => by
    have h1 := depth_toD t
    have h2 := depth_toDs ts
    simp only [toDs, PyData.depthAll, depthL]
    omega
end
def kids : Tm → List Tm | .cmp _ as => as | _ => []
def kidsL : List Tm → List Tm
  | [] => []
  | t :: ts => kids t ++ kidsL ts
theorem kidsL_append : ∀ (a b : List Tm), kidsL (a ++ b) = kidsL a ++ kidsL b
  | [], b => rfl
  | t :: a, b => by simp only [List.cons_append, kidsL, kidsL_append a b, List.append_assoc]
theorem depth_kids (t : Tm) : depth t = 1 + depthL (kids t) := by cases t <;> rfl
theorem depthL_append : ∀ (a b : List Tm), depthL (a ++ b) = max (depthL a) (depthL b)
  | [], b => by simp [depthL]
  | t :: a, b => by rw [List.cons_append]; simp only [depthL]; rw [depthL_append a b]; omega
theorem depthL_kids : ∀ (ts : List Tm), ts ≠ [] → depthL ts = 1 + depthL (kidsL ts)
  | [], h => absurd rfl h
  | [t], _ => by simp [depthL, kidsL, depth_kids]
  | t :: u :: ts, _ => by
    have ih := depthL_kids (u :: ts) (by simp)
    show max (depth t) (depthL (u :: ts)) = 1 + depthL (kids t ++ kidsL (u :: ts))
    rw [depthL_append, ih, depth_kids]
    omega
theorem parts_kids (t : Tm) : (parts t).length = 1 + (partsL (kids t)).length := by
  cases t <;> simp [parts, kids, partsL]
  omega
theorem partsL_kids : ∀ (ts : List Tm), (partsL ts).length = ts.length + (partsL (kidsL ts)).length
  | [] => rfl
  | t :: ts => by
    have ih := partsL_kids ts
    simp only [partsL, kidsL, partsL_append, List.length_append, List.length_cons, parts_kids, ih]
    omega
theorem wfs_kidsL : ∀ {ts : List Tm}, wfs ts → wfs (kidsL ts)
  | [], _ => trivial
  | t :: ts, h => wfs_append.mpr ⟨by cases t with | cmp f as => exact h.1.2.2.2 | _ => exact trivial, wfs_kidsL h.2⟩
theorem wfs_get : ∀ {ts : List Tm} {i : Nat} {t : Tm}, wfs ts → ts[i]? = some t → wf t
  | [], i, d, _, h => by simp at h
  | x :: ds, 0, d, h, e => by simp at e; subst e; exact h.1
  | x :: ds, i + 1, d, h, e => wfs_get (ts := ds) h.2 (by simpa using e)
theorem take_succ {α : Type} {l : List α} {i : Nat} {x : α} (h : l[i]? = some x) : l.take (i + 1) = l.take i ++ [x] := by
  rw [List.take_add_one, h]; rfl
theorem dens_get {K : PySem.W.Frag} {H : Hp} {us : List V} {ts : List Tm} {i : Nat} {x : V} (h : Dens K H us ts) (e : us[i]? = some x) : ∃ t, ts[i]? = some t ∧ Den K H x t := by
  have hi : i < us.length := (List.getElem?_eq_some_iff.mp e).1
  have hi2 : i < ts.length := by rw [← dens_len h]; exact hi
  obtain ⟨v, h1, h2⟩ := DpAll.get h (toDs_get (List.getElem?_eq_getElem hi2))
  rw [e] at h1
  cases h1
  exact ⟨_, List.getElem?_eq_getElem hi2, h2⟩
theorem partsL_get : ∀ {ts : List Tm} {i : Nat} {t : Tm}, ts[i]? = some t → (parts t).length ≤ (partsL ts).length
  | [], i, t, h => by simp at h
  | x :: ts, 0, t, e => by simp at e; subst e; simp [partsL]
  | x :: ts, i + 1, t, e => by have := partsL_get (ts := ts) (i := i) (t := t) (by simpa using e); simp [partsL]; omega
mutual
theorem wfs_parts : ∀ (t : Tm), wf t → wfs (parts t)
  | .var k, h => ⟨h, trivial⟩
  | .num i, h => ⟨h, trivial⟩
  | .atm x, h => ⟨h, trivial⟩
  | .cmp f as, h => ⟨h, wfs_partsL as h.2.2.2⟩
theorem wfs_partsL : ∀ (ts : List Tm), wfs ts → wfs (partsL ts)
  | [], _ => trivial
  | t :: ts, h => wfs_append.mpr ⟨wfs_parts t h.1, wfs_partsL ts h.2⟩
end
theorem depth_pos (t : Tm) : 1 ≤ depth t := by cases t <;> simp [depth]
theorem depth_get : ∀ {ts : List Tm} {i : Nat} {t : Tm}, ts[i]? = some t → depth t ≤ depthL ts
  | [], i, d, h => by simp at h
  | x :: ts, 0, d, e => by simp at e; subst e; simp only [depthL]; omega
  | x :: ts, i + 1, d, e => by have := depth_get (ts := ts) (i := i) (t := d) (by simpa using e); simp only [depthL]; omega
end K1

namespace K1
open PySem PySem.Spec PyProof.Rows L2 HM
local macro_rules | `(tactic| walk_at "rd") => `(tactic| (dsimp only [tSeq, tNext, tRet, tRetN, tAsg, gName, gTup, gCons, gNil, gSub, tDrop, tIfS, tVar, tC, tOp, tUn, tTest, tB, tAnd, tOr, tNot, tAndV, tOrV, tNotV, tIf, tCB, tCons, tNil, tTup, tLst, tCall, tPar, tPar3, tAug, tSl, tPart, tNoPart, tBM, tBM0, tRevT, tRevL, tChain, sDPut, tDGet, tDGet1, tDGet2, tDNewK, tDNewT, tDIn, tDNotIn, tYes, wipe, cxOf, Cx.nox, Cx.wish, L2.start, rI0, rI, rU, ipI, List.length_cons, List.length_nil, List.map_cons, List.map_nil, List.replicate, List.cons_append, List.nil_append, List.append_nil, List.getElem?_cons_zero, List.getElem?_cons_succ, List.set_cons_zero, List.set_cons_succ, Nat.reduceAdd, Nat.reduceSub]; try simp only [List.map_cons, List.map_nil, List.append_nil, List.cons_append, List.nil_append, List.getElem?_cons_zero, List.getElem?_cons_succ, List.set_cons_zero, List.set_cons_succ, rIntI_eq, rIntB_eq, rAbs_eq, Option.some.injEq, V.int.injEq, V.bl.injEq, V.str.injEq, V.ref.injEq, exists_eq_left', exists_and_left, exists_eq', true_and, and_true, if_true, if_false, Bool.false_eq_true]))
local macro_rules | `(tactic| walk_at "r0") => `(tactic| (dsimp only [tSeq, tNext, tRet, tRetN, tAsg, gName, gTup, gCons, gNil, gSub, tDrop, tIfS, tVar, tC, tOp, tUn, tTest, tB, tAnd, tOr, tNot, tAndV, tOrV, tNotV, tIf, tCB, tCons, tNil, tCall, tPar, tPar3, tAug, tSl, tPart, tNoPart, tBM, tBM0, tRevT, tRevL, tChain, sDPut, tDGet, tDGet1, tDGet2, tDNewK, tDNewT, tDIn, tDNotIn, tYes, wipe, cxOf, Cx.nox, Cx.wish, L2.start, rI0, rI, rU, ipI, List.length_cons, List.length_nil, List.map_cons, List.map_nil, List.replicate, List.cons_append, List.nil_append, List.append_nil, List.getElem?_cons_zero, List.getElem?_cons_succ, List.set_cons_zero, List.set_cons_succ, Nat.reduceAdd, Nat.reduceSub]; try simp only [List.map_cons, List.map_nil, List.append_nil, List.cons_append, List.nil_append, List.getElem?_cons_zero, List.getElem?_cons_succ, List.set_cons_zero, List.set_cons_succ, rIntI_eq, rIntB_eq, rAbs_eq, Option.some.injEq, V.int.injEq, V.bl.injEq, V.str.injEq, V.ref.injEq, exists_eq_left', exists_and_left, exists_eq', true_and, and_true, if_true, if_false, Bool.false_eq_true]))
local macro_rules | `(tactic| walk_at "evd") => `(tactic| repeat (first | exact evds_nil | exact evd_int | exact evd_str | exact evd_bl | exact evd_non | exact evd_neg | apply evds_cons | apply evd_tup | apply evd_lst | (simp only [List.length_cons, List.length_nil]; omega)))
def Well (H : Hp) (w : Addr) : Prop := ∃ x y z : Int, H w = some (.lst [.int x, .int y, .int z])
abbrev Mw (w : Addr) : Addr → Prop := fun b => b = w
theorem Well.same {H H' : Hp} {w : Addr} (h : Well H w) (s : Same H H') : Well H' w := by
  obtain ⟨x, y, z, e⟩ := h
  exact ⟨x, y, z, s _ _ e⟩
theorem Well.upd {H : Hp} {w p : Addr} {o : HO} (h : Well H w) (n : H p = none) : Well (upd H p o) w := h.same (same_upd n)
theorem Well.tk {H H' : Hp} {w : Addr} (h : Well H w) (s : Sm (Mw w) H H') : Tk H H' := Tk.sm s fun b o m e => by
  obtain ⟨x, y, z, e2⟩ := h
  rw [show b = w from m, e2] at e
  cases e
  exact fun f => f
theorem Sm.new2 {M : Addr → Prop} {H H' : Hp} {D : Addr} {o : HO} (a : Sm M H H') (n : H' D = none) : Sm M H (upd H' D o) := fun b u nb e => by
  rw [upd_ne (ne_of_none (a b u nb e) n)]
  exact a b u nb e
theorem cmulB (b : Bool) (i : Int) : CMul i (if b = true then 1 else 0) := by cases b <;> exact .inr ⟨by decide, by decide⟩
theorem tg_big : (1000000000000 : Int) < tooGreat := by decide +kernel
section
variable {P : Program} {w : World} {K : PySem.W.Frag} {mg : Str → Option Value} {base : Heap}
def sp_cell_at (K : PySem.W.Frag) : Sp := fun vs H Q _ => ∃ (a : Addr) (ns : List Int) (k : Nat), vs = [.ref a, .int k] ∧ SqL K H a (ns.map V.int) ∧ ∀ i, Q (.int i) H
theorem ok_cell_at (B : Bf K mg) (G : Gd K mg "_law_cell_at" s__law_cell_at) : Okf P w K mg base "_law_cell_at" 1 ["_law_script", "_law_k"] [] (sp_cell_at K) := by
  refine okf_mk G sc__law_cell_at (fun _ _ _ _ _ _ us hl => match us, hl with | [_, _], _ => rfl) (fun vs H Q E h => ?_) (fun cdv A outer s H vs Q E hr h => ?_)
  · obtain ⟨a, ns, k, rfl, _⟩ := h
    rfl
  · obtain ⟨a, ns, k, rfl, hs, q⟩ := h
    refine ⟨_, (pss_one (ps_ret (pe_ifExp (pt_cmpR op_lt (pv 1) (pe_callB call_lenQ (by rfl) B.b_len (by decide +kernel) (pa_cons (pv 0) pa_nil)) (nomark _)) (pe_ix (show IxR _ (rIxL K) from ix_list) (pv 0) (pv 1) (fun _ _ => rfl)) pe_int))), ?_⟩
    walk_at "rd"
    refine lenL hs ⟨_, rfl, ite2 (fun e => ?_) (fun e => q 0)⟩
    have e' : k < ns.length := by simpa using e
    exact ixLn (n := k) hs (by simp [e']; rfl) rfl (q _)
def sp_well (K : PySem.W.Frag) : Sp := fun vs H Q _ => ∃ i : Int, vs = [.int i] ∧ ∀ H' p, Same H H' → H p = none → Well H' p → Q (.ref p) H'
theorem ok_well (B : Bf K mg) (G : Gd K mg "_law_well" s__law_well) : Okf P w K mg base "_law_well" 1 ["_law_cell"] [] (sp_well K) := by
  refine okf_mk G sc__law_well (fun _ _ _ _ _ _ us hl => match us, hl with | [_], _ => rfl) (fun vs H Q E h => ?_) (fun cdv A outer s H vs Q E hr h => ?_)
  · obtain ⟨i, rfl, _⟩ := h
    rfl
  · obtain ⟨i, rfl, q⟩ := h
    refine ⟨_, (pss_cons (ps_set (i := 0) sc__law_well.nd rfl (Or.inl rfl) (pe_callB call_absQ (by rfl) B.b_abs (by decide +kernel) (pa_cons (pv 0) pa_nil)))
      (pss_one (ps_ret (pe_lst (pa_cons (pe_op op_mul (pv 0) (pe_callTy call_intB (by rfl) B.b_int (by decide +kernel) (pa_cons (pe_cmpR op_ge (pv 0) (pe_op op_pow pe_int pe_int) (nomark _)) pa_nil))) (pa_cons (pe_op op_add (pe_op op_mod (pe_callTy call_intI (by rfl) B.b_int (by decide +kernel) (pa_cons (pv 0) pa_nil)) pe_int) pe_int) (pa_cons pe_int pa_nil))))))), ?_⟩
    walk_at "rd"
    exact ⟨⟨by decide, by decide, by decide⟩, cmulB _ _, by decide, by decide, fun p np => q _ p (same_upd np) np ⟨_, _, _, upd_same⟩⟩
theorem set0 {H : Hp} {wl : Addr} {x y z v : V} {Q : Hp → Prop} (e : H wl = some (.lst [x, y, z])) (q : Q (upd H wl (.lst [v, y, z]))) : rSetL (.ref wl) (.int 0) v H Q := ⟨wl, _, 0, 0, rfl, rfl, e, rfl, q⟩
theorem set2 {H : Hp} {wl : Addr} {x y z v : V} {Q : Hp → Prop} (e : H wl = some (.lst [x, y, z])) (q : Q (upd H wl (.lst [x, y, v]))) : rSetL (.ref wl) (.int 2) v H Q := ⟨wl, _, 2, 2, rfl, rfl, e, rfl, q⟩
theorem cmulL {i j : Int} (h : 0 ≤ i) (h2 : i < 2147483647) : CMul i j := .inl ⟨by omega, by omega⟩
theorem cdiv {i j : Int} (h : 0 < j) (h2 : j < 1073741824) : CDiv i j := ⟨h, h2⟩
def sp_draw (K : PySem.W.Frag) : Sp := fun vs H Q _ => ∃ (wl : Addr) (n : Int), vs = [.ref wl, .int n] ∧ Well H wl ∧ 0 < n ∧ n < 1073741824 ∧ ∀ H' i, 0 ≤ i → i < n → Sm (Mw wl) H H' → Well H' wl → Q (.int i) H'
theorem ok_draw (B : Bf K mg) (G : Gd K mg "_law_draw" s__law_draw) : Okf P w K mg base "_law_draw" 1 ["_law_well_here", "_law_many"] [] (sp_draw K) := by
  refine okf_mk G sc__law_draw (fun _ _ _ _ _ _ us hl => match us, hl with | [_, _], _ => rfl) (fun vs H Q E h => ?_) (fun cdv A outer s H vs Q E hr h => ?_)
  · obtain ⟨a, n, rfl, _⟩ := h
    rfl
  · obtain ⟨wl, n, rfl, ⟨x, y, z, ew⟩, h0, h1, q⟩ := h
    refine ⟨_, (pss_cons (ps_if (pt_cmpR op_gt (pe_ix (show IxR _ (rIxL K) from ix_list) (pv 0) pe_int (fun _ _ => rfl)) pe_int (nomark _))
        (pss_cons (ps_set (i := 2) sc__law_draw.nd rfl (Or.inl rfl) (pe_op op_mod (pe_callTy call_intI (by rfl) B.b_int (by decide +kernel) (pa_cons (pe_ix (show IxR _ (rIxL K) from ix_list) (pv 0) pe_int (fun _ _ => rfl)) pa_nil)) (pv 1)))
      (pss_cons (ps_asg (pe_op op_fdiv (pe_ix (show IxR _ (rIxL K) from ix_list) (pv 0) pe_int (fun _ _ => rfl)) (pv 1)) (pg_sub (pv 0) pe_int set_list))
      (pss_one (ps_ret (pv 2)))))
        pss_nil)
      (pss_cons (ps_asg (pe_op op_add (pe_ix (show IxR _ (rIxL K) from ix_list) (pv 0) pe_int (fun _ _ => rfl)) pe_int) (pg_sub (pv 0) pe_int set_list))
      (pss_cons (ps_set (i := 3) sc__law_draw.nd rfl (Or.inl rfl) (pe_op op_mod (pe_callTy call_intI (by rfl) B.b_int (by decide +kernel) (pa_cons (pe_op op_mul (pe_op op_add (pe_ix (show IxR _ (rIxL K) from ix_list) (pv 0) pe_int (fun _ _ => rfl)) (pe_op op_mul pe_int (pe_ix (show IxR _ (rIxL K) from ix_list) (pv 0) pe_int (fun _ _ => rfl)))) pe_int) pa_nil)) pe_int))
      (pss_cons (ps_set (i := 3) sc__law_draw.nd rfl (Or.inl rfl) (pe_op op_mod (pe_callTy call_intI (by rfl) B.b_int (by decide +kernel) (pa_cons (pe_op op_mul (pv 3) (pe_op op_add (pe_op op_add (pe_op op_fdiv (pv 3) pe_int) pe_int) (pe_ix (show IxR _ (rIxL K) from ix_list) (pv 0) pe_int (fun _ _ => rfl)))) pa_nil)) pe_int))
      (pss_one (ps_ret (pe_op op_mod (pe_callTy call_intI (by rfl) B.b_int (by decide +kernel) (pa_cons (pe_op op_fdiv (pe_op op_mod (pe_callTy call_intI (by rfl) B.b_int (by decide +kernel) (pa_cons (pe_op op_mul (pv 3) (pe_op op_add (pe_op op_fdiv (pv 3) pe_int) pe_int)) pa_nil)) pe_int) pe_int) pa_nil)) (pv 1)))))))), ?_⟩
    walk_at "rd"
    refine ixL0 (SqL.of ew) ⟨_, rfl, ite2 (fun c => ?_) (fun c => ?_)⟩
    · refine ixL0 (SqL.of ew) ⟨_, rfl, _, rfl, h0, ixL0 (SqL.of ew) ⟨_, rfl, ⟨h0, h1⟩, set0 ew ?_⟩⟩
      exact q _ _ (Int.emod_nonneg _ (by omega)) (Int.emod_lt_of_pos _ h0) ((Sm.refl H).at rfl) ⟨_, _, _, upd_same⟩
    · refine ixL2 (SqL.of ew) ⟨_, rfl, set2 ew ?_⟩
      have e2 : upd H wl (.lst [.int x, .int y, .int (z + 1)]) wl = some (.lst [.int x, .int y, .int (z + 1)]) := upd_same
      refine ixL1 (SqL.of e2) (ixL2 (SqL.of e2) ⟨_, rfl, .inl ⟨by decide, by decide⟩, _, rfl, .inr ⟨by decide, by decide⟩, by decide, cdiv (by decide) (by decide), ixL2 (SqL.of e2) ⟨_, rfl, cmulL (Int.emod_nonneg _ (by decide)) (Int.emod_lt_of_pos _ (by decide)), by decide, cdiv (by decide) (by decide), ?_⟩⟩)
      refine ⟨cmulL (Int.emod_nonneg _ (by decide)) (Int.lt_trans (Int.emod_lt_of_pos _ (by decide)) (by decide)), by decide, cdiv (by decide) (by decide), h0, ?_⟩
      exact q _ _ (Int.emod_nonneg _ (by omega)) (Int.emod_lt_of_pos _ h0) ((Sm.refl H).at rfl) ⟨_, _, _, upd_same⟩
def sp_one (K : PySem.W.Frag) : Sp := fun vs H Q _ => ∃ (wl a : Addr) (xs : List V), vs = [.ref wl, .ref a] ∧ Well H wl ∧ SqL K H a xs ∧ a ≠ wl ∧ xs ≠ [] ∧ xs.length ≤ 100000 ∧ ∀ H' x, x ∈ xs → Sm (Mw wl) H H' → Well H' wl → Q x H'
theorem ok_one (B : Bf K mg) (G : Gd K mg "_law_one" s__law_one) (O__law_draw : Okf P w K mg base "_law_draw" 1 ["_law_well_here", "_law_many"] [] (sp_draw K)) : Okf P w K mg base "_law_one" 2 ["_law_well_here", "_law_some"] [] (sp_one K) := by
  refine okf_mk G sc__law_one (fun _ _ _ _ _ _ us hl => match us, hl with | [_, _], _ => rfl) (fun vs H Q E h => ?_) (fun cdv A outer s H vs Q E hr h => ?_)
  · obtain ⟨wl, a, xs, rfl, _⟩ := h
    rfl
  · obtain ⟨wl, a, xs, rfl, hw, hs, na, hne, hz, q⟩ := h
    refine ⟨_, (pss_one (ps_ret (pe_ix (show IxR _ (rIxL K) from ix_list) (pv 1) (pe_callO O__law_draw (hr.mono (by decide)) (by rfl) (pa_cons (pv 0) (pa_cons (pe_callB call_lenQ (by rfl) B.b_len (by decide +kernel) (pa_cons (pv 1) pa_nil)) pa_nil))) (fun _ _ => rfl)))), ?_⟩
    walk_at "rd"
    have hp : 0 < xs.length := List.length_pos_iff.mpr hne
    refine lenL hs ⟨wl, _, rfl, hw, by omega, by omega, fun H1 i h0 h1 s1 w1 => ?_⟩
    have hi : i.toNat < xs.length := by omega
    exact ixLn (n := i.toNat) (s1.sqL na hs) (List.getElem?_eq_getElem hi) (by omega) (q H1 _ (List.getElem_mem hi) s1 w1)
/-- some term, of at most n parts -/
def sp_leaf (K : PySem.W.Frag) : Sp := fun vs H Q _ => ∃ (wl : Addr) (n : Int), vs = [.ref wl, .int n] ∧ Well H wl ∧ 0 < n ∧ n < 1073741824 ∧ ∀ H' v t, wf t → (parts t).length = 1 → Den K H' v t → Sm (Mw wl) H H' → Well H' wl → Q v H'
theorem ok_leaf (B : Bf K mg) (G : Gd K mg "_law_leaf" s__law_leaf) (O__law_draw : Okf P w K mg base "_law_draw" 1 ["_law_well_here", "_law_many"] [] (sp_draw K)) (O__law_one : Okf P w K mg base "_law_one" 2 ["_law_well_here", "_law_some"] [] (sp_one K)) : Okf P w K mg base "_law_leaf" 3 ["_law_well_here", "_law_many"] [] (sp_leaf K) := by
  refine okf_mk G sc__law_leaf (fun _ _ _ _ _ _ us hl => match us, hl with | [_, _], _ => rfl) (fun vs H Q E h => ?_) (fun cdv A outer s H vs Q E hr h => ?_)
  · obtain ⟨wl, n, rfl, _⟩ := h
    rfl
  · obtain ⟨wl, n, rfl, hw, h0, h1, q⟩ := h
    refine ⟨_, (pss_cons (ps_set (i := 2) sc__law_leaf.nd rfl (Or.inl rfl) (pe_callO O__law_draw (hr.mono (by decide)) (by rfl) (pa_cons (pv 0) (pa_cons pe_int pa_nil))))
      (pss_cons (ps_if (PW.pt (pw_and (pt_cmpR op_lt (pv 2) pe_int (nomark _)) (pw_and1 (pt_cmpR op_gt (pv 1) pe_int (nomark _)))))
        (pss_one (ps_ret (pe_tup (pa_cons (pe_callO O__law_draw (hr.mono (by decide)) (by rfl) (pa_cons (pv 0) (pa_cons (pv 1) pa_nil))) pa_nil))))
        pss_nil)
      (pss_cons (ps_if (pt_cmpR op_eq (pv 2) pe_int (nomark _))
        (pss_cons (ps_set (i := 3) sc__law_leaf.nd rfl (Or.inl rfl) (pe_op op_sub (pe_op op_mulW (pe_op op_powW (pe_op op_pow pe_int pe_int) pe_int) (pe_op op_pow pe_int pe_int)) pe_int))
      (pss_one (ps_ret (pe_callO O__law_one (hr.mono (by decide)) (by rfl) (pa_cons (pv 0) (pa_cons (pe_lst (pa_cons pe_int (pa_cons pe_int (pa_cons pe_int (pa_cons (pe_un un_neg pe_int) (pa_cons (pv 3) (pa_cons (pe_op op_sub (pe_callO O__law_draw (hr.mono (by decide)) (by rfl) (pa_cons (pv 0) (pa_cons (pe_op op_pow pe_int pe_int) pa_nil))) (pe_op op_mul pe_int (pe_op op_pow pe_int pe_int))) pa_nil))))))) pa_nil))))))
        pss_nil)
      (pss_one (ps_ret (pe_callO O__law_one (hr.mono (by decide)) (by rfl) (pa_cons (pv 0) (pa_cons (pe_lst (pa_cons pe_str (pa_cons pe_str (pa_cons pe_str (pa_cons pe_str (pa_cons pe_str (pa_cons pe_str (pa_cons pe_str (pa_cons (pe_op op_mulS pe_str pe_int) pa_nil))))))))) pa_nil)))))))), ?_⟩
    walk_at "rd"
    refine ⟨wl, 7, rfl, hw, by decide, by decide, fun H1 i g0 g1 s1 w1 => ⟨_, rfl, ite2 (fun c => ?_) (fun c => eqI ⟨_, rfl, ite2 (fun c2 => ?_) (fun c2 => ?_)⟩)⟩⟩
    · rw [decide_eq_true h0]
      refine iteT ⟨wl, n, rfl, w1, h0, h1, fun H2 j k0 k1 s2 w2 => ⟨by decide, fun p np => q _ _ (.var j.toNat) trivial rfl (mk_var (SqT.of ?_)) (Sm.new2 (s1.trans s2) np) (w2.upd np)⟩⟩
      rw [upd_same, Int.toNat_of_nonneg k0]
    · refine ⟨⟨by decide, by decide, by decide⟩, ⟨by decide, by decide +kernel⟩, ⟨by decide, by decide, by decide⟩, (by unfold CMulW; decide +kernel), ⟨by decide, by decide, by decide⟩, ?_⟩
      refine ⟨wl, _, rfl, w1, by decide, by decide, fun H2 j k0 k1 s2 w2 => ⟨⟨by decide, by decide, by decide⟩, .inl ⟨by decide, by decide⟩, _, rfl, by decide, fun p np => ?_⟩⟩
      have wp : wl ≠ p := by obtain ⟨_, _, _, e⟩ := w2; exact ne_of_none e np
      refine ⟨wl, p, _, rfl, w2.upd np, SqL.of upd_same, wp.symm, by simp, by simp, fun H3 x hx s3 w3 => ?_⟩
      have sm : Sm (Mw wl) H H3 := (Sm.new2 (s1.trans s2) np).trans s3
      have num : ∀ z : Int, -tooGreat < z → z < tooGreat → Q (.int z) H3 := fun z a b => q H3 (.int z) (.num z) ⟨a, b⟩ rfl (.int z) sm w3
      have tb := tg_big
      have e9 : (10 : Int) ^ Int.toNat 9 = 1000000000 := by decide
      have e8 : (10 : Int) ^ Int.toNat 8 = 100000000 := by decide
      simp only [List.mem_cons, List.not_mem_nil, or_false] at hx
      rcases hx with rfl | rfl | rfl | rfl | rfl | rfl
      · exact num _ (by omega) (by omega)
      · exact num _ (by omega) (by omega)
      · exact num _ (by omega) (by omega)
      · exact num _ (by omega) (by omega)
      · exact num _ (by decide +kernel) (by decide +kernel)
      · rw [e8]
        rw [e9] at k1
        exact num _ (by omega) (by omega)
    · refine ⟨_, _, rfl, rfl, by decide, by decide, by decide, by decide, fun p np => ?_⟩
      have wp : wl ≠ p := by obtain ⟨_, _, _, e⟩ := w1; exact ne_of_none e np
      refine ⟨wl, p, _, rfl, w1.upd np, SqL.of upd_same, wp.symm, by simp, by simp, fun H3 x hx s3 w3 => ?_⟩
      have sm : Sm (Mw wl) H H3 := (Sm.new2 s1 np).trans s3
      have atm : ∀ z : Str, atomOk z = true → Q (.str z) H3 := fun z a => q H3 (.str z) (.atm z) a rfl (.str z) sm w3
      simp only [List.mem_cons, List.not_mem_nil, or_false] at hx
      rcases hx with rfl | rfl | rfl | rfl | rfl | rfl | rfl | rfl
      all_goals exact atm _ (by decide +kernel)
/-- a drawn term -/
def tsz : Nat → Nat
  | 0 => 1
  | 1 => 1
  | 2 => 9
  | n + 3 => 1 + 2 * tsz (n + 2)
theorem tsz_pos : ∀ n, 1 ≤ tsz n
  | 0 => Nat.le_refl _
  | 1 => Nat.le_refl _
  | 2 => by decide
  | n + 3 => by simp only [tsz]; omega
theorem depth_one {t : Tm} (h : (parts t).length = 1) : depth t = 1 := by
  cases t with
  | cmp f as =>
    simp only [parts, List.length_cons] at h
    have := partsL_len as
    cases as with
    | nil => rfl
    | cons a r => rw [List.length_cons] at this; omega
  | _ => rfl
theorem terms_of {K : PySem.W.Frag} {H : Hp} {C : Tm → Prop} : ∀ {ys : List V}, (∀ (j : Nat) y, ys[j]? = some y → ∃ t, C t ∧ Den K H y t) → ∃ ts, Dens K H ys ts ∧ ∀ t ∈ ts, C t
  | [], _ => ⟨[], .nil, fun t h => by cases h⟩
  | y :: ys, h => by
    obtain ⟨t, c, d⟩ := h 0 y rfl
    obtain ⟨ts, ds, cs⟩ := terms_of (ys := ys) fun j y hy => h (j + 1) y (by simpa using hy)
    refine ⟨t :: ts, .cons d ds, fun u hu => ?_⟩
    rcases List.mem_cons.mp hu with rfl | hu
    · exact c
    · exact cs u hu
theorem wfs_of : ∀ {ts : List Tm}, (∀ t ∈ ts, wf t) → wfs ts
  | [], _ => trivial
  | t :: ts, h => ⟨h t List.mem_cons_self, wfs_of fun u hu => h u (List.mem_cons_of_mem _ hu)⟩
theorem partsL_le {n : Nat} : ∀ {ts : List Tm}, (∀ t ∈ ts, (parts t).length ≤ n) → (partsL ts).length ≤ ts.length * n
  | [], _ => by simp [partsL]
  | t :: ts, h => by
    have h1 := h t List.mem_cons_self
    have h2 := partsL_le (ts := ts) fun u hu => h u (List.mem_cons_of_mem _ hu)
    simp only [partsL, List.length_append, List.length_cons, Nat.add_mul, Nat.one_mul]
    omega
theorem depthL_le {n : Nat} : ∀ {ts : List Tm}, (∀ t ∈ ts, depth t ≤ n) → depthL ts ≤ n
  | [], _ => by simp [depthL]
  | t :: ts, h => by
    have h1 := h t List.mem_cons_self
    have h2 := depthL_le (ts := ts) fun u hu => h u (List.mem_cons_of_mem _ hu)
    simp only [depthL]
    omega
def okFa (e : Nat) (d : PyData) : Prop := ∃ (f : Str) (a : Nat), d = .tuple [.str f, .int a] ∧ atomOk f = true ∧ 1 ≤ a ∧ a ≤ 8 ∧ (e ≠ 2 → a ≤ 2)
theorem okFa_mk {e : Nat} {f : Str} {a : Nat} {i : Int} (hi : i = (a : Int)) (hf : atomOk f = true) (h1 : 1 ≤ a) (h2 : a ≤ 8) (h3 : e = 2 ∨ a ≤ 2) : okFa e (.tuple [.str f, .int i]) := ⟨f, a, by rw [hi], hf, h1, h2, fun z => by rcases h3 with h | h; exact absurd h z; exact h⟩
def sp_term (K : PySem.W.Frag) (d : Nat) : Sp := fun vs H Q _ => ∃ (wl : Addr) (n : Int), 1 ≤ d ∧ vs = [.ref wl, .int d, .int n] ∧ Well H wl ∧ 0 < n ∧ n < 1073741824 ∧ ∀ H' v t, wf t → (parts t).length ≤ tsz d → depth t ≤ d → Den K H' v t → Sm (Mw wl) H H' → Well H' wl → Q v H'
theorem ok_term (B : Bf K mg) (G : Gd K mg "_law_term" s__law_term) (O__law_draw : Okf P w K mg base "_law_draw" 1 ["_law_well_here", "_law_many"] [] (sp_draw K)) (O__law_one : Okf P w K mg base "_law_one" 2 ["_law_well_here", "_law_some"] [] (sp_one K)) (O__law_leaf : Okf P w K mg base "_law_leaf" 3 ["_law_well_here", "_law_many"] [] (sp_leaf K)) :
    ∀ d, Okf P w K mg base "_law_term" (3 + d) ["_law_well_here", "_law_deep", "_law_many"] [] (sp_term K d) := by
  intro d
  induction d with
  | zero =>
    refine okf_mk G sc__law_term (fun _ _ _ _ _ _ us hl => match us, hl with | [_, _, _], _ => rfl) (fun vs H Q E h => ?_) (fun cdv A outer s H vs Q E hr h => ?_)
    · obtain ⟨wl, n, h, _⟩ := h
      omega
    · obtain ⟨wl, n, h, _⟩ := h
      omega
  | succ d O__law_term =>
    show Okf P w K mg base "_law_term" ((3 + d) + 1) _ _ _
    refine okf_mk G sc__law_term (fun _ _ _ _ _ _ us hl => match us, hl with | [_, _, _], _ => rfl) (fun vs H Q E h => ?_) (fun cdv A outer s H vs Q E hr h => ?_)
    · obtain ⟨wl, n, _, rfl, _⟩ := h
      rfl
    · obtain ⟨wl, n, _, rfl, hw, h0, h1, q⟩ := h
      have hrr := hr
      refine ⟨_, (pss_cons (ps_if (PW.pt (pw_or (pt_cmpR op_le (pv 1) pe_int (nomark _)) (pw_or1 (pt_cmpR op_eq (pe_callO O__law_draw (hr.mono (by omega)) (by rfl) (pa_cons (pv 0) (pa_cons pe_int pa_nil))) pe_int (nomark _)))))
        (pss_one (ps_ret (pe_callO O__law_leaf (hr.mono (by omega)) (by rfl) (pa_cons (pv 0) (pa_cons (pv 2) pa_nil)))))
        pss_nil)
      (pss_cons (ps_set (i := 3) sc__law_term.nd rfl (Or.inl rfl) (pe_lst (pa_cons (pe_tup (pa_cons pe_str (pa_cons pe_int pa_nil))) (pa_cons (pe_tup (pa_cons pe_str (pa_cons pe_int pa_nil))) (pa_cons (pe_tup (pa_cons pe_str (pa_cons pe_int pa_nil))) (pa_cons (pe_tup (pa_cons pe_str (pa_cons pe_int pa_nil))) (pa_cons (pe_tup (pa_cons pe_str (pa_cons pe_int pa_nil))) (pa_cons (pe_tup (pa_cons pe_str (pa_cons pe_int pa_nil))) pa_nil))))))))
      (pss_cons (ps_asg (pe_callO O__law_one (hr.mono (by omega)) (by rfl) (pa_cons (pv 0) (pa_cons (pe_op op_cat (pv 3) (pe_ifExp (pt_cmpR op_eq (pv 1) pe_int (nomark _)) (pe_lst (pa_cons (pe_tup (pa_cons pe_str (pa_cons pe_int pa_nil))) (pa_cons (pe_tup (pa_cons pe_str (pa_cons pe_int pa_nil))) pa_nil))) (pe_lst pa_nil))) pa_nil))) (pg_tup rfl (pgs_cons (pg_name (i := 4) sc__law_term.nd rfl (Or.inl rfl)) (pgs_cons (pg_name (i := 5) sc__law_term.nd rfl (Or.inl rfl)) pgs_nil))))
      (pss_one (ps_ret (pe_op op_catA (pe_tup (pa_cons (pv 4) pa_nil)) (pe_callTy call_tuple_of (by rfl) B.b_tuple (by decide +kernel) (pa_cons (pe_lc (own := [("_law_k", 6)]) (g := gName 6) (tt := tYes) rfl sc__law_term.nd (pi_range1 (by rfl) B.b_range (pa_cons (pv 5) pa_nil)) (blkOk_by (own := [("_law_k", 6)]) (N := ["_law_well_here", "_law_deep", "_law_many", "_law_some", "_law_name", "_law_arity", "_law_k"]) (sc := defScope s__law_term) (by decide +kernel)) (fun _ _ _ _ _ => (pg_name (i := 6) sc__law_term.nd rfl (Or.inl rfl))) (fun _ _ _ _ _ => pts_nil) (fun _ _ _ _ _ => (pe_callO O__law_term hrr (by rfl) (pa_cons (pv 0) (pa_cons (pe_op op_sub (pv 1) pe_int) (pa_cons (pv 2) pa_nil)))))) pa_nil)))))))), ?_⟩
      walk_at "r0"
      have leaf : ∀ H1, Sm (Mw wl) H H1 → Well H1 wl → sp_leaf K [.ref wl, .int n] H1 Q E0 := fun H1 s1 w1 => ⟨wl, n, rfl, w1, h0, h1, fun H2 v t ht hp dv s2 w2 => q H2 v t ht (by rw [hp]; exact tsz_pos _) (by rw [depth_one hp]; omega) dv (s1.trans s2) w2⟩
      refine ite2 (fun c => leaf H (Sm.refl H) hw) (fun c => ?_)
      refine ⟨wl, 4, rfl, hw, by decide, by decide, fun H1 i g0 g1 s1 w1 => eqI ⟨_, rfl, ite2 (fun c2 => leaf H1 s1 w1) (fun c2 => ?_)⟩⟩
      apply evl_use (K := K)
      · walk_at "evd"
      · simp
      intro p H2 vs s2 np e2 d2
      have hd2 : 2 ≤ d + 1 := by simp at c; omega
      have w2 := w1.same s2
      have wp : p ≠ wl := by obtain ⟨_, _, _, e⟩ := w1; exact (ne_of_none e np).symm
      have core : ∀ (H3 : Hp) (p3 : Addr) (us : List V) (es : List PyData), Same H2 H3 → p3 ≠ wl → H3 p3 = some (.lst us) → DpAll K H3 us es → es.length ≤ 2 → (∀ e ∈ es, okFa (d + 1) e) → rCat (V.ref p) (.ref p3) H3 fun x H1 =>
              sp_one K [V.ref wl, x] H1
                (fun x H1 =>
                  ∃ a,
                    x = V.ref a ∧
                      ∃ x,
                        SqT K H1 a x ∧
                          x.length = 2 ∧
                            ∃ v r,
                              x = v :: r ∧
                                ∃ v_1 r_1,
                                  r = v_1 :: r_1 ∧
                                    r_1 = [] ∧
                                      tTup (tCons (tVar 4) tNil)
                                        [some (V.ref wl), some (V.int ↑(d + 1)), some (V.int n), some (V.ref p), some v,
                                          some v_1, none]
                                        H1 fun x H1 =>
                                        tLc (iRng1 (tCons (tVar 5) tNil)) (gName 6) tYes
                                          (tCall (sp_term K d) [] E0
                                            (tCons (tVar 0)
                                              (tCons (tOp (rI0 fun i j => V.int (i - j)) (tVar 1) (tC (V.int 1)))
                                                (tCons (tVar 2) tNil))))
                                          [6]
                                          [some (V.ref wl), some (V.int ↑(d + 1)), some (V.int n), some (V.ref p),
                                            some v, some v_1, none]
                                          H1 fun x_1 H1 =>
                                          ∃ p,
                                            [x_1] = [V.ref p] ∧
                                              ∃ x_2,
                                                (SqL K H1 p x_2 ∧
                                                    ∀ (l : Addr),
                                                      H1 l = none → rCatA K x (V.ref l) (upd H1 l (HO.tup x_2)) Q) ∨
                                                  SqT K H1 p x_2 ∧ rCatA K x (V.ref p) H1 Q)
                E0 := by
        intro H3 p3 us es s3 wp3 e3 d3 hle hes
        have hl2 := DpAll.length d2
        have hl3 := DpAll.length d3
        simp only [List.length_cons, List.length_nil] at hl2
        refine ⟨p, p3, vs, us, rfl, rfl, s3 _ _ e2, e3, Nat.le_trans (show _ ≤ 100 by omega) (by decide), fun p4 n4 => ?_⟩
        have S24 := s3.trans (same_upd (o := .lst (vs ++ us)) n4)
        have w4 := w2.same S24
        have wp4 : p4 ≠ wl := by obtain ⟨_, _, _, e⟩ := w2.same s3; exact (ne_of_none e n4).symm
        refine ⟨wl, p4, _, rfl, w4, SqL.of upd_same, wp4, ?_, ?_, fun H5 x hx s5 w5 => ?_⟩
        · intro z
          have := congrArg List.length z
          rw [List.length_append, List.length_nil] at this
          omega
        · rw [List.length_append]; omega
        · have tk5 := w4.tk s5
          have hx2 : ∃ e, okFa (d + 1) e ∧ Dp K H5 x e := by
            rcases List.mem_append.mp hx with hx | hx
            · obtain ⟨e, he, hd⟩ := DpAll.mem d2 hx
              have oke : okFa (d + 1) e := by
                simp only [List.mem_cons, List.not_mem_nil, or_false] at he
                rcases he with rfl | rfl | rfl | rfl | rfl | rfl
                · exact okFa_mk (a := 1) rfl (by decide +kernel) (by decide) (by decide) (.inr (by decide))
                · exact okFa_mk (a := 2) rfl (by decide +kernel) (by decide) (by decide) (.inr (by decide))
                · exact okFa_mk (a := 2) rfl (by decide +kernel) (by decide) (by decide) (.inr (by decide))
                · exact okFa_mk (a := 2) rfl (by decide +kernel) (by decide) (by decide) (.inr (by decide))
                · exact okFa_mk (a := 1) rfl (by decide +kernel) (by decide) (by decide) (.inr (by decide))
                · exact okFa_mk (a := 2) rfl (by decide +kernel) (by decide) (by decide) (.inr (by decide))
              obtain ⟨f, a, rfl, h⟩ := id oke
              exact ⟨_, oke, Dp.tk tk5 _ _ rfl (Dp.same S24 _ _ hd)⟩
            · obtain ⟨e, he, hd⟩ := DpAll.mem d3 hx
              have oke := hes e he
              obtain ⟨f, a, rfl, h⟩ := id oke
              exact ⟨_, oke, Dp.tk tk5 _ _ rfl (Dp.same (same_upd n4) _ _ hd)⟩
          obtain ⟨e, ⟨f, a, rfl, hf, ha1, ha8, ha2⟩, hd⟩ := hx2
          have sm5 : Sm (Mw wl) H H5 := (s1.trans (Sm.of (s2.trans S24))).trans s5
          cases hd with
          | tup hs ha =>
            cases ha with
            | cons x1 x2 =>
              cases x2 with
              | cons x3 x4 =>
                cases x1
                cases x3
                cases x4
                refine ⟨_, rfl, _, hs, rfl, _, _, rfl, _, _, rfl, rfl, _, rfl, (by show 1 ≤ sizeLine; decide), fun p6 n6 => ?_⟩
                have sm6 := Sm.new2 (o := .tup [.str f]) sm5 n6
                have w6 := w5.upd (o := .tup [.str f]) n6
                refine tlc_of ⟨_, rfl, (a : Int), rfl, by omega, by omega, lc_rngM (M := Mw wl) (Z := fun H => Well H wl) (R := fun j y H => ∃ t, (wf t ∧ (parts t).length ≤ tsz d ∧ depth t ≤ d) ∧ Den K H y t) ?_ ?_ w6 ?_ ?_ ?_ ?_ ?_⟩
                · exact Nat.le_trans (show _ ≤ 100 by omega) (by decide)
                · intro b hb hn
                  obtain ⟨_, _, _, e⟩ := w6
                  rw [show b = wl from hb, e] at hn
                  cases hn
                · rintro D o HA hD ⟨xa, ya, za, hz⟩
                  obtain ⟨_, _, _, e⟩ := w6
                  exact ⟨xa, ya, za, by rw [upd_ne (ne_of_none e hD)]; exact hz⟩
                · rintro j y HA HB tk ⟨t, h, dt⟩
                  exact ⟨t, h, Dp.tk tk _ _ (noL_toD t) dt⟩
                · rintro HA b o ⟨_, _, _, e⟩ hb hE
                  rw [show b = wl from hb, e] at hE
                  cases hE
                  exact fun f => f
                · intro j HA k hj sA wA kk
                  walk_at "rd"
                  refine ⟨wl, n, by omega, by simp, wA, h0, h1, fun HB v t ht hp hdp dv sB wB => kk v HB sB wB ⟨t, ⟨ht, hp, hdp⟩, dv⟩⟩
                · intro D HA ys hD sA wA eD hly r
                  obtain ⟨ts, dts, hts⟩ := terms_of r
                  have hlt := dens_len dts
                  have hly' : ys.length = a := by omega
                  refine ⟨D, rfl, ys, .inl ⟨SqL.of eD, fun p7 n7 => ?_⟩⟩
                  have hp6 : SqT K (upd HA p7 (.tup ys)) p6 [.str f] := SqT.of ((same_upd n7) _ _ (sA p6 _ (by
                    obtain ⟨_, _, _, e⟩ := w5
                    exact (ne_of_none e n6).symm) upd_same))
                  refine ⟨p6, p7, [.str f], ys, rfl, rfl, hp6, SqT.of upd_same, Nat.le_trans (show _ ≤ 100 by simp; omega) (by decide), (fun z => nomatch z), (fun _ z => by have := congrArg List.length z; rw [List.length_nil] at this; omega), (fun _ _ p8 n8 => ?_)⟩
                  have S8 := (same_upd (o := .tup ys) n7).trans (same_upd (o := .tup ([.str f] ++ ys)) n8)
                  refine q _ _ (.cmp f ts) ⟨hf, fun z => by have := congrArg List.length z; rw [List.length_nil] at this; omega, by omega, wfs_of fun t ht => (hts t ht).1⟩ ?_ ?_ (mk_cmp (SqT.of upd_same) (DpAll.same S8 _ _ dts)) (Sm.new2 (Sm.new2 (sm6.trans sA) n7) n8) ((wA.upd n7).upd n8)
                  · have hpl := partsL_le (n := tsz d) (ts := ts) fun t ht => (hts t ht).2.1
                    simp only [parts, List.length_cons]
                    rw [← hlt, hly'] at hpl
                    rcases Nat.lt_or_ge (d + 1) 3 with h | h
                    · have e1 : d = 1 := by omega
                      subst e1
                      simp only [tsz] at hpl ⊢
                      omega
                    · obtain ⟨e, rfl⟩ : ∃ e, d = e + 2 := ⟨d - 2, by omega⟩
                      have ha := ha2 (by omega)
                      simp only [tsz]
                      have : a * tsz (e + 2) ≤ 2 * tsz (e + 2) := Nat.mul_le_mul_right _ ha
                      omega
                  · have := depthL_le (n := d) (ts := ts) fun t ht => (hts t ht).2.2
                    simp only [depth]
                    omega
      refine eqI ⟨_, rfl, ite2 (fun c3 => ?_) (fun c3 => ?_)⟩
      · have c3' : d + 1 = 2 := by have : ((d + 1 : Nat) : Int) = 2 := by simpa using c3
                                   omega
        apply evl_use (K := K)
        · walk_at "evd"
        · simp
        intro p3 H3 us s3 np3 e3 d3
        refine core H3 p3 us _ s3 ?_ e3 d3 (by simp) ?_
        · obtain ⟨_, _, _, e⟩ := w2
          exact (ne_of_none e np3).symm
        · intro e he
          simp only [List.mem_cons, List.not_mem_nil, or_false] at he
          rcases he with rfl | rfl
          · exact okFa_mk (a := 3) rfl (by decide +kernel) (by decide) (by decide) (.inl c3')
          · exact okFa_mk (a := 8) rfl (by decide +kernel) (by decide) (by decide) (.inl c3')
      · apply evl_use (K := K) (ds := [])
        · walk_at "evd"
        · simp
        intro p3 H3 us s3 np3 e3 d3
        refine core H3 p3 us _ s3 ?_ e3 d3 (by simp) (fun e he => by cases he)
        obtain ⟨_, _, _, e⟩ := w2
        exact (ne_of_none e np3).symm
end
end K1

namespace K1
open PySem PySem.Spec PyProof.Rows L2 HM
local macro_rules | `(tactic| walk_at "rd") => `(tactic| (dsimp only [tSeq, tNext, tRet, tRetN, tAsg, gName, gTup, gCons, gNil, gSub, tDrop, tIfS, tVar, tC, tOp, tUn, tTest, tB, tAnd, tOr, tNot, tAndV, tOrV, tNotV, tIf, tCB, tCons, tNil, tTup, tLst, tCall, tPar, tPar3, tAug, tSl, tPart, tNoPart, tBM, tBM0, tRevT, tRevL, tChain, sDPut, tDGet, tDGet1, tDGet2, tDNewK, tDNewT, tDIn, tDNotIn, tYes, wipe, cxOf, Cx.nox, Cx.wish, L2.start, rI0, rI, rU, ipI, List.length_cons, List.length_nil, List.map_cons, List.map_nil, List.replicate, List.cons_append, List.nil_append, List.append_nil, List.getElem?_cons_zero, List.getElem?_cons_succ, List.set_cons_zero, List.set_cons_succ, Nat.reduceAdd, Nat.reduceSub]; try simp only [List.map_cons, List.map_nil, List.append_nil, List.cons_append, List.nil_append, List.getElem?_cons_zero, List.getElem?_cons_succ, List.set_cons_zero, List.set_cons_succ, rIntI_eq, rIntB_eq, rAbs_eq, Option.some.injEq, V.int.injEq, V.bl.injEq, V.str.injEq, V.ref.injEq, exists_eq_left', exists_and_left, exists_eq', true_and, and_true, if_true, if_false, Bool.false_eq_true]))
local macro_rules | `(tactic| walk_at "r0") => `(tactic| (dsimp only [tSeq, tNext, tRet, tRetN, tAsg, gName, gTup, gCons, gNil, gSub, tDrop, tIfS, tVar, tC, tOp, tUn, tTest, tB, tAnd, tOr, tNot, tAndV, tOrV, tNotV, tIf, tCB, tCons, tNil, tCall, tPar, tPar3, tAug, tSl, tPart, tNoPart, tBM, tBM0, tRevT, tRevL, tChain, sDPut, tDGet, tDGet1, tDGet2, tDNewK, tDNewT, tDIn, tDNotIn, tYes, wipe, cxOf, Cx.nox, Cx.wish, L2.start, rI0, rI, rU, ipI, List.length_cons, List.length_nil, List.map_cons, List.map_nil, List.replicate, List.cons_append, List.nil_append, List.append_nil, List.getElem?_cons_zero, List.getElem?_cons_succ, List.set_cons_zero, List.set_cons_succ, Nat.reduceAdd, Nat.reduceSub]; try simp only [List.map_cons, List.map_nil, List.append_nil, List.cons_append, List.nil_append, List.getElem?_cons_zero, List.getElem?_cons_succ, List.set_cons_zero, List.set_cons_succ, rIntI_eq, rIntB_eq, rAbs_eq, Option.some.injEq, V.int.injEq, V.bl.injEq, V.str.injEq, V.ref.injEq, exists_eq_left', exists_and_left, exists_eq', true_and, and_true, if_true, if_false, Bool.false_eq_true]))
local macro_rules | `(tactic| walk_at "evd") => `(tactic| repeat (first | exact evds_nil | exact evd_int | exact evd_str | exact evd_bl | exact evd_non | exact evd_neg | apply evds_cons | apply evd_tup | apply evd_lst | (simp only [List.length_cons, List.length_nil]; omega)))
section
variable {P : Program} {w : World} {K : PySem.W.Frag} {mg : Str → Option Value} {base : Heap}
def sp_lisvar (K : PySem.W.Frag) : Sp := fun vs H Q _ => ∃ v t, vs = [v] ∧ Den K H v t ∧ wf t ∧ Q (.bl (isVar t)) H
theorem ok_lisvar (B : Bf K mg) (G : Gd K mg "_law_is_variable" s__law_is_variable) : Okf P w K mg base "_law_is_variable" 1 ["_law_term_here"] [] (sp_lisvar K) := by
  refine okf_mk G sc__law_is_variable (fun _ _ _ _ _ _ us hl => match us, hl with | [_], _ => rfl) (fun vs H Q E h => ?_) (fun cdv A outer s H vs Q E hr h => ?_)
  · obtain ⟨v, t, rfl, _⟩ := h
    rfl
  · obtain ⟨v, t, rfl, hd, hw, q⟩ := h
    refine ⟨_, (pss_one (ps_ret (pe_and (pe_callB call_isi (by rfl) B.b_isinstance (by decide +kernel) (pa_cons (pv 0) (pa_cons (pe_bltn (v := .ty "tuple") (by rfl) B.b_tuple (by decide +kernel) rfl) pa_nil))) (pe_one (pe_cmpR op_eq (pe_callB call_lenQ (by rfl) B.b_len (by decide +kernel) (pa_cons (pv 0) pa_nil)) pe_int (nomark _)))))), ?_⟩
    walk_at "rd"
    refine isi_tuple hd ⟨_, rfl, ?_⟩
    cases t with
    | var k =>
      obtain ⟨a, rfl, hs⟩ := den_var hd
      exact iteT (lenT hs (eqI q))
    | cmp f as =>
      obtain ⟨a, us, rfl, hs, hu⟩ := den_cmp hd
      have hl := dens_len hu
      have hp : 0 < as.length := List.length_pos_iff.mpr hw.2.1
      refine iteT (lenT hs (eqI (q_bl ?_ q)))
      rw [List.length_cons]
      exact decide_eq_false (by omega)
    | num i => exact iteF q
    | atm x => exact iteF q
def sp_liscmp (K : PySem.W.Frag) : Sp := fun vs H Q _ => ∃ v t, vs = [v] ∧ Den K H v t ∧ wf t ∧ Q (.bl (isCmp t)) H
theorem ok_liscmp (B : Bf K mg) (G : Gd K mg "_law_is_compound" s__law_is_compound) : Okf P w K mg base "_law_is_compound" 1 ["_law_term_here"] [] (sp_liscmp K) := by
  refine okf_mk G sc__law_is_compound (fun _ _ _ _ _ _ us hl => match us, hl with | [_], _ => rfl) (fun vs H Q E h => ?_) (fun cdv A outer s H vs Q E hr h => ?_)
  · obtain ⟨v, t, rfl, _⟩ := h
    rfl
  · obtain ⟨v, t, rfl, hd, hw, q⟩ := h
    refine ⟨_, (pss_one (ps_ret (pe_and (pe_callB call_isi (by rfl) B.b_isinstance (by decide +kernel) (pa_cons (pv 0) (pa_cons (pe_bltn (v := .ty "tuple") (by rfl) B.b_tuple (by decide +kernel) rfl) pa_nil))) (pe_one (pe_cmpR op_gt (pe_callB call_lenQ (by rfl) B.b_len (by decide +kernel) (pa_cons (pv 0) pa_nil)) pe_int (nomark _)))))), ?_⟩
    walk_at "rd"
    refine isi_tuple hd ⟨_, rfl, ?_⟩
    cases t with
    | var k =>
      obtain ⟨a, rfl, hs⟩ := den_var hd
      exact iteT (lenT hs ⟨_, rfl, q⟩)
    | cmp f as =>
      obtain ⟨a, us, rfl, hs, hu⟩ := den_cmp hd
      have hl := dens_len hu
      have hp : 0 < as.length := List.length_pos_iff.mpr hw.2.1
      refine iteT (lenT hs ⟨_, rfl, q_bl ?_ q⟩)
      rw [List.length_cons]
      exact decide_eq_true (by omega)
    | num i => exact iteF q
    | atm x => exact iteF q
end
end K1

namespace K1
open PySem PySem.Spec PyProof.Rows L2 HM
local macro_rules | `(tactic| walk_at "rd") => `(tactic| (dsimp only [tSeq, tNext, tRet, tRetN, tAsg, gName, gTup, gCons, gNil, gSub, tDrop, tIfS, tVar, tC, tOp, tUn, tTest, tB, tAnd, tOr, tNot, tAndV, tOrV, tNotV, tIf, tCB, tCons, tNil, tTup, tLst, tCall, tPar, tPar3, tAug, tSl, tPart, tNoPart, tBM, tBM0, tRevT, tRevL, tChain, sDPut, tDGet, tDGet1, tDGet2, tDNewK, tDNewT, tDIn, tDNotIn, tYes, wipe, cxOf, Cx.nox, Cx.wish, L2.start, rI0, rI, rU, ipI, List.length_cons, List.length_nil, List.map_cons, List.map_nil, List.replicate, List.cons_append, List.nil_append, List.append_nil, List.getElem?_cons_zero, List.getElem?_cons_succ, List.set_cons_zero, List.set_cons_succ, Nat.reduceAdd, Nat.reduceSub]; try simp only [List.map_cons, List.map_nil, List.append_nil, List.cons_append, List.nil_append, List.getElem?_cons_zero, List.getElem?_cons_succ, List.set_cons_zero, List.set_cons_succ, rIntI_eq, rIntB_eq, rAbs_eq, Option.some.injEq, V.int.injEq, V.bl.injEq, V.str.injEq, V.ref.injEq, exists_eq_left', exists_and_left, exists_eq', true_and, and_true, if_true, if_false, Bool.false_eq_true]))
local macro_rules | `(tactic| walk_at "r0") => `(tactic| (dsimp only [tSeq, tNext, tRet, tRetN, tAsg, gName, gTup, gCons, gNil, gSub, tDrop, tIfS, tVar, tC, tOp, tUn, tTest, tB, tAnd, tOr, tNot, tAndV, tOrV, tNotV, tIf, tCB, tCons, tNil, tCall, tPar, tPar3, tAug, tSl, tPart, tNoPart, tBM, tBM0, tRevT, tRevL, tChain, sDPut, tDGet, tDGet1, tDGet2, tDNewK, tDNewT, tDIn, tDNotIn, tYes, wipe, cxOf, Cx.nox, Cx.wish, L2.start, rI0, rI, rU, ipI, List.length_cons, List.length_nil, List.map_cons, List.map_nil, List.replicate, List.cons_append, List.nil_append, List.append_nil, List.getElem?_cons_zero, List.getElem?_cons_succ, List.set_cons_zero, List.set_cons_succ, Nat.reduceAdd, Nat.reduceSub]; try simp only [List.map_cons, List.map_nil, List.append_nil, List.cons_append, List.nil_append, List.getElem?_cons_zero, List.getElem?_cons_succ, List.set_cons_zero, List.set_cons_succ, rIntI_eq, rIntB_eq, rAbs_eq, Option.some.injEq, V.int.injEq, V.bl.injEq, V.str.injEq, V.ref.injEq, exists_eq_left', exists_and_left, exists_eq', true_and, and_true, if_true, if_false, Bool.false_eq_true]))
local macro_rules | `(tactic| walk_at "evd") => `(tactic| repeat (first | exact evds_nil | exact evd_int | exact evd_str | exact evd_bl | exact evd_non | exact evd_neg | apply evds_cons | apply evd_tup | apply evd_lst | (simp only [List.length_cons, List.length_nil]; omega)))
/-! ### order_key -/
def kd : Tm → PyData
  | .var k => .tuple [.int 0, .int (k : Nat), .str ""]
  | .num i => .tuple [.int 1, .int i, .str ""]
  | .atm x => .tuple [.int 2, .int 0, .str x]
  | .cmp f as => .tuple [.int 3, .int (as.length : Nat), .str f]
def kds (ps : List Tm) : List PyData := ps.map kd
def keyD (t : Tm) : PyData := .list (kds (parts t))
theorem noL_kds : ∀ ps : List Tm, noLs (kds ps) = true
  | [] => rfl
  | t :: ps => by cases t <;> simp [kds, kd, noLs, noL] <;> exact noL_kds ps
section
variable {P : Program} {w : World} {K : PySem.W.Frag} {mg : Str → Option Value} {base : Heap}
def sp_order_key (K : PySem.W.Frag) : Sp := fun vs H Q _ => ∃ v t, vs = [v] ∧ Den K H v t ∧ wf t ∧ (parts t).length ≤ 50000 ∧ ∀ H' p us, Same H H' → H p = none → H' p = some (.lst us) → DpAll K H' us (kds (parts t)) → Q (.ref p) H'
theorem ok_order_key (B : Bf K mg) (G : Gd K mg "order_key" s_order_key) (O_parts_of : Okf P w K mg base "parts_of" 2 ["term"] [] (sp_parts_of K)) (O_is_variable : Okf P w K mg base "is_variable" 2 ["thing"] [] (sp_is_variable K)) (O_is_compound : Okf P w K mg base "is_compound" 1 ["term"] [] (sp_is_compound K)) :
    Okf P w K mg base "order_key" 3 ["term"] [] (sp_order_key K) := by
  refine okf_mk G sc_order_key (fun _ _ _ _ _ _ us hl => match us, hl with | [_], _ => rfl) (fun vs H Q E h => ?_) (fun cdv A outer s H vs Q E hr h => ?_)
  · obtain ⟨v, t, rfl, _⟩ := h
    rfl
  · obtain ⟨v, t, rfl, hd, hw, hz, q⟩ := h
    refine ⟨_, (pss_cons (ps_set (i := 1) sc_order_key.nd rfl (Or.inl rfl) (pe_lst pa_nil))
      (pss_cons (ps_for PassesOwn.never rfl (pi_list (pe_callO O_parts_of (hr.mono (by decide)) (by rfl) (pa_cons (pv 0) pa_nil))) (pg_name (i := 2) sc_order_key.nd rfl (Or.inl rfl))
      (pss_one (ps_if (pt_val (pe_callO O_is_variable (hr.mono (by decide)) (by rfl) (pa_cons (pv 2) pa_nil)))
        (pss_one (ps_expr (pe_bm PySem.F.plainAttrs_list PySem.F.slot_list_append PySem.F.type_list_append mt_append (pv 1) (pa_cons (pe_tup (pa_cons pe_int (pa_cons (pe_ix (show IxR _ (rIxT K) from ix_tup) (pv 2) pe_int (fun _ _ => rfl)) (pa_cons pe_str pa_nil)))) pa_nil))))
        (pss_one (ps_if (pt_val (pe_callO O_is_compound (hr.mono (by decide)) (by rfl) (pa_cons (pv 2) pa_nil)))
        (pss_one (ps_expr (pe_bm PySem.F.plainAttrs_list PySem.F.slot_list_append PySem.F.type_list_append mt_append (pv 1) (pa_cons (pe_tup (pa_cons pe_int (pa_cons (pe_op op_sub (pe_callB call_lenQ (by rfl) B.b_len (by decide +kernel) (pa_cons (pv 2) pa_nil)) pe_int) (pa_cons (pe_ix (show IxR _ (rIxT K) from ix_tup) (pv 2) pe_int (fun _ _ => rfl)) pa_nil)))) pa_nil))))
        (pss_one (ps_if (pt_val (pe_callB call_isi (by rfl) B.b_isinstance (by decide +kernel) (pa_cons (pv 2) (pa_cons (pe_bltn (v := .ty "str") (by rfl) B.b_str (by decide +kernel) rfl) pa_nil))))
        (pss_one (ps_expr (pe_bm PySem.F.plainAttrs_list PySem.F.slot_list_append PySem.F.type_list_append mt_append (pv 1) (pa_cons (pe_tup (pa_cons pe_int (pa_cons pe_int (pa_cons (pv 2) pa_nil)))) pa_nil))))
        (pss_one (ps_expr (pe_bm PySem.F.plainAttrs_list PySem.F.slot_list_append PySem.F.type_list_append mt_append (pv 1) (pa_cons (pe_tup (pa_cons pe_int (pa_cons (pv 2) (pa_cons pe_str pa_nil)))) pa_nil)))))))))))
      (pss_one (ps_ret (pv 1))))), ?_⟩
    walk_at "rd"
    refine ⟨Nat.zero_le _, fun f nf => tfor_of ?_⟩
    have s1 := same_upd (o := .lst []) nf
    refine ⟨_, rfl, v, t, rfl, Dp.same s1 _ _ hd, hw, hz, fun H5 p us s5 n5 e5 d5 => ⟨p, rfl, ⟨_, SqL.of e5⟩, ?_⟩⟩
    have ef5 : H5 f = some (.lst []) := s5 _ _ upd_same
    have npf : p ≠ f := (ne_of_none upd_same n5).symm
    have hl5 := dens_len d5
    have hw5 := wfs_parts t hw
    have d5' := DpAll.same s5 _ _ d5
    have nf5 : ∀ b o, H b = some o → b ≠ f := fun b o e => ne_of_none e nf
    refine for_l (xs := us) (fun j σ H6 => ∃ z2 ys, σ = [some v, some (.ref f), z2] ∧ Sm (· = f) H5 H6 ∧ H6 f = some (.lst ys) ∧ DpAll K H6 ys (kds ((parts t).take j))) ⟨none, [], rfl, Sm.refl _, ef5, by rw [List.take_zero]; exact .nil⟩
        (fun j σ H6 _ ⟨_, _, _, s6, _⟩ => s6.sqL npf (SqL.of e5)) ?_ ?_
    · rintro j y σ H6 hj ⟨z2, ys, rfl, s6, e6, d6⟩
      obtain ⟨ty, hty, dy⟩ := dens_get d5' hj
      have hwy := wfs_get hw5 hty
      have htk2 : (parts t).take (j + 1) = (parts t).take j ++ [ty] := take_succ hty
      have tk6 : Tk H5 H6 := Tk.sm s6 fun b o m e => by subst m; rw [ef5] at e; cases e; exact fun f => f
      have dy6 : Den K H6 y ty := Dp.tk tk6 _ _ (noL_toD ty) dy
      have hly : ys.length < sizeLine := by
        have h1 := DpAll.length d6
        have h2 : (kds ((parts t).take j)).length ≤ 50000 := by
          unfold kds
          rw [List.length_map, List.length_take]
          omega
        exact Nat.lt_of_le_of_lt (show _ ≤ 50000 by omega) (by decide)
      have fin : ∀ (xs : List V) ds, kd ty = .tuple ds → DpAll K H6 xs ds → ∀ q0, H6 q0 = none → rAppend (.ref f) [.ref q0] (upd H6 q0 (.tup xs)) fun _ H7 => ∃ z2, [some v, some (.ref f), some y] = [some v, some (V.ref f), z2] ∧ Sm (· = f) H5 H7 ∧ ∃ ys, H7 f = some (.lst ys) ∧ DpAll K H7 ys (kds ((parts t).take (j + 1))) := by
        intro xs ds hk dx q0 nq
        have sq := same_upd (o := .tup xs) nq
        have eq6 : upd H6 q0 (.tup xs) f = some (.lst ys) := sq _ _ e6
        have nqf : q0 ≠ f := (ne_of_none e6 nq).symm
        refine appR eq6 hly ⟨some y, rfl, (s6.trans (Sm.of sq)).at rfl, ys ++ [.ref q0], upd_same, ?_⟩
        have tkf : Tk (upd H6 q0 (.tup xs)) (upd (upd H6 q0 (.tup xs)) f (.lst (ys ++ [.ref q0]))) := Tk.upd fun u e => by rw [eq6] at e; cases e; exact fun f => f
        rw [htk2]
        unfold kds
        rw [List.map_append]
        refine DpAll.append (DpAll.tk tkf _ _ (noL_kds _) (DpAll.same sq _ _ d6)) (.cons ?_ .nil)
        rw [hk]
        have hn : noL (kd ty) = true := by cases ty <;> rfl
        rw [hk] at hn
        exact Dp.tk tkf _ _ hn (.tup (SqT.of upd_same) (DpAll.same sq _ _ dx))
      walk_at "rd"
      refine ⟨y, _, rfl, dy6, _, rfl, ?_⟩
      rw [isVar_toD hwy]
      cases ty with
      | var k =>
        obtain ⟨b, rfl, hb⟩ := den_var dy6
        refine iteT ⟨tyL e6, ixT0 hb ⟨(by show 3 ≤ sizeLine; decide), fun q0 nq => fin _ _ rfl (.cons (.int 0) (.cons (.int _) (.cons (.str _) .nil))) q0 nq⟩⟩
      | num i =>
        obtain rfl := den_num dy6
        refine iteF ⟨_, _, rfl, dy6, _, rfl, iteF (isi_str (.int _) ⟨_, rfl, iteF ⟨tyL e6, (by show 3 ≤ sizeLine; decide), fun q0 nq => fin _ _ rfl (.cons (.int 1) (.cons (.int _) (.cons (.str _) .nil))) q0 nq⟩⟩)⟩
      | atm x =>
        obtain rfl := den_atm dy6
        refine iteF ⟨_, _, rfl, dy6, _, rfl, iteF (isi_str (.str _) ⟨_, rfl, iteT ⟨tyL e6, (by show 3 ≤ sizeLine; decide), fun q0 nq => fin _ _ rfl (.cons (.int 2) (.cons (.int _) (.cons (.str _) .nil))) q0 nq⟩⟩)⟩
      | cmp g as =>
        obtain ⟨b, us2, rfl, hb, du2⟩ := den_cmp dy6
        refine iteF ⟨_, _, rfl, dy6, _, rfl, ?_⟩
        rw [isComp_toD hwy]
        refine iteT ⟨tyL e6, lenT hb ⟨_, rfl, ixT0 hb ⟨(by show 3 ≤ sizeLine; decide), fun q0 nq => fin _ _ rfl (.cons (.int 3) (.cons ?_ (.cons (.str _) .nil))) q0 nq⟩⟩⟩
        have := dens_len du2
        rw [show ((V.str g :: us2).length : Int) - 1 = (as.length : Nat) by simp [this]]
        exact .int _
    · rintro σ H6 ⟨z2, ys, rfl, s6, e6, d6⟩
      rw [hl5, List.take_length] at d6
      walk_at "rd"
      refine q H6 f ys (fun b o e => ?_) nf e6 d6
      exact s6 _ _ (nf5 b o e) (s5 _ _ (s1 _ _ e))
end
end K1

namespace K1
open PySem PySem.Spec PyProof.Rows L2 HM
local macro_rules | `(tactic| walk_at "rd") => `(tactic| (dsimp only [tSeq, tNext, tRet, tRetN, tAsg, gName, gTup, gCons, gNil, gSub, tDrop, tIfS, tVar, tC, tOp, tUn, tTest, tB, tAnd, tOr, tNot, tAndV, tOrV, tNotV, tIf, tCB, tCons, tNil, tTup, tLst, tCall, tPar, tPar3, tAug, tSl, tPart, tNoPart, tBM, tBM0, tRevT, tRevL, tChain, sDPut, tDGet, tDGet1, tDGet2, tDNewK, tDNewT, tDIn, tDNotIn, tYes, wipe, cxOf, Cx.nox, Cx.wish, L2.start, rI0, rI, rU, ipI, List.length_cons, List.length_nil, List.map_cons, List.map_nil, List.replicate, List.cons_append, List.nil_append, List.append_nil, List.getElem?_cons_zero, List.getElem?_cons_succ, List.set_cons_zero, List.set_cons_succ, Nat.reduceAdd, Nat.reduceSub]; try simp only [List.map_cons, List.map_nil, List.append_nil, List.cons_append, List.nil_append, List.getElem?_cons_zero, List.getElem?_cons_succ, List.set_cons_zero, List.set_cons_succ, rIntI_eq, rIntB_eq, rAbs_eq, Option.some.injEq, V.int.injEq, V.bl.injEq, V.str.injEq, V.ref.injEq, exists_eq_left', exists_and_left, exists_eq', true_and, and_true, if_true, if_false, Bool.false_eq_true]))
local macro_rules | `(tactic| walk_at "r0") => `(tactic| (dsimp only [tSeq, tNext, tRet, tRetN, tAsg, gName, gTup, gCons, gNil, gSub, tDrop, tIfS, tVar, tC, tOp, tUn, tTest, tB, tAnd, tOr, tNot, tAndV, tOrV, tNotV, tIf, tCB, tCons, tNil, tCall, tPar, tPar3, tAug, tSl, tPart, tNoPart, tBM, tBM0, tRevT, tRevL, tChain, sDPut, tDGet, tDGet1, tDGet2, tDNewK, tDNewT, tDIn, tDNotIn, tYes, wipe, cxOf, Cx.nox, Cx.wish, L2.start, rI0, rI, rU, ipI, List.length_cons, List.length_nil, List.map_cons, List.map_nil, List.replicate, List.cons_append, List.nil_append, List.append_nil, List.getElem?_cons_zero, List.getElem?_cons_succ, List.set_cons_zero, List.set_cons_succ, Nat.reduceAdd, Nat.reduceSub]; try simp only [List.map_cons, List.map_nil, List.append_nil, List.cons_append, List.nil_append, List.getElem?_cons_zero, List.getElem?_cons_succ, List.set_cons_zero, List.set_cons_succ, rIntI_eq, rIntB_eq, rAbs_eq, Option.some.injEq, V.int.injEq, V.bl.injEq, V.str.injEq, V.ref.injEq, exists_eq_left', exists_and_left, exists_eq', true_and, and_true, if_true, if_false, Bool.false_eq_true]))
local macro_rules | `(tactic| walk_at "evd") => `(tactic| repeat (first | exact evds_nil | exact evd_int | exact evd_str | exact evd_bl | exact evd_non | exact evd_neg | apply evds_cons | apply evd_tup | apply evd_lst | (simp only [List.length_cons, List.length_nil]; omega)))
theorem kd_alike (t u : Tm) : PySem.W.alike (kd t) (kd u) = true := by cases t <;> cases u <;> rfl
theorem kds_alike : ∀ ps qs : List Tm, PySem.W.alikeAll (kds ps) (kds qs) = true
  | [], _ => rfl
  | _ :: _, [] => rfl
  | t :: ps, u :: qs => by
    show PySem.W.alikeAll (kd t :: kds ps) (kd u :: kds qs) = true
    rw [PySem.W.alikeAll, kd_alike, kds_alike ps qs]
    rfl
theorem key_alike (t u : Tm) : PySem.W.alike (keyD t) (keyD u) = true := by
  unfold keyD
  rw [PySem.W.alike]
  exact kds_alike _ _
theorem kds_depth : ∀ ps : List Tm, PyData.depthAll (kds ps) ≤ 1
  | [] => Nat.zero_le _
  | t :: ps => by
    have := kds_depth ps
    show max (kd t).depth (PyData.depthAll (kds ps)) ≤ 1
    have h : (kd t).depth ≤ 1 := by cases t <;> simp [kd, PyData.depth, PyData.depthAll]
    omega
theorem key_depth (t : Tm) : (keyD t).depth ≤ 2 := by
  have := kds_depth (parts t)
  simp only [keyD, PyData.depth]
  omega
def tltB (t u : Tm) : Bool := PySem.W.dataLt (keyD t) (keyD u)
def cmpT (t u : Tm) : Int := (if tltB u t then 1 else 0) - (if tltB t u then 1 else 0)
def sortT (ts : List Tm) : List Tm := ts.mergeSort (PySem.W.dataLe false keyD)
theorem dens_pairs {K : PySem.W.Frag} {H : Hp} : ∀ {us : List V} {ts : List Tm}, Dens K H us ts → ∀ p, p ∈ us.zip ts → Den K H p.1 p.2
  | _, [], .nil, p, h => by cases h
  | _, t :: ts, .cons d ds, p, h => by
    rcases List.mem_cons.mp h with rfl | h
    · exact d
    · exact dens_pairs (ts := ts) ds p h
theorem dens_of_pairs {K : PySem.W.Frag} {H : Hp} : ∀ {l : List (V × Tm)}, (∀ p ∈ l, Den K H p.1 p.2) → Dens K H (l.map Prod.fst) (l.map Prod.snd)
  | [], _ => .nil
  | p :: l, h => .cons (h p List.mem_cons_self) (dens_of_pairs fun p hp => h p (List.mem_cons_of_mem _ hp))
theorem zip_map_r {α β γ : Type} (f : β → γ) : ∀ (l : List α) (m : List β), l.zip (m.map f) = (l.zip m).map fun p => (p.1, f p.2)
  | [], _ => rfl
  | _ :: _, [] => rfl
  | a :: l, b :: m => by simp [zip_map_r f l m]
/-- the items sorted by their keys are the terms sorted -/
theorem dens_sort {K : PySem.W.Frag} {H : Hp} {us : List V} {ts : List Tm} (h : Dens K H us ts) : Dens K H (((us.zip (ts.map keyD)).mergeSort (PySem.W.dataLe false Prod.snd)).map Prod.fst) (sortT ts) := by
  have hl := dens_len h
  have e1 : (us.zip (ts.map keyD)).mergeSort (PySem.W.dataLe false Prod.snd) = ((us.zip ts).mergeSort (PySem.W.dataLe false fun p => keyD p.2)).map fun p => (p.1, keyD p.2) := by
    rw [zip_map_r]
    symm
    apply List.map_mergeSort
    intros
    rfl
  have e2 : sortT ts = ((us.zip ts).mergeSort (PySem.W.dataLe false fun p => keyD p.2)).map Prod.snd := by
    have : ts = (us.zip ts).map Prod.snd := by rw [List.map_snd_zip (by omega)]
    unfold sortT
    conv => lhs; rw [this]
    symm
    apply List.map_mergeSort
    intros
    rfl
  rw [e1, e2, List.map_map]
  refine dens_of_pairs (l := (us.zip ts).mergeSort _) fun p hp => dens_pairs h p ?_
  exact (List.mergeSort_perm _ _).mem_iff.mp hp
section
variable {P : Program} {w : World} {K : PySem.W.Frag} {mg : Str → Option Value} {base : Heap}
def sp_compare_terms (K : PySem.W.Frag) : Sp := fun vs H Q _ => ∃ v u t1 t2, vs = [v, u] ∧ Den K H v t1 ∧ Den K H u t2 ∧ wf t1 ∧ wf t2 ∧ (parts t1).length ≤ 20000 ∧ (parts t2).length ≤ 20000 ∧ ∀ H', Same H H' → Q (.int (cmpT t1 t2)) H'
theorem ok_compare_terms (B : Bf K mg) (G : Gd K mg "compare_terms" s_compare_terms) (O_check_terms : Okf P w K mg base "check_terms" 4 ["things"] [] (sp_check_terms K)) (O_order_key : Okf P w K mg base "order_key" 3 ["term"] [] (sp_order_key K)) :
    Okf P w K mg base "compare_terms" 5 ["one", "other"] [] (sp_compare_terms K) := by
  refine okf_mk G sc_compare_terms (fun _ _ _ _ _ _ us hl => match us, hl with | [_, _], _ => rfl) (fun vs H Q E h => ?_) (fun cdv A outer s H vs Q E hr h => ?_)
  · obtain ⟨v, u, t1, t2, rfl, _⟩ := h
    rfl
  · obtain ⟨v, u, t1, t2, rfl, d1, d2, w1, w2, z1, z2, q⟩ := h
    refine ⟨_, (pss_cons (ps_expr (pe_callO O_check_terms (hr.mono (by decide)) (by rfl) (pa_cons (pe_lst (pa_cons (pv 0) (pa_cons (pv 1) pa_nil))) pa_nil)))
      (pss_cons (ps_par (by rfl) sc_compare_terms.nd (i := 2) (j := 3) rfl rfl (by decide) rfl rfl (pa_cons (pe_callO O_order_key (hr.mono (by decide)) (by rfl) (pa_cons (pv 0) pa_nil)) (pa_cons (pe_callO O_order_key (hr.mono (by decide)) (by rfl) (pa_cons (pv 1) pa_nil)) pa_nil)) (by rfl))
      (pss_one (ps_ret (pe_op op_sub (pe_callTy call_intB (by rfl) B.b_int (by decide +kernel) (pa_cons (pe_cmpR (op_gtD hr.units) (pv 2) (pv 3) (nomark _)) pa_nil)) (pe_callTy call_intB (by rfl) B.b_int (by decide +kernel) (pa_cons (pe_cmpR (op_ltD hr.units) (pv 2) (pv 3) (nomark _)) pa_nil))))))), ?_⟩
    walk_at "rd"
    refine ⟨(by show 2 ≤ sizeLine; decide), fun p np => ?_⟩
    have s0 := same_upd (o := .lst [v, u]) np
    refine ⟨p, [v, u], [toD t1, toD t2], rfl, .inl (SqL.of upd_same), .cons (Dp.same s0 _ _ d1) (.cons (Dp.same s0 _ _ d2) .nil), ⟨wf_sm t1 w1, wf_sm t2 w2, trivial⟩, ?_, ?_, fun H1 s1 => ?_⟩
    · have h1 := sz_toD t1
      have h2 := sz_toD t2
      simp only [szDs]
      omega
    · simp [isTerms, wf_isTerm t1 w1, wf_isTerm t2 w2]
    have S1 := s0.trans s1
    refine ⟨v, t1, rfl, Dp.same S1 _ _ d1, w1, by omega, fun H2 p2 us2 s2 n2 e2 k2 => ⟨u, t2, rfl, Dp.same (S1.trans s2) _ _ d2, w2, by omega, fun H3 p3 us3 s3 n3 e3 k3 => ⟨_, _, rfl, ?_⟩⟩⟩
    have dk2 : Dp K H3 (.ref p2) (keyD t1) := .lst (SqL.of (s3 _ _ e2)) (DpAll.same s3 _ _ k2)
    have dk3 : Dp K H3 (.ref p3) (keyD t2) := .lst (SqL.of e3) k3
    have hm : min (keyD t1).depth (keyD t2).depth ≤ 64 := by
      have := key_depth t1
      omega
    refine ⟨_, _, dk2, dk3, key_alike _ _, (by intro z; cases z), hm, ⟨_, rfl, ?_⟩⟩
    refine ⟨_, _, dk2, dk3, key_alike _ _, (by intro z; cases z), hm, ⟨_, rfl, _, rfl, _, rfl, ?_⟩⟩
    exact q H3 ((S1.trans s2).trans s3)
def sp_sort_terms (K : PySem.W.Frag) : Sp := fun vs H Q _ => ∃ a us ts, vs = [.ref a] ∧ (SqL K H a us ∨ SqT K H a us) ∧ Dens K H us ts ∧ wfs ts ∧ (partsL ts).length ≤ 40000 ∧ ∀ H' p ys, Same H H' → H p = none → H' p = some (.lst ys) → Dens K H' ys (sortT ts) → Q (.ref p) H'
theorem ok_sort_terms (B : Bf K mg) (G : Gd K mg "sort_terms" s_sort_terms) (O_check_terms : Okf P w K mg base "check_terms" 4 ["things"] [] (sp_check_terms K)) (O_order_key : Okf P w K mg base "order_key" 3 ["term"] [] (sp_order_key K)) :
    Okf P w K mg base "sort_terms" 6 ["terms"] [] (sp_sort_terms K) := by
  refine okf_mk G sc_sort_terms (fun _ _ _ _ _ _ us hl => match us, hl with | [_], _ => rfl) (fun vs H Q E h => ?_) (fun cdv A outer s H vs Q E hr h => ?_)
  · obtain ⟨a, us, ts, rfl, _⟩ := h
    rfl
  · obtain ⟨a, us, ts, rfl, hs, du, hw, hz, q⟩ := h
    refine ⟨_, (pss_cons (ps_if (pt_not (pt_val (pe_callB call_isiT (by rfl) B.b_isinstance (by decide +kernel) (pa_cons (pv 0) (pa_cons (pe_tup (pa_cons (pe_bltn (v := .ty "list") (by rfl) B.b_list (by decide +kernel) rfl) (pa_cons (pe_bltn (v := .ty "tuple") (by rfl) B.b_tuple (by decide +kernel) rfl) pa_nil))) pa_nil)))))
        (pss_one ps_never)
        pss_nil)
      (pss_cons (ps_expr (pe_callO O_check_terms (hr.mono (by decide)) (by rfl) (pa_cons (pv 0) pa_nil)))
      (pss_one (ps_ret (pe_sortK O_order_key (hr.mono (by decide)) (by rfl) B.b_sorted (by rfl) (pa_cons (pv 0) pa_nil)))))), ?_⟩
    walk_at "rd"
    refine ⟨(by show 2 ≤ sizeLine; decide), fun p np => ?_⟩
    have s0 := same_upd (o := .tup [.ty "list", .ty "tuple"]) np
    have hs0 : SqL K (upd H p (.tup [.ty "list", .ty "tuple"])) a us ∨ SqT K (upd H p (.tup [.ty "list", .ty "tuple"])) a us := by
      rcases hs with hs | hs
      · exact .inl (s0.seq hs)
      · exact .inr ((Tk.of s0).sqT hs)
    have ep : upd H p (.tup [.ty "list", .ty "tuple"]) p = some (.tup [.ty "list", .ty "tuple"]) := upd_same
    generalize upd H p (.tup [.ty "list", .ty "tuple"]) = H0 at s0 hs0 ep ⊢
    have hty : ∃ T, (T = "list" ∨ T = "tuple") ∧ TyX K H0 (.ref a) (.type T) := by
      rcases hs0 with h | h
      · exact ⟨_, .inl rfl, sql_ty h⟩
      · exact ⟨_, .inr rfl, sqt_ty h⟩
    obtain ⟨T, hT, ty⟩ := hty
    refine ⟨_, p, _, _, [.type "list", .type "tuple"], true, rfl, ep, .cons (.ty _) (.cons (.ty _) .nil), ty, ?_, ⟨_, rfl, iteF ?_⟩⟩
    · rcases hT with rfl | rfl
      · have e1 : PySem.W.kitOne K (.type "list") (.type "list") = some true := kit_ty (by decide +kernel)
        simp only [PySem.W.kitAny, e1]
      · have e1 : PySem.W.kitOne K (.type "tuple") (.type "list") = some false := kit_ty (by decide +kernel)
        have e2 : PySem.W.kitOne K (.type "tuple") (.type "tuple") = some true := kit_ty (by decide +kernel)
        simp only [PySem.W.kitAny, e1, e2]
    have hsz : szDs (toDs ts) ≤ 100000 := by
      have := sz_toDs ts
      omega
    refine ⟨a, us, toDs ts, rfl, hs0, DpAll.same s0 _ _ du, wfs_sm ts hw, hsz, wfs_isTerms ts hw, fun H1 s1 => ?_⟩
    have S1 := s0.trans s1
    have hs1 : SqL K H1 a us ∨ SqT K H1 a us := by
      rcases hs with hs | hs
      · exact .inl (S1.seq hs)
      · exact .inr ((Tk.of S1).sqT hs)
    have hl := dens_len du
    unfold tSortK
    walk_at "rd"
    refine ⟨_, rfl, a, us, ts.map keyD, rfl, hs1, by rw [List.length_map, hl], ?_, ?_, ?_, ?_, fun H' p2 s2 n2 n2' => ?_⟩
    · intro d hd e he
      obtain ⟨t, _, rfl⟩ := List.mem_map.mp hd
      obtain ⟨u, _, rfl⟩ := List.mem_map.mp he
      exact key_alike t u
    · refine .inr fun d hd => ?_
      obtain ⟨t, _, rfl⟩ := List.mem_map.mp hd
      exact ⟨by intro z; (cases z), by intro xs z; (cases z)⟩
    · intro d hd
      obtain ⟨t, _, rfl⟩ := List.mem_map.mp hd
      have := key_depth t
      omega
    · intro i x d H2 hx hd s2
      obtain ⟨t, ht, dx⟩ := dens_get du hx
      rw [List.getElem?_map, ht] at hd
      cases hd
      have := partsL_get ht
      exact ⟨x, t, rfl, Dp.same (S1.trans s2) _ _ dx, wfs_get hw ht, by omega, fun H3 p3 us3 s3 n3 e3 k3 => ⟨s3, .lst (SqL.of e3) k3⟩⟩
    · have S2 := S1.trans s2
      refine q _ p2 _ (S2.trans (same_upd n2')) (S1.free n2) upd_same ?_
      exact dens_sort (DpAll.same (S2.trans (same_upd n2')) _ _ du)
end
end K1

namespace K1
open PySem PySem.Spec PyProof.Rows L2 HM
/-! the order of terms -/
def slt (x y : Str) : Bool := decide (x.cps.toList < y.cps.toList)
def c3 (lt eq : Bool) : Int := if eq then 0 else if lt then -1 else 1
def rank : Tm → Int | .var _ => 0 | .num _ => 1 | .atm _ => 2 | .cmp _ _ => 3
mutual
def ordT : Tm → Tm → Int
  | .var k, .var j => c3 (decide (k < j)) (decide (k = j))
  | .num i, .num j => c3 (decide (i < j)) (decide (i = j))
  | .atm x, .atm y => c3 (slt x y) (decide (x = y))
  | .cmp f as, .cmp g bs => if as.length ≠ bs.length then c3 (decide (as.length < bs.length)) false else if f ≠ g then c3 (slt f g) false else ordL as bs
  | t, u => c3 (decide (rank t < rank u)) false
def ordL : List Tm → List Tm → Int
  | a :: as, b :: bs => if ordT a b = 0 then ordL as bs else ordT a b
  | _, _ => 0
end
def tr (a b : Int) (x : Str) : PyData := .tuple [.int a, .int b, .str x]
theorem eqv_tr (a b a' b' : Int) (x x' : Str) : PyData.eqv (tr a b x) (tr a' b' x') = (decide (a = a') && (decide (b = b') && decide (x = x'))) := by
  have e1 : ∀ {α : Type} [BEq α] [LawfulBEq α] [DecidableEq α] (p q : α), (p == q) = decide (p = q) := fun p q => by by_cases h : p = q <;> simp [h]
  simp [tr, PyData.eqv, PyData.eqvAll, e1]
theorem eqv_int (a b : Int) : PyData.eqv (.int a) (.int b) = decide (a = b) := by by_cases h : a = b <;> simp [PyData.eqv, h]
theorem eqv_str (a b : Str) : PyData.eqv (.str a) (.str b) = decide (a = b) := by by_cases h : a = b <;> simp [PyData.eqv, h]
def lx (R R' : List PyData) : Bool := PyProof.Rows.lexLt itemOrd (PySem.W.keyToksAll R) (PySem.W.keyToksAll R')
theorem lx_cons {x y : PyData} {xs ys : List PyData} (h : PySem.W.alike x y = true) : lx (x :: xs) (y :: ys) = if PyData.eqv x y = true then lx xs ys else PySem.W.dataLt x y := by
  cases e : PyData.eqv x y
  · rw [if_neg (by simp)]
    exact PySem.W.dataLt_all_no h e
  · rw [if_pos rfl]
    exact PySem.W.dataLt_all_yes h e
theorem lx_nil : lx [] [] = false := by decide +kernel
theorem lt_tr (a b a' b' : Int) (x x' : Str) : PySem.W.dataLt (tr a b x) (tr a' b' x') = if a ≠ a' then decide (a < a') else if b ≠ b' then decide (b < b') else slt x x' := by
  unfold tr
  rw [PySem.W.dataLt_tuple]
  show lx _ _ = _
  rw [lx_cons rfl, eqv_int, PySem.W.dataLt_int, lx_cons rfl, eqv_int, PySem.W.dataLt_int, lx_cons rfl, eqv_str, PySem.W.dataLt_str, lx_nil]
  by_cases h : a = a' <;> by_cases h2 : b = b' <;> by_cases h3 : x = x' <;> simp [h, h2, h3, slt, List.lt_irrefl]
theorem kd_tr : ∀ t : Tm, kd t = (match t with | .var k => tr 0 (k : Nat) "" | .num i => tr 1 i "" | .atm x => tr 2 0 x | .cmp f as => tr 3 (as.length : Nat) f)
  | .var _ => rfl
  | .num _ => rfl
  | .atm _ => rfl
  | .cmp _ _ => rfl
theorem slt_irrefl (x : Str) : slt x x = false := by simp [slt, List.lt_irrefl]
theorem c3_false (b : Bool) : c3 b false = if b then -1 else 1 := rfl
theorem c3_ne (b : Bool) : c3 b false ≠ 0 := by cases b <;> decide
theorem c3_lt (b : Bool) : decide (c3 b false < 0) = b := by cases b <;> rfl
/-- a node against a node -/
theorem lx_leaf {a b a' b' : Int} {x x' : Str} (R R' : List PyData) : lx (tr a b x :: R) (tr a' b' x' :: R') = if a ≠ a' then decide (a < a') else if b ≠ b' then decide (b < b') else if x ≠ x' then slt x x' else lx R R' := by
  rw [lx_cons rfl, eqv_tr, lt_tr]
  by_cases h1 : a = a' <;> by_cases h2 : b = b' <;> by_cases h3 : x = x' <;> simp [h1, h2, h3]
theorem if3 (lt eq : Bool) (r : Bool) (h : eq = true → lt = false) : (if c3 lt eq = 0 then r else decide (c3 lt eq < 0)) = if eq = true then r else lt := by
  cases eq <;> cases lt <;> simp_all [c3]
theorem if3f (lt : Bool) (r : Bool) : (if c3 lt false = 0 then r else decide (c3 lt false < 0)) = lt := by
  cases lt <;> simp [c3]
mutual
theorem lex_t : ∀ (t u : Tm) (R R' : List PyData), lx (kds (parts t) ++ R) (kds (parts u) ++ R') = if ordT t u = 0 then lx R R' else decide (ordT t u < 0)
  | .var k, u, R, R' => by
    cases u with
    | var j =>
      show lx (tr 0 k "" :: R) (tr 0 j "" :: R') = _
      rw [lx_leaf, ordT, if3 _ _ _ (by simp; omega)]
      by_cases h : k = j
      · simp [h]
      · have : ((k : Nat) : Int) ≠ (j : Nat) := by omega
        simp [h, this]
    | num j =>
      show lx (tr 0 k "" :: R) (tr 1 j "" :: R') = _
      rw [lx_leaf, ordT, if3f]
      rfl
      all_goals (intros; simp_all)
    | atm x =>
      show lx (tr 0 k "" :: R) (tr 2 0 x :: R') = _
      rw [lx_leaf, ordT, if3f]
      rfl
      all_goals (intros; simp_all)
    | cmp g bs =>
      show lx (tr 0 k "" :: R) (tr 3 (bs.length : Nat) g :: (kds (partsL bs) ++ R')) = _
      rw [lx_leaf, ordT, if3f]
      rfl
      all_goals (intros; simp_all)
  | .num k, u, R, R' => by
    cases u with
    | num j =>
      show lx (tr 1 k "" :: R) (tr 1 j "" :: R') = _
      rw [lx_leaf, ordT, if3 _ _ _ (by simp; omega)]
      by_cases h : k = j
      · simp [h]
      · simp [h]
    | var j =>
      show lx (tr 1 k "" :: R) (tr 0 j "" :: R') = _
      rw [lx_leaf, ordT, if3f]
      rfl
      all_goals (intros; simp_all)
    | atm x =>
      show lx (tr 1 k "" :: R) (tr 2 0 x :: R') = _
      rw [lx_leaf, ordT, if3f]
      rfl
      all_goals (intros; simp_all)
    | cmp g bs =>
      show lx (tr 1 k "" :: R) (tr 3 (bs.length : Nat) g :: (kds (partsL bs) ++ R')) = _
      rw [lx_leaf, ordT, if3f]
      rfl
      all_goals (intros; simp_all)
  | .atm k, u, R, R' => by
    cases u with
    | atm j =>
      show lx (tr 2 0 k :: R) (tr 2 0 j :: R') = _
      rw [lx_leaf, ordT, if3 _ _ _ (by intro z; have := of_decide_eq_true z; subst this; exact slt_irrefl _)]
      by_cases h : k = j
      · simp [h]
      · simp [h]
    | var j =>
      show lx (tr 2 0 k :: R) (tr 0 j "" :: R') = _
      rw [lx_leaf, ordT, if3f]
      rfl
      all_goals (intros; simp_all)
    | num x =>
      show lx (tr 2 0 k :: R) (tr 1 x "" :: R') = _
      rw [lx_leaf, ordT, if3f]
      rfl
      all_goals (intros; simp_all)
    | cmp g bs =>
      show lx (tr 2 0 k :: R) (tr 3 (bs.length : Nat) g :: (kds (partsL bs) ++ R')) = _
      rw [lx_leaf, ordT, if3f]
      rfl
      all_goals (intros; simp_all)
  | .cmp f as, u, R, R' => by
    cases u with
    | cmp g bs =>
      show lx (tr 3 (as.length : Nat) f :: (kds (partsL as) ++ R)) (tr 3 (bs.length : Nat) g :: (kds (partsL bs) ++ R')) = _
      rw [lx_leaf, ordT]
      by_cases h1 : as.length = bs.length
      · have h3 : ((as.length : Nat) : Int) = (bs.length : Nat) := by omega
        by_cases h2 : f = g
        · have := lex_l as bs R R' h1
          simp only [h1, h2, h3, ne_eq, not_true_eq_false, if_false]
          exact this
        · have := if3f (slt f g) (lx R R')
          simp only [h1, h2, h3, ne_eq, not_true_eq_false, not_false_eq_true, if_false, if_true]
          exact this.symm
      · have h3 : ((as.length : Nat) : Int) ≠ (bs.length : Nat) := by omega
        have := if3f (decide (as.length < bs.length)) (lx R R')
        simp only [h1, h3, ne_eq, not_true_eq_false, not_false_eq_true, if_false, if_true]
        rw [this]
        simp
    | var j =>
      show lx (tr 3 (as.length : Nat) f :: (kds (partsL as) ++ R)) (tr 0 j "" :: R') = _
      rw [lx_leaf, ordT, if3f]
      rfl
      all_goals (intros; simp_all)
    | num x =>
      show lx (tr 3 (as.length : Nat) f :: (kds (partsL as) ++ R)) (tr 1 x "" :: R') = _
      rw [lx_leaf, ordT, if3f]
      rfl
      all_goals (intros; simp_all)
    | atm x =>
      show lx (tr 3 (as.length : Nat) f :: (kds (partsL as) ++ R)) (tr 2 0 x :: R') = _
      rw [lx_leaf, ordT, if3f]
      rfl
      all_goals (intros; simp_all)
theorem lex_l : ∀ (as bs : List Tm) (R R' : List PyData), as.length = bs.length → lx (kds (partsL as) ++ R) (kds (partsL bs) ++ R') = if ordL as bs = 0 then lx R R' else decide (ordL as bs < 0)
  | [], [], R, R', _ => by simp [partsL, kds, ordL]
  | [], _ :: _, _, _, h => by cases h
  | _ :: _, [], _, _, h => by cases h
  | a :: as, b :: bs, R, R', h => by
    have e : ∀ (c : Tm) (cs : List Tm) (S : List PyData), kds (partsL (c :: cs)) ++ S = kds (parts c) ++ (kds (partsL cs) ++ S) := fun c cs S => by simp [partsL, kds]
    rw [e, e, lex_t a b, ordL, lex_l as bs R R' (by simpa using h)]
    by_cases h0 : ordT a b = 0 <;> simp [h0]
end
theorem tlt_ord (t u : Tm) : tltB t u = decide (ordT t u < 0) := by
  have := lex_t t u [] []
  rw [List.append_nil, List.append_nil, lx_nil] at this
  unfold tltB keyD
  rw [PySem.W.dataLt_list]
  show lx _ _ = _
  rw [this]
  by_cases h : ordT t u = 0 <;> simp [h]
theorem slt_flip {x y : Str} (h : x ≠ y) : slt y x = !slt x y := by
  unfold slt
  have hne : x.cps.toList ≠ y.cps.toList := fun e => h (PySem.W.str_of_cps e)
  by_cases h1 : x.cps.toList < y.cps.toList
  · have h2 : ¬ y.cps.toList < x.cps.toList := List.lt_asymm h1
    simp [h1, h2]
  · have h2 : y.cps.toList < x.cps.toList := by
      rcases List.le_iff_lt_or_eq.mp (List.not_lt.mp h1) with h | h
      · exact h
      · exact absurd h.symm hne
    simp [h1, h2]
theorem c3_neg (b : Bool) : c3 (!b) false = - c3 b false := by cases b <;> rfl
theorem c3_nat {a b : Nat} : c3 (decide (b < a)) (decide (b = a)) = - c3 (decide (a < b)) (decide (a = b)) := by
  rcases Nat.lt_trichotomy a b with h | h | h
  · have h1 : ¬ b < a := by omega
    have h2 : ¬ b = a := by omega
    have h3 : ¬ a = b := by omega
    simp [c3, h, h1, h2, h3]
  · simp [c3, h]
  · have h1 : ¬ a < b := by omega
    have h2 : ¬ b = a := by omega
    have h3 : ¬ a = b := by omega
    simp [c3, h, h1, h2, h3]
theorem c3_int {a b : Int} : c3 (decide (b < a)) (decide (b = a)) = - c3 (decide (a < b)) (decide (a = b)) := by
  rcases Int.lt_trichotomy a b with h | h | h
  · have h1 : ¬ b < a := by omega
    have h2 : ¬ b = a := by omega
    have h3 : ¬ a = b := by omega
    simp [c3, h, h1, h2, h3]
  · simp [c3, h]
  · have h1 : ¬ a < b := by omega
    have h2 : ¬ b = a := by omega
    have h3 : ¬ a = b := by omega
    simp [c3, h, h1, h2, h3]
theorem c3_str {a b : Str} : c3 (slt b a) (decide (b = a)) = - c3 (slt a b) (decide (a = b)) := by
  by_cases h : a = b
  · subst h; simp [c3]
  · have h2 : ¬ b = a := fun z => h z.symm
    rw [slt_flip h]
    cases slt a b <;> simp [c3, h, h2]
mutual
theorem ord_neg : ∀ (t u : Tm), ordT u t = - ordT t u
  | .var k, u => by cases u with
    | var j => simp only [ordT]; exact c3_nat
    | _ => simp [ordT, rank, c3]
  | .num k, u => by cases u with
    | num j => simp only [ordT]; exact c3_int
    | _ => simp [ordT, rank, c3]
  | .atm k, u => by cases u with
    | atm j => simp only [ordT]; exact c3_str
    | _ => simp [ordT, rank, c3]
  | .cmp f as, u => by cases u with
    | cmp g bs =>
      simp only [ordT]
      by_cases h1 : as.length = bs.length
      · by_cases h2 : f = g
        · simp only [h1, h2, ne_eq, not_true_eq_false, if_false]
          exact ord_negL as bs
        · have h3 : ¬ g = f := fun z => h2 z.symm
          simp only [h1, h2, h3, ne_eq, not_true_eq_false, not_false_eq_true, if_false, if_true]
          rw [slt_flip h2, c3_neg]
      · have h3 : ¬ bs.length = as.length := fun z => h1 z.symm
        simp only [h1, h3, ne_eq, not_false_eq_true, if_true]
        rw [← c3_neg]
        congr 1
        by_cases h4 : as.length < bs.length
        · have : ¬ bs.length < as.length := by omega
          simp [h4, this]
        · have : bs.length < as.length := by omega
          simp [h4, this]
    | _ => simp [ordT, rank, c3]
theorem ord_negL : ∀ (as bs : List Tm), ordL bs as = - ordL as bs
  | [], bs => by cases bs <;> simp [ordL]
  | a :: as, [] => by simp [ordL]
  | a :: as, b :: bs => by
    simp only [ordL]
    rw [ord_neg a b, ord_negL as bs]
    by_cases h : ordT a b = 0
    · simp [h]
    · have : ¬ (- ordT a b = 0) := by omega
      simp [h]
end
theorem c3_zero {lt eq : Bool} (h : c3 lt eq = 0) : eq = true := by cases eq <;> cases lt <;> simp_all [c3]
mutual
theorem ord_zero : ∀ (t u : Tm), ordT t u = 0 → t = u
  | .var k, u, h => by cases u with
    | var j => simp only [ordT] at h; have := c3_zero h; simp at this; rw [this]
    | _ => simp [ordT, rank, c3] at h
  | .num k, u, h => by cases u with
    | num j => simp only [ordT] at h; have := c3_zero h; simp at this; rw [this]
    | _ => simp [ordT, rank, c3] at h
  | .atm k, u, h => by cases u with
    | atm j => simp only [ordT] at h; have := c3_zero h; simp at this; rw [this]
    | _ => simp [ordT, rank, c3] at h
  | .cmp f as, u, h => by cases u with
    | cmp g bs =>
      simp only [ordT] at h
      by_cases h1 : as.length = bs.length
      · by_cases h2 : f = g
        · simp only [h1, h2, ne_eq, not_true_eq_false, if_false] at h
          rw [h2, ord_zeroL as bs h1 h]
        · simp only [h1, h2, ne_eq, not_true_eq_false, not_false_eq_true, if_false, if_true] at h
          exact absurd h (c3_ne _)
      · simp only [h1, ne_eq, not_false_eq_true, if_true] at h
        exact absurd h (c3_ne _)
    | _ => simp [ordT, rank, c3] at h
theorem ord_zeroL : ∀ (as bs : List Tm), as.length = bs.length → ordL as bs = 0 → as = bs
  | [], [], _, _ => rfl
  | [], _ :: _, h, _ => by cases h
  | _ :: _, [], h, _ => by cases h
  | a :: as, b :: bs, hl, h => by
    simp only [ordL] at h
    by_cases h0 : ordT a b = 0
    · simp only [h0, if_true] at h
      rw [ord_zero a b h0, ord_zeroL as bs (by simpa using hl) h]
    · simp only [h0, if_false] at h
end
theorem ord_self (t : Tm) : ordT t t = 0 := by
  have := ord_neg t t
  omega
theorem ord_iff (t u : Tm) : ordT t u = 0 ↔ t = u := ⟨ord_zero t u, fun h => by rw [h]; exact ord_self u⟩
theorem c3_val (a b : Bool) : c3 a b = -1 ∨ c3 a b = 0 ∨ c3 a b = 1 := by cases a <;> cases b <;> simp [c3]
mutual
theorem ord_val : ∀ (t u : Tm), ordT t u = -1 ∨ ordT t u = 0 ∨ ordT t u = 1
  | .var k, u => by cases u <;> simp only [ordT] <;> exact c3_val _ _
  | .num k, u => by cases u <;> simp only [ordT] <;> exact c3_val _ _
  | .atm k, u => by cases u <;> simp only [ordT] <;> exact c3_val _ _
  | .cmp f as, u => by
    cases u with
    | cmp g bs =>
      simp only [ordT]
      split
      · exact c3_val _ _
      · split
        · exact c3_val _ _
        · exact ord_valL as bs
    | _ => simp only [ordT]; exact c3_val _ _
theorem ord_valL : ∀ (as bs : List Tm), ordL as bs = -1 ∨ ordL as bs = 0 ∨ ordL as bs = 1
  | [], bs => by simp [ordL]
  | a :: as, [] => by simp [ordL]
  | a :: as, b :: bs => by
    simp only [ordL]
    split
    · exact ord_valL as bs
    · exact ord_val a b
end
theorem cmp_ord (t u : Tm) : cmpT t u = ordT t u := by
  unfold cmpT
  rw [tlt_ord, tlt_ord, ord_neg t u]
  rcases ord_val t u with h | h | h <;> rw [h] <;> decide
/-! sorted -/
theorem le_ord (t u : Tm) : PySem.W.dataLe false keyD t u = decide (ordT t u ≤ 0) := by
  have : PySem.W.dataLe false keyD t u = !tltB u t := by rw [PySem.W.dataLe_eq]; rfl
  rw [this, tlt_ord, ord_neg t u]
  by_cases h : ordT t u ≤ 0
  · have : ¬ (- ordT t u < 0) := by omega
    simp [h]
  · have h2 : (- ordT t u < 0) := by omega
    rw [decide_eq_true h2, decide_eq_false h]
    rfl
theorem le_tot : PySem.W.TotalLe (PySem.W.dataLe false keyD) := PySem.W.sortLe_total _ false _
theorem sort_perm (ts : List Tm) : (sortT ts).Perm ts := List.mergeSort_perm _ _
theorem sort_pw (ts : List Tm) : (sortT ts).Pairwise fun a b => ordT a b ≤ 0 := by
  have h := List.pairwise_mergeSort le_tot.trans (fun a b => by simpa using le_tot.total a b) ts
  refine h.imp fun {a b} e => ?_
  rw [le_ord] at e
  exact of_decide_eq_true e
theorem sort_of_perm {ts us : List Tm} (h : ts.Perm us) : sortT ts = sortT us := by
  refine List.Perm.eq_of_pairwise (le := fun a b => ordT a b ≤ 0) (fun a b _ _ h1 h2 => ?_) (sort_pw ts) (sort_pw us) (((sort_perm ts).trans h).trans (sort_perm us).symm)
  have := ord_neg a b
  exact ord_zero a b (by omega)
/-! terms as data -/
mutual
theorem eqv_toD : ∀ (t u : Tm), PyData.eqv (toD t) (toD u) = true ↔ t = u
  | .var k, u => by
    cases u with
    | cmp g bs => cases bs <;> simp [toD, toDs, PyData.eqv, PyData.eqvAll]
    | var j =>
      simp [toD, PyData.eqv, PyData.eqvAll]
      omega
    | _ => simp [toD, PyData.eqv]
  | .num k, u => by cases u <;> simp [toD, PyData.eqv]
  | .atm k, u => by cases u <;> simp [toD, PyData.eqv]
  | .cmp f as, u => by
    cases u with
    | cmp g bs =>
      have := eqv_toDs as bs
      simp [toD, PyData.eqv, PyData.eqvAll, this]
    | _ => simp [toD, PyData.eqv, PyData.eqvAll]
theorem eqv_toDs : ∀ (ts us : List Tm), PyData.eqvAll (toDs ts) (toDs us) = true ↔ ts = us
  | [], us => by cases us <;> simp [toDs, PyData.eqvAll]
  | t :: ts, [] => by simp [toDs, PyData.eqvAll]
  | t :: ts, u :: us => by
    have h1 := eqv_toD t u
    have h2 := eqv_toDs ts us
    simp [toDs, PyData.eqvAll, h1, h2]
end
theorem ord_rank {t u : Tm} (h : rank t ≠ rank u) : ordT t u = c3 (decide (rank t < rank u)) false := by
  cases t <;> cases u <;> first | exact absurd rfl h | rfl
theorem ord_leaf {t u : Tm} (h : rank t = rank u) (h3 : rank t < 3) : PySem.W.alike (toD t) (toD u) = true ∧ ordT t u = c3 (PySem.W.dataLt (toD t) (toD u)) (PyData.eqv (toD t) (toD u)) := by
  cases t with
  | var k =>
    cases u with
    | var j =>
      refine ⟨rfl, ?_⟩
      simp only [toD, ordT]
      rw [PySem.W.dataLt_tuple]
      have e : PyProof.Rows.lexLt itemOrd (PySem.W.keyToksAll [PyData.int (k : Nat)]) (PySem.W.keyToksAll [PyData.int (j : Nat)]) = lx [.int (k : Nat)] [.int (j : Nat)] := rfl
      rw [e, lx_cons rfl, eqv_int, PySem.W.dataLt_int, lx_nil]
      have e2 : PyData.eqv (.tuple [.int (k : Nat)]) (.tuple [.int (j : Nat)]) = decide (k = j) := by
        by_cases h : k = j
        · subst h
          simp [PyData.eqv, PyData.eqvAll]
        · have h2 : ((k : Nat) : Int) ≠ (j : Nat) := by omega
          simp [PyData.eqv, PyData.eqvAll, h]
          omega
      rw [e2]
      by_cases h : k = j
      · simp [h, c3]
      · have h2 : ((k : Nat) : Int) ≠ (j : Nat) := by omega
        by_cases h4 : k < j
        · simp [h, h4, c3, h2]
        · simp [h, h4, c3, h2]
    | _ => cases h
  | num k =>
    cases u with
    | num j => exact ⟨rfl, by simp only [toD, ordT]; rw [PySem.W.dataLt_int, eqv_int]⟩
    | _ => cases h
  | atm k =>
    cases u with
    | atm j => exact ⟨rfl, by simp only [toD, ordT]; rw [PySem.W.dataLt_str, eqv_str]; rfl⟩
    | _ => cases h
  | cmp f as => exact absurd h3 (show ¬ (3 : Int) < 3 by decide)
end K1

namespace K1
open PySem PySem.Spec PyProof.Rows L2 HM RZ
local macro_rules | `(tactic| walk_at "rd") => `(tactic| (dsimp only [tSeq, tNext, tRet, tRetN, tAsg, gName, gTup, gCons, gNil, gSub, tDrop, tIfS, tVar, tC, tOp, tUn, tTest, tB, tAnd, tOr, tNot, tAndV, tOrV, tNotV, tIf, tCB, tCons, tNil, tTup, tLst, tCall, tPar, tPar3, tAug, tSl, tPart, tNoPart, tBM, tBM0, tRevT, tRevL, tChain, sDPut, tDGet, tDGet1, tDGet2, tDNewK, tDNewT, tDIn, tDNotIn, tYes, wipe, cxOf, Cx.nox, Cx.wish, L2.start, rI0, rI, rU, ipI, List.length_cons, List.length_nil, List.map_cons, List.map_nil, List.replicate, List.cons_append, List.nil_append, List.append_nil, List.getElem?_cons_zero, List.getElem?_cons_succ, List.set_cons_zero, List.set_cons_succ, Nat.reduceAdd, Nat.reduceSub]; try simp only [List.map_cons, List.map_nil, List.append_nil, List.cons_append, List.nil_append, List.getElem?_cons_zero, List.getElem?_cons_succ, List.set_cons_zero, List.set_cons_succ, rIntI_eq, rIntB_eq, rAbs_eq, Option.some.injEq, V.int.injEq, V.bl.injEq, V.str.injEq, V.ref.injEq, exists_eq_left', exists_and_left, exists_eq', true_and, and_true, if_true, if_false, Bool.false_eq_true]))
local macro_rules | `(tactic| walk_at "r0") => `(tactic| (dsimp only [tSeq, tNext, tRet, tRetN, tAsg, gName, gTup, gCons, gNil, gSub, tDrop, tIfS, tVar, tC, tOp, tUn, tTest, tB, tAnd, tOr, tNot, tAndV, tOrV, tNotV, tIf, tCB, tCons, tNil, tCall, tPar, tPar3, tAug, tSl, tPart, tNoPart, tBM, tBM0, tRevT, tRevL, tChain, sDPut, tDGet, tDGet1, tDGet2, tDNewK, tDNewT, tDIn, tDNotIn, tYes, wipe, cxOf, Cx.nox, Cx.wish, L2.start, rI0, rI, rU, ipI, List.length_cons, List.length_nil, List.map_cons, List.map_nil, List.replicate, List.cons_append, List.nil_append, List.append_nil, List.getElem?_cons_zero, List.getElem?_cons_succ, List.set_cons_zero, List.set_cons_succ, Nat.reduceAdd, Nat.reduceSub]; try simp only [List.map_cons, List.map_nil, List.append_nil, List.cons_append, List.nil_append, List.getElem?_cons_zero, List.getElem?_cons_succ, List.set_cons_zero, List.set_cons_succ, rIntI_eq, rIntB_eq, rAbs_eq, Option.some.injEq, V.int.injEq, V.bl.injEq, V.str.injEq, V.ref.injEq, exists_eq_left', exists_and_left, exists_eq', true_and, and_true, if_true, if_false, Bool.false_eq_true]))
local macro_rules | `(tactic| walk_at "evd") => `(tactic| repeat (first | exact evds_nil | exact evd_int | exact evd_str | exact evd_bl | exact evd_non | exact evd_neg | apply evds_cons | apply evd_tup | apply evd_lst | (simp only [List.length_cons, List.length_nil]; omega)))
section
variable {P : Program} {w : World} {K : PySem.W.Frag} {mg : Str → Option Value} {base : Heap}
def sp_lrank (K : PySem.W.Frag) : Sp := fun vs H Q _ => ∃ v t, vs = [v] ∧ Den K H v t ∧ wf t ∧ Q (.int (rank t)) H
theorem ok_lrank (B : Bf K mg) (G : Gd K mg "_law_rank" s__law_rank) : Okf P w K mg base "_law_rank" 1 ["_law_term_here"] [] (sp_lrank K) := by
  refine okf_mk G sc__law_rank (fun _ _ _ _ _ _ us hl => match us, hl with | [_], _ => rfl) (fun vs H Q E h => ?_) (fun cdv A outer s H vs Q E hr h => ?_)
  · obtain ⟨v, t, rfl, _⟩ := h
    rfl
  · obtain ⟨v, t, rfl, hd, hw, q⟩ := h
    refine ⟨_, (pss_cons (ps_if (pt_val (pe_callB call_isi (by rfl) B.b_isinstance (by decide +kernel) (pa_cons (pv 0) (pa_cons (pe_bltn (v := .ty "tuple") (by rfl) B.b_tuple (by decide +kernel) rfl) pa_nil))))
        (pss_one (ps_ret (pe_ifExp (pt_cmpR op_eq (pe_callB call_lenQ (by rfl) B.b_len (by decide +kernel) (pa_cons (pv 0) pa_nil)) pe_int (nomark _)) pe_int pe_int)))
        pss_nil)
      (pss_one (ps_ret (pe_ifExp (pt_val (pe_callB call_isi (by rfl) B.b_isinstance (by decide +kernel) (pa_cons (pv 0) (pa_cons (pe_bltn (v := .ty "str") (by rfl) B.b_str (by decide +kernel) rfl) pa_nil)))) pe_int pe_int)))), ?_⟩
    walk_at "rd"
    refine isi_tuple hd ⟨_, rfl, ?_⟩
    cases t with
    | var k =>
      obtain ⟨a, rfl, hs⟩ := den_var hd
      exact iteT (lenT hs (eqI ⟨_, rfl, iteT q⟩))
    | cmp f as =>
      obtain ⟨a, us, rfl, hs, du⟩ := den_cmp hd
      have hl := dens_len du
      have hp : 0 < as.length := List.length_pos_iff.mpr hw.2.1
      refine iteT (lenT hs (eqI ⟨_, rfl, ?_⟩))
      rw [decide_eq_false (by rw [List.length_cons]; omega)]
      exact iteF q
    | num i => exact iteF (isi_str hd ⟨_, rfl, iteF q⟩)
    | atm x => exact iteF (isi_str hd ⟨_, rfl, iteT q⟩)
def sp_lorder (K : PySem.W.Frag) (d : Nat) : Sp := fun vs H Q _ => ∃ v u t1 t2, vs = [v, u] ∧ Den K H v t1 ∧ Den K H u t2 ∧ wf t1 ∧ wf t2 ∧ depth t1 ≤ d ∧ depth t2 ≤ d ∧ d ≤ 50 ∧ ∀ H', Same H H' → Q (.int (ordT t1 t2)) H'
theorem ok_lorder (B : Bf K mg) (G : Gd K mg "_law_order" s__law_order) (O__law_rank : Okf P w K mg base "_law_rank" 1 ["_law_term_here"] [] (sp_lrank K)) : ∀ d, Okf P w K mg base "_law_order" (1 + d) ["_law_one_here", "_law_other"] [] (sp_lorder K d)
  | 0 => by
    refine okf_mk G sc__law_order (fun _ _ _ _ _ _ us hl => match us, hl with | [_, _], _ => rfl) (fun vs H Q E h => ?_) (fun cdv A outer s H vs Q E hr h => ?_)
    · obtain ⟨v, u, t1, t2, rfl, _⟩ := h
      rfl
    · obtain ⟨v, u, t1, t2, rfl, _, _, _, _, h1, _⟩ := h
      have := depth_pos t1
      omega
  | d + 1 => by
    have O__law_order := ok_lorder B G O__law_rank d
    show Okf P w K mg base "_law_order" ((1 + d) + 1) _ _ _
    refine okf_mk G sc__law_order (fun _ _ _ _ _ _ us hl => match us, hl with | [_, _], _ => rfl) (fun vs H Q E h => ?_) (fun cdv A outer s H vs Q E hr h => ?_)
    · obtain ⟨v, u, t1, t2, rfl, _⟩ := h
      rfl
    · obtain ⟨v, u, t1, t2, rfl, d1, d2, w1, w2, p1, p2, hd, q⟩ := h
      have hrr := hr
      refine ⟨_, (pss_cons (ps_set (i := 2) sc__law_order.nd rfl (Or.inl rfl) (pe_tup (pa_cons (pe_callO O__law_rank (hr.mono (by omega)) (by rfl) (pa_cons (pv 0) pa_nil)) (pa_cons (pe_callO O__law_rank (hr.mono (by omega)) (by rfl) (pa_cons (pv 1) pa_nil)) pa_nil))))
      (pss_cons (ps_if (pt_cmpR op_ne (pe_ix (show IxR _ (rIxT K) from ix_tup) (pv 2) pe_int (fun _ _ => rfl)) (pe_ix (show IxR _ (rIxT K) from ix_tup) (pv 2) pe_int (fun _ _ => rfl)) (nomark _))
        (pss_one (ps_ret (pe_ifExp (pt_cmpR op_lt (pe_ix (show IxR _ (rIxT K) from ix_tup) (pv 2) pe_int (fun _ _ => rfl)) (pe_ix (show IxR _ (rIxT K) from ix_tup) (pv 2) pe_int (fun _ _ => rfl)) (nomark _)) (pe_un un_neg pe_int) pe_int)))
        pss_nil)
      (pss_cons (ps_if (pt_cmpR op_lt (pe_ix (show IxR _ (rIxT K) from ix_tup) (pv 2) pe_int (fun _ _ => rfl)) pe_int (nomark _))
        (pss_one (ps_ret (pe_ifExp (pt_cmpR (op_eqM hr.units) (pv 0) (pv 1) (nomark _)) pe_int (pe_ifExp (pt_cmpR (op_ltD hr.units) (pv 0) (pv 1) (nomark _)) (pe_un un_neg pe_int) pe_int))))
        pss_nil)
      (pss_cons (ps_for PassesOwn.never rfl (pi_tup (pe_tup (pa_cons (pe_tup (pa_cons (pe_callB call_lenQ (by rfl) B.b_len (by decide +kernel) (pa_cons (pv 0) pa_nil)) (pa_cons (pe_callB call_lenQ (by rfl) B.b_len (by decide +kernel) (pa_cons (pv 1) pa_nil)) pa_nil))) (pa_cons (pe_tup (pa_cons (pe_ix (show IxR _ (rIxT K) from ix_tup) (pv 0) pe_int (fun _ _ => rfl)) (pa_cons (pe_ix (show IxR _ (rIxT K) from ix_tup) (pv 1) pe_int (fun _ _ => rfl)) pa_nil))) pa_nil)))) (pg_tup rfl (pgs_cons (pg_name (i := 3) sc__law_order.nd rfl (Or.inl rfl)) (pgs_cons (pg_name (i := 4) sc__law_order.nd rfl (Or.inl rfl)) pgs_nil)))
      (pss_one (ps_if (pt_cmpR (op_neM hr.units) (pv 3) (pv 4) (nomark _))
        (pss_one (ps_ret (pe_ifExp (pt_cmpR (op_ltD hr.units) (pv 3) (pv 4) (nomark _)) (pe_un un_neg pe_int) pe_int)))
        pss_nil)))
      (pss_cons (ps_for PassesOwn.never rfl (pi_zipA (by rfl) B.b_zip (pa_cons (pe_slice sl_tupA (pv 0) (po_some pe_int) po_none) (pa_cons (pe_slice sl_tupA (pv 1) (po_some pe_int) po_none) pa_nil))) (pg_tup rfl (pgs_cons (pg_name (i := 3) sc__law_order.nd rfl (Or.inl rfl)) (pgs_cons (pg_name (i := 4) sc__law_order.nd rfl (Or.inl rfl)) pgs_nil)))
      (pss_cons (ps_set (i := 5) sc__law_order.nd rfl (Or.inl rfl) (pe_callO O__law_order hrr (by rfl) (pa_cons (pv 3) (pa_cons (pv 4) pa_nil))))
      (pss_one (ps_if (pt_cmpR op_ne (pv 5) pe_int (nomark _))
        (pss_one (ps_ret (pv 5)))
        pss_nil))))
      (pss_one (ps_ret pe_int))))))), ?_⟩
      walk_at "rd"
      refine ⟨v, t1, rfl, d1, w1, u, t2, rfl, d2, w2, (by show 2 ≤ sizeLine; decide), fun p np => ?_⟩
      have s0 := same_upd (o := .tup [.int (rank t1), .int (rank t2)]) np
      have e0 : upd H p (.tup [.int (rank t1), .int (rank t2)]) p = some (.tup [.int (rank t1), .int (rank t2)]) := upd_same
      generalize upd H p (.tup [.int (rank t1), .int (rank t2)]) = H0 at s0 e0 ⊢
      refine ixT0 (SqT.of e0) (ixT1 (SqT.of e0) (neI ⟨_, rfl, ?_⟩))
      by_cases hrk : rank t1 = rank t2
      · rw [show (!decide (rank t1 = rank t2)) = false by simp [hrk]]
        refine iteF (ixT0 (SqT.of e0) ⟨_, rfl, ?_⟩)
        have d10 := Dp.same s0 _ _ d1
        have d20 := Dp.same s0 _ _ d2
        have hmd : min (toD t1).depth (toD t2).depth ≤ 64 := by
          have := depth_toD t1
          omega
        by_cases h3 : rank t1 < 3
        · rw [decide_eq_true h3]
          obtain ⟨hal, ho⟩ := ord_leaf hrk h3
          refine iteT ⟨_, _, d10, d20, canLay_toD t1 w1, canLay_toD t2 w2, hmd, ⟨_, rfl, ?_⟩⟩
          have q0 := q H0 s0
          rw [ho] at q0
          cases he : PyData.eqv (toD t1) (toD t2)
          · refine iteF ⟨_, _, d10, d20, hal, ?_, hmd, ⟨_, rfl, ?_⟩⟩
            · cases t1 <;> (intro z; cases z)
            · rw [he] at q0
              cases hl : PySem.W.dataLt (toD t1) (toD t2)
              · rw [hl] at q0
                exact iteF q0
              · rw [hl] at q0
                exact iteT q0
          · rw [he] at q0
            exact iteT q0
        · rw [decide_eq_false h3]
          refine iteF ?_
          cases t1 with
          | cmp f as =>
            cases t2 with
            | cmp g bs =>
              obtain ⟨a1, us1, rfl, hs1, du1⟩ := den_cmp d10
              obtain ⟨a2, us2, rfl, hs2, du2⟩ := den_cmp d20
              have hl1 := dens_len du1
              have hl2 := dens_len du2
              refine tfor_of ?_
              dsimp only [iTup]
              walk_at "rd"
              refine lenT hs1 (lenT hs2 ⟨(by show 2 ≤ sizeLine; decide), fun q1 nq1 => ?_⟩)
              have S1 := same_upd (o := .tup [.int (V.str f :: us1).length, .int (V.str g :: us2).length]) nq1
              have E1 : upd H0 q1 (.tup [.int (V.str f :: us1).length, .int (V.str g :: us2).length]) q1 = some (.tup [.int (V.str f :: us1).length, .int (V.str g :: us2).length]) := upd_same
              generalize upd H0 q1 (.tup [.int (V.str f :: us1).length, .int (V.str g :: us2).length]) = H1 at S1 E1 ⊢
              refine ixT0 ((Tk.of S1).sqT hs1) (ixT0 ((Tk.of S1).sqT hs2) ⟨(by show 2 ≤ sizeLine; decide), fun q2 nq2 => ?_⟩)
              have S2 := same_upd (o := .tup [.str f, .str g]) nq2
              have E2 : upd H1 q2 (.tup [.str f, .str g]) q2 = some (.tup [.str f, .str g]) := upd_same
              generalize upd H1 q2 (.tup [.str f, .str g]) = H2 at S2 E2 ⊢
              refine ⟨(by show 2 ≤ sizeLine; decide), fun q3 nq3 => ⟨⟨_, SqT.of upd_same⟩, ?_⟩⟩
              have S3 := same_upd (o := .tup [.ref q1, .ref q2]) nq3
              have E3 : upd H2 q3 (.tup [.ref q1, .ref q2]) q3 = some (.tup [.ref q1, .ref q2]) := upd_same
              generalize upd H2 q3 (.tup [.ref q1, .ref q2]) = H3 at S3 E3 ⊢
              have E1' := S3 _ _ (S2 _ _ E1)
              have E2' := S3 _ _ E2
              have SH3 := s0.trans (S1.trans (S2.trans S3))
              refine for_t (xs := [.ref q1, .ref q2]) (fun i σ H4 => ∃ z3 z4, σ = [some (.ref a1), some (.ref a2), some (.ref p), z3, z4, none] ∧ H4 = H3 ∧ (1 ≤ i → as.length = bs.length) ∧ (2 ≤ i → f = g)) ⟨none, none, rfl, rfl, by omega, by omega⟩
                (fun i σ H4 _ ⟨_, _, _, e4, _⟩ => by rw [e4]; exact SqT.of E3) ?_ ?_
              · rintro i x σ H4 hi ⟨z3, z4, rfl, rfl, c1, c2⟩
                match i, hi with
                | 0, hi =>
                  cases hi
                  walk_at "rd"
                  refine ⟨_, SqT.of E1', rfl, _, _, rfl, _, _, rfl, rfl, _, _, .int _, .int _, rfl, rfl, by simp [PyData.depth], ⟨_, rfl, ?_⟩⟩
                  rw [eqv_int]
                  by_cases hlen : as.length = bs.length
                  · rw [show (!decide (((V.str f :: us1).length : Int) = ((V.str g :: us2).length : Int))) = false by simp [hl1, hl2, hlen]]
                    exact iteF ⟨_, _, rfl, rfl, fun _ => hlen, by omega⟩
                  · have hlen2 : ¬ ((V.str f :: us1).length : Int) = ((V.str g :: us2).length : Int) := by simp only [List.length_cons]; omega
                    rw [show (!decide (((V.str f :: us1).length : Int) = ((V.str g :: us2).length : Int))) = true by simp only [decide_eq_false hlen2]; rfl]
                    refine iteT ⟨_, _, .int _, .int _, rfl, (by intro z; cases z), by simp [PyData.depth], ⟨_, rfl, ?_⟩⟩
                    have qq := q H4 SH3
                    simp only [ordT, hlen, ne_eq, not_false_eq_true, if_true] at qq
                    rw [PySem.W.dataLt_int]
                    rw [show decide (((V.str f :: us1).length : Int) < ((V.str g :: us2).length : Int)) = decide (as.length < bs.length) by simp [hl1, hl2]]
                    cases hb : decide (as.length < bs.length)
                    · rw [hb] at qq
                      exact iteF qq
                    · rw [hb] at qq
                      exact iteT qq
                | 1, hi =>
                  cases hi
                  walk_at "rd"
                  have hlen := c1 (Nat.le_refl _)
                  refine ⟨_, SqT.of E2', rfl, _, _, rfl, _, _, rfl, rfl, _, _, .str _, .str _, atom_lay w1.1, atom_lay w2.1, by simp [PyData.depth], ⟨_, rfl, ?_⟩⟩
                  rw [eqv_str]
                  by_cases hfg : f = g
                  · rw [show (!decide (f = g)) = false by simp [hfg]]
                    exact iteF ⟨_, _, rfl, rfl, fun _ => hlen, fun _ => hfg⟩
                  · rw [show (!decide (f = g)) = true by simp [hfg]]
                    refine iteT ⟨_, _, .str _, .str _, rfl, (by intro z; cases z), by simp [PyData.depth], ⟨_, rfl, ?_⟩⟩
                    have qq := q H4 SH3
                    simp only [ordT, hlen, hfg, ne_eq, not_true_eq_false, not_false_eq_true, if_false, if_true] at qq
                    rw [PySem.W.dataLt_str]
                    change if slt f g = true then _ else _
                    cases hb : slt f g
                    · rw [hb] at qq
                      exact iteF qq
                    · rw [hb] at qq
                      exact iteT qq
              · rintro σ H4 ⟨z3, z4, rfl, rfl, c1, c2⟩
                have hlen := c1 (by simp)
                have hfg := c2 (by simp)
                subst hfg
                have hq : ∀ H', Same H H' → Q (.int (ordL as bs)) H' := fun H' s' => by
                  have qq := q H' s'
                  simp only [ordT, hlen, ne_eq, not_true_eq_false, if_false] at qq
                  exact qq
                walk_at "rd"
                refine tfor_of ?_
                dsimp only [iZipA]
                walk_at "rd"
                have hs1' := (Tk.of (S1.trans (S2.trans S3))).sqT hs1
                have hs2' := (Tk.of (S1.trans (S2.trans S3))).sqT hs2
                refine slT1 hs1' fun r1 nr1 => ?_
                have R1 := same_upd (o := .tup us1) nr1
                have F1 : upd H4 r1 (.tup us1) r1 = some (.tup us1) := upd_same
                generalize upd H4 r1 (.tup us1) = H5 at R1 F1 ⊢
                refine slT1 ((Tk.of R1).sqT hs2') fun r2 nr2 => ?_
                have R2 := same_upd (o := .tup us2) nr2
                have F2 : upd H5 r2 (.tup us2) r2 = some (.tup us2) := upd_same
                generalize upd H5 r2 (.tup us2) = H6 at R2 F2 ⊢
                have F1' := R2 _ _ F1
                have SH6 := SH3.trans (R1.trans R2)
                have du1' := DpAll.same (S1.trans (S2.trans (S3.trans (R1.trans R2)))) _ _ du1
                have du2' := DpAll.same (S1.trans (S2.trans (S3.trans (R1.trans R2)))) _ _ du2
                refine ⟨r1, r2, rfl, us1, us2, .inr ⟨SqT.of F1', SqT.of F2, ?_⟩⟩
                refine for_zipT (xs := us1) (ys := us2) (by omega) (fun i σ H7 => ∃ z3 z4 z5, σ = [some (.ref a1), some (.ref a2), some (.ref p), z3, z4, z5] ∧ Same H6 H7 ∧ ordL as bs = ordL (as.drop i) (bs.drop i)) ⟨z3, z4, none, rfl, Same.refl _, rfl⟩
                  (fun i σ H7 ⟨_, _, _, _, s7, _⟩ => ⟨SqT.of (s7 _ _ F1'), SqT.of (s7 _ _ F2)⟩) ?_ ?_
                · rintro i x y T σ H7 hx hy ⟨z3, z4, z5, rfl, s7, ho⟩ nT
                  obtain ⟨ta, hta, dta⟩ := dens_get du1' hx
                  obtain ⟨tb, htb, dtb⟩ := dens_get du2' hy
                  have hdr : ordL (as.drop i) (bs.drop i) = if ordT ta tb = 0 then ordL (as.drop (i + 1)) (bs.drop (i + 1)) else ordT ta tb := by
                    obtain ⟨ha, ea⟩ := List.getElem?_eq_some_iff.mp hta
                    obtain ⟨hb, eb⟩ := List.getElem?_eq_some_iff.mp htb
                    rw [List.drop_eq_getElem_cons ha, List.drop_eq_getElem_cons hb, ea, eb, ordL]
                  have sT := same_upd (o := .tup [x, y]) nT
                  walk_at "rd"
                  refine ⟨_, SqT.of upd_same, rfl, _, _, rfl, _, _, rfl, rfl, ?_⟩
                  have ga := depth_get hta
                  have gb := depth_get htb
                  simp only [depth] at p1 p2
                  refine ⟨x, y, ta, tb, rfl, Dp.same (s7.trans sT) _ _ dta, Dp.same (s7.trans sT) _ _ dtb, wfs_get w1.2.2.2 hta, wfs_get w2.2.2.2 htb, by omega, by omega, by omega, fun H8 s8 => neI ⟨_, rfl, ?_⟩⟩
                  by_cases h0 : ordT ta tb = 0
                  · rw [show (!decide (ordT ta tb = 0)) = false by simp [h0]]
                    rw [if_pos h0] at hdr
                    exact iteF ⟨_, _, _, rfl, (s7.trans sT).trans s8, ho.trans hdr⟩
                  · rw [show (!decide (ordT ta tb = 0)) = true by simp [h0]]
                    rw [if_neg h0] at hdr
                    refine iteT ?_
                    rw [← hdr, ← ho]
                    exact hq H8 (SH6.trans ((s7.trans sT).trans s8))
                · rintro σ H7 ⟨z3, z4, z5, rfl, s7, ho⟩
                  walk_at "rd"
                  rw [List.drop_of_length_le (by omega)] at ho
                  simp only [ordL] at ho
                  rw [← ho]
                  exact hq H7 (SH6.trans s7)
            | var k => cases hrk
            | num k => cases hrk
            | atm k => cases hrk
          | var k => exact absurd (show (0 : Int) < 3 by decide) h3
          | num k => exact absurd (show (1 : Int) < 3 by decide) h3
          | atm k => exact absurd (show (2 : Int) < 3 by decide) h3
      · rw [ord_rank hrk] at q
        rw [show (!decide (rank t1 = rank t2)) = true by simp [hrk]]
        refine iteT (ixT0 (SqT.of e0) (ixT1 (SqT.of e0) ⟨_, rfl, _, rfl, ?_⟩))
        by_cases hlt : rank t1 < rank t2
        · rw [decide_eq_true hlt] at q ⊢
          exact iteT (q H0 s0)
        · rw [decide_eq_false hlt] at q ⊢
          exact iteF (q H0 s0)
end
end K1

namespace K1
open PySem PySem.Spec PyProof.Rows L2 HM RZ
local macro_rules | `(tactic| walk_at "rd") => `(tactic| (dsimp only [tSeq, tNext, tRet, tRetN, tAsg, gName, gTup, gCons, gNil, gSub, tDrop, tIfS, tVar, tC, tOp, tUn, tTest, tB, tAnd, tOr, tNot, tAndV, tOrV, tNotV, tIf, tCB, tCons, tNil, tTup, tLst, tCall, tPar, tPar3, tAug, tSl, tPart, tNoPart, tBM, tBM0, tRevT, tRevL, tChain, sDPut, tDGet, tDGet1, tDGet2, tDNewK, tDNewT, tDIn, tDNotIn, tYes, wipe, cxOf, Cx.nox, Cx.wish, L2.start, rI0, rI, rU, ipI, List.length_cons, List.length_nil, List.map_cons, List.map_nil, List.replicate, List.cons_append, List.nil_append, List.append_nil, List.getElem?_cons_zero, List.getElem?_cons_succ, List.set_cons_zero, List.set_cons_succ, Nat.reduceAdd, Nat.reduceSub]; try simp only [List.map_cons, List.map_nil, List.append_nil, List.cons_append, List.nil_append, List.getElem?_cons_zero, List.getElem?_cons_succ, List.set_cons_zero, List.set_cons_succ, rIntI_eq, rIntB_eq, rAbs_eq, Option.some.injEq, V.int.injEq, V.bl.injEq, V.str.injEq, V.ref.injEq, exists_eq_left', exists_and_left, exists_eq', true_and, and_true, if_true, if_false, Bool.false_eq_true]))
local macro_rules | `(tactic| walk_at "r0") => `(tactic| (dsimp only [tSeq, tNext, tRet, tRetN, tAsg, gName, gTup, gCons, gNil, gSub, tDrop, tIfS, tVar, tC, tOp, tUn, tTest, tB, tAnd, tOr, tNot, tAndV, tOrV, tNotV, tIf, tCB, tCons, tNil, tCall, tPar, tPar3, tAug, tSl, tPart, tNoPart, tBM, tBM0, tRevT, tRevL, tChain, sDPut, tDGet, tDGet1, tDGet2, tDNewK, tDNewT, tDIn, tDNotIn, tYes, wipe, cxOf, Cx.nox, Cx.wish, L2.start, rI0, rI, rU, ipI, List.length_cons, List.length_nil, List.map_cons, List.map_nil, List.replicate, List.cons_append, List.nil_append, List.append_nil, List.getElem?_cons_zero, List.getElem?_cons_succ, List.set_cons_zero, List.set_cons_succ, Nat.reduceAdd, Nat.reduceSub]; try simp only [List.map_cons, List.map_nil, List.append_nil, List.cons_append, List.nil_append, List.getElem?_cons_zero, List.getElem?_cons_succ, List.set_cons_zero, List.set_cons_succ, rIntI_eq, rIntB_eq, rAbs_eq, Option.some.injEq, V.int.injEq, V.bl.injEq, V.str.injEq, V.ref.injEq, exists_eq_left', exists_and_left, exists_eq', true_and, and_true, if_true, if_false, Bool.false_eq_true]))
local macro_rules | `(tactic| walk_at "evd") => `(tactic| repeat (first | exact evds_nil | exact evd_int | exact evd_str | exact evd_bl | exact evd_non | exact evd_neg | apply evds_cons | apply evd_tup | apply evd_lst | (simp only [List.length_cons, List.length_nil]; omega)))
section
variable {P : Program} {w : World} {K : PySem.W.Frag} {mg : Str → Option Value} {base : Heap}
theorem slTo {H : Hp} {Q : VK} {a : Addr} {xs : List V} {k : Nat} (h : SqT K H a xs) (hk : k < xs.length) (q : ∀ p, H p = none → Q (.ref p) (upd H p (.tup (xs.take k)))) : rSlA K (.ref a) none (some (k : Nat)) H Q := by
  have e : HT.sIx xs.length xs.length (some (k : Int)) = k := by rw [HT.sIx_nat]; omega
  refine ⟨a, _, rfl, h, fun z => ?_, fun _ p hp => ?_⟩
  · rw [e] at z
    omega
  · have : cutV xs none (some (k : Int)) = xs.take k := by
      unfold cutV
      rw [e, HT.sIx_none, List.drop_zero]
      simp
    rw [this]
    exact q p hp
theorem slFrom {H : Hp} {Q : VK} {a : Addr} {xs : List V} {k : Nat} (h : SqT K H a xs) (h0 : 0 < k) (hk : k ≤ xs.length) (q : ∀ p, H p = none → Q (.ref p) (upd H p (.tup (xs.drop k)))) : rSlA K (.ref a) (some (k : Nat)) none H Q := by
  have e : HT.sIx xs.length 0 (some (k : Int)) = k := by rw [HT.sIx_nat]; omega
  refine ⟨a, _, rfl, h, fun z => ?_, fun _ p hp => ?_⟩
  · rw [e] at z
    omega
  · have : cutV xs (some (k : Int)) none = xs.drop k := by
      unfold cutV
      rw [e, HT.sIx_none]
      exact List.take_of_length_le (by rw [List.length_drop]; omega)
    rw [this]
    exact q p hp
theorem dens_take {H : Hp} : ∀ {us : List V} {ts : List Tm} (h : Dens K H us ts) (n : Nat), Dens K H (us.take n) (ts.take n)
  | _, [], .nil, n => by rw [List.take_nil, List.take_nil]; exact .nil
  | _, t :: ts, .cons d ds, 0 => .nil
  | _, t :: ts, .cons d ds, n + 1 => .cons d (dens_take (ts := ts) ds n)
theorem dens_drop {H : Hp} : ∀ {us : List V} {ts : List Tm} (h : Dens K H us ts) (n : Nat), Dens K H (us.drop n) (ts.drop n)
  | _, [], .nil, n => by rw [List.drop_nil, List.drop_nil]; exact .nil
  | _, t :: ts, .cons d ds, 0 => .cons d ds
  | _, t :: ts, .cons d ds, n + 1 => dens_drop (ts := ts) ds n
def sp_lnear (K : PySem.W.Frag) (d : Nat) : Sp := fun vs H Q _ => ∃ wl v t, vs = [.ref wl, v] ∧ Well H wl ∧ Den K H v t ∧ wf t ∧ depth t ≤ d ∧ ∀ H' u t', wf t' → (parts t').length ≤ (parts t).length + 9 → depth t' ≤ depth t + 1 → Den K H' u t' → Sm (Mw wl) H H' → Well H' wl → Q u H'
theorem ok_lnear (B : Bf K mg) (G : Gd K mg "_law_near" s__law_near) (O__law_is_compound : Okf P w K mg base "_law_is_compound" 1 ["_law_term_here"] [] (sp_liscmp K)) (O__law_draw : Okf P w K mg base "_law_draw" 1 ["_law_well_here", "_law_many"] [] (sp_draw K)) (O__law_one : Okf P w K mg base "_law_one" 2 ["_law_well_here", "_law_some"] [] (sp_one K))
    (O__law_term : Okf P w K mg base "_law_term" 5 ["_law_well_here", "_law_deep", "_law_many"] [] (sp_term K 2)) : ∀ d, Okf P w K mg base "_law_near" (6 + d) ["_law_well_here", "_law_term_here"] [] (sp_lnear K d)
  | 0 => by
    refine okf_mk G sc__law_near (fun _ _ _ _ _ _ us hl => match us, hl with | [_, _], _ => rfl) (fun vs H Q E h => ?_) (fun cdv A outer s H vs Q E hr h => ?_)
    · obtain ⟨wl, v, t, rfl, _⟩ := h
      rfl
    · obtain ⟨wl, v, t, rfl, _, _, _, h1, _⟩ := h
      have := depth_pos t
      omega
  | d + 1 => by
    have O__law_near := ok_lnear B G O__law_is_compound O__law_draw O__law_one O__law_term d
    show Okf P w K mg base "_law_near" ((6 + d) + 1) _ _ _
    refine okf_mk G sc__law_near (fun _ _ _ _ _ _ us hl => match us, hl with | [_, _], _ => rfl) (fun vs H Q E h => ?_) (fun cdv A outer s H vs Q E hr h => ?_)
    · obtain ⟨wl, v, t, rfl, _⟩ := h
      rfl
    · obtain ⟨wl, v, t, rfl, hwl, dt, wt, hdp, q⟩ := h
      have hrr := hr
      refine ⟨_, (pss_cons (ps_if (PW.pt (pw_or (pt_not (pt_val (pe_callO O__law_is_compound (hr.mono (by omega)) (by rfl) (pa_cons (pv 1) pa_nil)))) (pw_or1 (pt_cmpR op_eq (pe_callO O__law_draw (hr.mono (by omega)) (by rfl) (pa_cons (pv 0) (pa_cons pe_int pa_nil))) pe_int (nomark _)))))
        (pss_one (ps_ret (pe_callO O__law_term (hr.mono (by omega)) (by rfl) (pa_cons (pv 0) (pa_cons pe_int (pa_cons pe_int pa_nil))))))
        pss_nil)
      (pss_cons (ps_set (i := 2) sc__law_near.nd rfl (Or.inl rfl) (pe_callO O__law_draw (hr.mono (by omega)) (by rfl) (pa_cons (pv 0) (pa_cons (pe_callB call_lenQ (by rfl) B.b_len (by decide +kernel) (pa_cons (pv 1) pa_nil)) pa_nil))))
      (pss_cons (ps_if (pt_cmpR op_eq (pv 2) pe_int (nomark _))
        (pss_one (ps_ret (pe_op op_catA (pe_tup (pa_cons (pe_callO O__law_one (hr.mono (by omega)) (by rfl) (pa_cons (pv 0) (pa_cons (pe_lst (pa_cons pe_str (pa_cons pe_str (pa_cons pe_str (pa_cons pe_str pa_nil))))) pa_nil))) pa_nil)) (pe_slice sl_tupA (pv 1) (po_some pe_int) po_none))))
        pss_nil)
      (pss_one (ps_ret (pe_op op_catA (pe_op op_catA (pe_slice sl_tupA (pv 1) po_none (po_some (pv 2))) (pe_tup (pa_cons (pe_callO O__law_near hrr (by rfl) (pa_cons (pv 0) (pa_cons (pe_ix (show IxR _ (rIxT K) from ix_tup) (pv 1) (pv 2) (fun _ _ => rfl)) pa_nil))) pa_nil))) (pe_slice sl_tupA (pv 1) (po_some (pe_op op_add (pv 2) pe_int)) po_none))))))), ?_⟩
      walk_at "rd"
      have leaf : ∀ H1, Sm (Mw wl) H H1 → Well H1 wl → sp_term K 2 [.ref wl, .int 2, .int 4] H1 Q E0 := fun H1 s1 w1 => ⟨wl, 4, by decide, rfl, w1, by decide, by decide, fun H2 u t' wt' hp hd du s2 w2 => q H2 u t' wt' (Nat.le_trans hp (show 9 ≤ _ by omega)) (by have := depth_pos t; omega) du (s1.trans s2) w2⟩
      refine ⟨v, t, rfl, dt, wt, _, rfl, ?_⟩
      cases t with
      | var k => exact iteT (leaf H (Sm.refl H) hwl)
      | num k => exact iteT (leaf H (Sm.refl H) hwl)
      | atm k => exact iteT (leaf H (Sm.refl H) hwl)
      | cmp f as =>
        refine iteF ⟨wl, 4, rfl, hwl, by decide, by decide, fun H1 i1 g0 g1 s1 w1 => eqI ⟨_, rfl, ite2 (fun _ => leaf H1 s1 w1) (fun _ => ?_)⟩⟩
        obtain ⟨a, us, rfl, hs, du⟩ := den_cmp dt
        have hl := dens_len du
        have hp : 0 < as.length := List.length_pos_iff.mpr wt.2.1
        have h8 := wt.2.2.1
        refine lenT ((hwl.tk s1).sqT hs) ⟨wl, _, rfl, w1, ?_, ?_, fun H2 at_ h0 h1 s2 w2 => eqI ⟨_, rfl, ?_⟩⟩
        · rw [List.length_cons]; omega
        · rw [List.length_cons]; omega
        have tk2 : Tk H H2 := hwl.tk (s1.trans s2)
        have s12 := s1.trans s2
        have hs2 := tk2.sqT hs
        have du2 : Dens K H2 us as := DpAll.tk tk2 _ _ (noLs_toDs _) du
        by_cases hz : at_ = 0
        · rw [decide_eq_true hz]
          refine iteT ⟨(by show 4 ≤ sizeLine; decide), fun p np => ?_⟩
          have pw : p ≠ wl := by obtain ⟨_, _, _, e⟩ := w2; exact (ne_of_none e np).symm
          have sp := same_upd (o := .lst [.str "f", .str "g", .str "", .str "~"]) np
          refine ⟨wl, p, _, rfl, w2.same sp, SqL.of upd_same, pw, by simp, by simp, fun H3 x hx s3 w3 => ?_⟩
          obtain ⟨g, rfl, hg⟩ : ∃ g, x = .str g ∧ atomOk g = true := by
            simp only [List.mem_cons, List.not_mem_nil, or_false] at hx
            rcases hx with rfl | rfl | rfl | rfl <;> exact ⟨_, rfl, by decide +kernel⟩
          have tk3 : Tk H2 H3 := (Tk.of sp).trans ((w2.same sp).tk s3)
          refine ⟨(by show 1 ≤ sizeLine; decide), fun p2 n2 => slT1 ((Tk.of (same_upd n2)).sqT (tk3.sqT hs2)) fun p3 n3 => ?_⟩
          have S3 := (same_upd (o := .tup [.str g]) n2).trans (same_upd (o := .tup us) n3)
          refine ⟨p2, p3, [.str g], us, rfl, rfl, SqT.of ((same_upd n3) _ _ upd_same), SqT.of upd_same, ?_, (fun z => by cases z), fun _ z => ?_, fun _ _ p4 n4 => ?_⟩
          · exact Nat.le_trans (show _ ≤ 100 by simp; omega) (by decide)
          · rw [z] at hl
            simp at hl
            omega
          · have S4 := S3.trans (same_upd (o := .tup ([.str g] ++ us)) n4)
            refine q _ _ (.cmp g as) ⟨hg, wt.2⟩ (by simp [parts]) (by simp [depth]) (mk_cmp (SqT.of upd_same) (DpAll.tk (tk3.trans (Tk.of S4)) _ _ (noLs_toDs _) du2)) ?_ ((w3.same S3).same (same_upd n4))
            exact (s12.trans ((Sm.of sp).trans (s3.trans (Sm.of S4))))
        · rw [decide_eq_false hz]
          refine iteF ⟨_, rfl, ?_⟩
          obtain ⟨j, rfl⟩ : ∃ j : Nat, at_ = ((j + 1 : Nat) : Int) := ⟨(at_ - 1).toNat, by omega⟩
          have hj : j < us.length := by rw [List.length_cons] at h1; omega
          refine slTo hs2 (by rw [List.length_cons]; omega) fun p1 n1 => ?_
          have hja : j < as.length := by omega
          have sp1 := same_upd (o := .tup (List.take (j + 1) (V.str f :: us))) n1
          refine ixTn (n := j + 1) ((Tk.of sp1).sqT hs2) (show (V.str f :: us)[j + 1]? = some us[j] by simp [hj]) rfl ?_
          obtain ⟨tj, htj, dj⟩ := dens_get du2 (List.getElem?_eq_getElem hj)
          have hdj := depth_get htj
          have htj2 : as = as.take j ++ tj :: as.drop (j + 1) := by
            obtain ⟨h, e⟩ := List.getElem?_eq_some_iff.mp htj
            rw [← e, ← List.drop_eq_getElem_cons h, List.take_append_drop]
          have hwj := wfs_get wt.2.2.2 htj
          simp only [depth] at hdp
          refine ⟨wl, us[j], tj, rfl, w2.same sp1, Dp.same sp1 _ _ dj, hwj, by omega, fun H3 u' t' wt' hp' hd' du' s3 w3 => ?_⟩
          have tk3 : Tk H2 H3 := (Tk.of sp1).trans ((w2.same sp1).tk s3)
          have e31 : SqT K H3 p1 (V.str f :: us.take j) := ((w2.same sp1).tk s3).sqT (SqT.of upd_same)
          refine ⟨(by show 1 ≤ sizeLine; decide), fun p2 n2 => ⟨p1, p2, V.str f :: us.take j, [u'], rfl, rfl, (Tk.of (same_upd n2)).sqT e31, SqT.of upd_same, ?_, (fun z => by cases z), (fun _ z => by cases z), fun _ _ p3 n3 => ⟨_, rfl, ?_⟩⟩⟩
          · exact Nat.le_trans (show _ ≤ 100 by simp; omega) (by decide)
          have S23 := (same_upd (o := .tup [u']) n2).trans (same_upd (o := .tup (V.str f :: us.take j ++ [u'])) n3)
          have e3 : upd (upd H3 p2 (.tup [u'])) p3 (.tup (V.str f :: us.take j ++ [u'])) p3 = some (.tup (V.str f :: us.take j ++ [u'])) := upd_same
          generalize upd (upd H3 p2 (.tup [u'])) p3 (.tup (V.str f :: us.take j ++ [u'])) = H4 at S23 e3 ⊢
          rw [show ((j + 1 : Nat) : Int) + 1 = ((j + 2 : Nat) : Int) by omega]
          refine slFrom ((tk3.trans (Tk.of S23)).sqT hs2) (by omega) (by rw [List.length_cons]; omega) fun p5 n5 => ?_
          have e5 : List.drop (j + 2) (V.str f :: us) = us.drop (j + 1) := rfl
          rw [e5]
          have S45 := same_upd (o := .tup (us.drop (j + 1))) n5
          have wfs' : wfs (as.take j ++ t' :: as.drop (j + 1)) := by
            have h := wt.2.2.2
            rw [htj2] at h
            have h2 := wfs_append.mp h
            exact wfs_append.mpr ⟨h2.1, wt', h2.2.2⟩
          have hln : (as.take j ++ t' :: as.drop (j + 1)).length = as.length := by
            conv => rhs; rw [htj2]
            simp
          have wfn : wf (.cmp f (as.take j ++ t' :: as.drop (j + 1))) := ⟨wt.1, by simp, by omega, wfs'⟩
          have hpp : (parts (.cmp f (as.take j ++ t' :: as.drop (j + 1)))).length ≤ (parts (.cmp f as)).length + 9 := by
            have e1 : (partsL as).length = (partsL (as.take j)).length + ((parts tj).length + (partsL (as.drop (j + 1))).length) := by
              conv => lhs; rw [htj2]
              rw [partsL_append, List.length_append, partsL, List.length_append]
            have e2 : (partsL (as.take j ++ t' :: as.drop (j + 1))).length = (partsL (as.take j)).length + ((parts t').length + (partsL (as.drop (j + 1))).length) := by
              rw [partsL_append, List.length_append, partsL, List.length_append]
            simp only [parts, List.length_cons]
            omega
          have hdd : depth (.cmp f (as.take j ++ t' :: as.drop (j + 1))) ≤ depth (.cmp f as) + 1 := by
            have e1 : depthL as = max (depthL (as.take j)) (max (depth tj) (depthL (as.drop (j + 1)))) := by
              conv => lhs; rw [htj2]
              rw [depthL_append, depthL]
            have e2 : depthL (as.take j ++ t' :: as.drop (j + 1)) = max (depthL (as.take j)) (max (depth t') (depthL (as.drop (j + 1)))) := by
              rw [depthL_append, depthL]
            simp only [depth]
            omega
          have dsplit : Dens K H3 (us.take j ++ u' :: us.drop (j + 1)) (as.take j ++ t' :: as.drop (j + 1)) := by
            have d3 : Dens K H3 us as := DpAll.tk tk3 _ _ (noLs_toDs _) du2
            exact dens_app (dens_take d3 j) (.cons du' (dens_drop d3 (j + 1)))
          have Hsm : ∀ H5, Same H3 H5 → Sm (Mw wl) H H5 := fun H5 s5 => s12.trans ((Sm.of sp1).trans (s3.trans (Sm.of s5)))
          refine ⟨p3, p5, V.str f :: us.take j ++ [u'], us.drop (j + 1), rfl, rfl, SqT.of (S45 _ _ e3), SqT.of upd_same, ?_, (fun z => by cases z), fun _ z => ?_, fun _ _ p6 n6 => ?_⟩
          · exact Nat.le_trans (show _ ≤ 100 by simp; omega) (by decide)
          · have el : us.take j ++ u' :: us.drop (j + 1) = us.take j ++ [u'] := by rw [z]
            rw [el] at dsplit
            exact q _ _ _ wfn hpp hdd (mk_cmp (SqT.of (S45 _ _ e3)) (DpAll.same (S23.trans S45) _ _ dsplit)) (Hsm _ (S23.trans S45)) (w3.same (S23.trans S45))
          · have S6 := (S23.trans S45).trans (same_upd (o := .tup ((V.str f :: us.take j ++ [u']) ++ us.drop (j + 1))) n6)
            have el : (V.str f :: us.take j ++ [u']) ++ us.drop (j + 1) = V.str f :: (us.take j ++ u' :: us.drop (j + 1)) := by simp
            refine q _ _ _ wfn hpp hdd (mk_cmp (SqT.of (by rw [upd_same, el])) (DpAll.same S6 _ _ dsplit)) (Hsm _ S6) (w3.same S6)
end
end K1

namespace K1
open PySem PySem.Spec PyProof.Rows L2 HM RZ
local macro_rules | `(tactic| walk_at "rd") => `(tactic| (dsimp only [tSeq, tNext, tRet, tRetN, tAsg, gName, gTup, gCons, gNil, gSub, tDrop, tIfS, tVar, tC, tOp, tUn, tTest, tB, tAnd, tOr, tNot, tAndV, tOrV, tNotV, tIf, tCB, tCons, tNil, tTup, tLst, tCall, tPar, tPar3, tAug, tSl, tPart, tNoPart, tBM, tBM0, tRevT, tRevL, tChain, sDPut, tDGet, tDGet1, tDGet2, tDNewK, tDNewT, tDIn, tDNotIn, tYes, wipe, cxOf, Cx.nox, Cx.wish, L2.start, rI0, rI, rU, ipI, List.length_cons, List.length_nil, List.map_cons, List.map_nil, List.replicate, List.cons_append, List.nil_append, List.append_nil, List.getElem?_cons_zero, List.getElem?_cons_succ, List.set_cons_zero, List.set_cons_succ, Nat.reduceAdd, Nat.reduceSub]; try simp only [List.map_cons, List.map_nil, List.append_nil, List.cons_append, List.nil_append, List.getElem?_cons_zero, List.getElem?_cons_succ, List.set_cons_zero, List.set_cons_succ, rIntI_eq, rIntB_eq, rAbs_eq, Option.some.injEq, V.int.injEq, V.bl.injEq, V.str.injEq, V.ref.injEq, exists_eq_left', exists_and_left, exists_eq', true_and, and_true, if_true, if_false, Bool.false_eq_true]))
local macro_rules | `(tactic| walk_at "r0") => `(tactic| (dsimp only [tSeq, tNext, tRet, tRetN, tAsg, gName, gTup, gCons, gNil, gSub, tDrop, tIfS, tVar, tC, tOp, tUn, tTest, tB, tAnd, tOr, tNot, tAndV, tOrV, tNotV, tIf, tCB, tCons, tNil, tCall, tPar, tPar3, tAug, tSl, tPart, tNoPart, tBM, tBM0, tRevT, tRevL, tChain, sDPut, tDGet, tDGet1, tDGet2, tDNewK, tDNewT, tDIn, tDNotIn, tYes, wipe, cxOf, Cx.nox, Cx.wish, L2.start, rI0, rI, rU, ipI, List.length_cons, List.length_nil, List.map_cons, List.map_nil, List.replicate, List.cons_append, List.nil_append, List.append_nil, List.getElem?_cons_zero, List.getElem?_cons_succ, List.set_cons_zero, List.set_cons_succ, Nat.reduceAdd, Nat.reduceSub]; try simp only [List.map_cons, List.map_nil, List.append_nil, List.cons_append, List.nil_append, List.getElem?_cons_zero, List.getElem?_cons_succ, List.set_cons_zero, List.set_cons_succ, rIntI_eq, rIntB_eq, rAbs_eq, Option.some.injEq, V.int.injEq, V.bl.injEq, V.str.injEq, V.ref.injEq, exists_eq_left', exists_and_left, exists_eq', true_and, and_true, if_true, if_false, Bool.false_eq_true]))
local macro_rules | `(tactic| walk_at "evd") => `(tactic| repeat (first | exact evds_nil | exact evd_int | exact evd_str | exact evd_bl | exact evd_non | exact evd_neg | apply evds_cons | apply evd_tup | apply evd_lst | (simp only [List.length_cons, List.length_nil]; omega)))
section
variable {P : Program} {w : World} {K : PySem.W.Frag} {mg : Str → Option Value} {base : Heap}
theorem neB {a b : Bool} {H : Hp} {Q : VK} (q : Q (.bl (!decide (a = b))) H) : rNe (.bl a) (.bl b) H Q := ⟨rfl, by rw [show decide (V.bl a = V.bl b) = decide (a = b) from by simp]; exact q⟩
theorem cutM1 (xs : List V) (h : 0 < xs.length) : cutV xs (some (-1)) none = xs.drop (xs.length - 1) := by
  unfold cutV
  have e : HT.sIx xs.length 0 (some (-1)) = xs.length - 1 := by
    show (if (-1 : Int) < 0 then ((-1 : Int) + (xs.length : Int)).toNat else min (-1 : Int).toNat xs.length) = _
    rw [if_pos (by decide)]
    omega
  rw [e, HT.sIx_none]
  exact List.take_of_length_le (by rw [List.length_drop]; omega)
theorem cutTo1 (xs : List V) (y : V) : cutV (xs ++ [y]) none (some (-1)) = xs := by
  unfold cutV
  have e : HT.sIx (xs ++ [y]).length (xs ++ [y]).length (some (-1)) = xs.length := by
    show (if (-1 : Int) < 0 then ((-1 : Int) + ((xs ++ [y]).length : Int)).toNat else min (-1 : Int).toNat (xs ++ [y]).length) = _
    rw [if_pos (by decide), List.length_append]
    simp
    omega
  rw [e, HT.sIx_none, List.drop_zero]
  simp
theorem cutFrom1 (xs : List V) (h : 0 < xs.length) : cutV xs (some 1) none = xs.drop 1 := by
  cases xs with
  | nil => cases h
  | cons y r => exact cut1 y r
theorem wfs_mem : ∀ {ts : List Tm} {t : Tm}, wfs ts → t ∈ ts → wf t
  | _ :: _, _, h, m => by
    rcases List.mem_cons.mp m with rfl | m
    · exact h.1
    · exact wfs_mem h.2 m
/-- the places of the next ones, the last one beside itself -/
theorem next_at {α : Type} {l : List α} {i : Nat} {x : α} (h : (l.drop 1 ++ l.drop (l.length - 1))[i]? = some x) (hi : i < l.length) : (∃ h2 : i + 1 < l.length, x = l[i + 1]) ∨ (i + 1 = l.length ∧ x = l[i]) := by
  rw [List.getElem?_append, List.length_drop] at h
  by_cases h1 : i < l.length - 1
  · rw [if_pos h1, List.getElem?_drop] at h
    obtain ⟨h2, e⟩ := List.getElem?_eq_some_iff.mp h
    refine .inl ⟨by omega, ?_⟩
    rw [← e]
    congr 1
    omega
  · rw [if_neg h1, List.getElem?_drop] at h
    obtain ⟨h2, e⟩ := List.getElem?_eq_some_iff.mp h
    refine .inr ⟨by omega, ?_⟩
    rw [← e]
    congr 1
    omega
theorem any_eqv {lts : List Tm} {t : Tm} (h : t ∈ lts) : ((toDs lts).any fun z => PyData.eqv z (toD t)) = true := by
  induction lts with
  | nil => cases h
  | cons a r ih =>
    simp only [toDs, List.any_cons, Bool.or_eq_true]
    rcases List.mem_cons.mp h with rfl | h
    · exact .inl ((eqv_toD _ _).mpr rfl)
    · exact .inr (ih h)
theorem find_eqv : ∀ {lts : List Tm} {t : Tm}, t ∈ lts → ∃ j, (toDs lts).findIdx? (fun z => PyData.eqv z (toD t)) = some j ∧ lts[j]? = some t
  | a :: r, t, h => by
    simp only [toDs, List.findIdx?_cons]
    cases he : PyData.eqv (toD a) (toD t)
    · have hne : t ≠ a := fun z => by rw [z, (eqv_toD a a).mpr rfl] at he; cases he
      rcases List.mem_cons.mp h with z | h
      · exact absurd z hne
      · obtain ⟨j, h1, h2⟩ := find_eqv h
        exact ⟨j + 1, by simp [h1], by simpa using h2⟩
    · exact ⟨0, by simp, by simp [(eqv_toD a t).mp he]⟩
theorem dens_erase {H : Hp} {us : List V} {ts : List Tm} (h : Dens K H us ts) (j : Nat) : Dens K H (us.eraseIdx j) (ts.eraseIdx j) := by
  rw [List.eraseIdx_eq_take_drop_succ, List.eraseIdx_eq_take_drop_succ]
  exact dens_app (dens_take h j) (dens_drop h (j + 1))
theorem perm_erase {α : Type} {l : List α} {j : Nat} {x : α} (h : l[j]? = some x) : l.Perm (x :: l.eraseIdx j) := by
  obtain ⟨hj, e⟩ := List.getElem?_eq_some_iff.mp h
  have e1 : l = l.take j ++ x :: l.drop (j + 1) := by rw [← e, ← List.drop_eq_getElem_cons hj, List.take_append_drop]
  rw [List.eraseIdx_eq_take_drop_succ]
  conv => lhs; rw [e1]
  exact List.perm_middle
theorem eqTerms {H : Hp} {Q : VK} {p p2 : Addr} {us vs : List V} {ts : List Tm} (e1 : H p = some (.lst us)) (e2 : H p2 = some (.lst vs)) (d1 : Dens K H us ts) (d2 : Dens K H vs ts) (hw : wfs ts) (hd : depthL ts ≤ 60) (q : Q (.bl true) H) : rEqM K (.ref p) (.ref p2) H Q := by
  have hc : PyData.canLay0 (.list (toDs ts)) = true := canLay_toDs ts hw
  refine ⟨.list (toDs ts), .list (toDs ts), .lst (SqL.of e1) d1, .lst (SqL.of e2) d2, hc, hc, ?_, by rw [SeqAt.eqv_refl _ hc]; exact q⟩
  have := depth_toDs ts
  simp only [PyData.depth]
  omega
def sp_right (K : PySem.W.Frag) : Sp := fun vs H Q _ => ∃ wl, vs = [.ref wl] ∧ Well H wl ∧ ∀ H', Sm (Mw wl) H H' → Well H' wl → Q (.bl true) H'
theorem ok_right (B : Bf K mg) (G : Gd K mg "_law_right" s__law_right) (O__law_term : Okf P w K mg base "_law_term" 7 ["_law_well_here", "_law_deep", "_law_many"] [] (sp_term K 4)) (O__law_draw : Okf P w K mg base "_law_draw" 1 ["_law_well_here", "_law_many"] [] (sp_draw K)) (O__law_one : Okf P w K mg base "_law_one" 2 ["_law_well_here", "_law_some"] [] (sp_one K))
    (O__law_near : Okf P w K mg base "_law_near" 18 ["_law_well_here", "_law_term_here"] [] (sp_lnear K 12)) (O_compare_terms : Okf P w K mg base "compare_terms" 5 ["one", "other"] [] (sp_compare_terms K)) (O__law_order : Okf P w K mg base "_law_order" 13 ["_law_one_here", "_law_other"] [] (sp_lorder K 12)) (O_sort_terms : Okf P w K mg base "sort_terms" 6 ["terms"] [] (sp_sort_terms K)) :
    Okf P w K mg base "_law_right" 19 ["_law_well_here"] [] (sp_right K) := by
  refine okf_mk G sc__law_right (fun _ _ _ _ _ _ us hl => match us, hl with | [_], _ => rfl) (fun vs H Q E h => ?_) (fun cdv A outer s H vs Q E hr h => ?_)
  · obtain ⟨wl, rfl, _⟩ := h
    rfl
  · obtain ⟨wl, rfl, hw, q⟩ := h
    refine ⟨_, (pss_cons (ps_set (i := 1) sc__law_right.nd rfl (Or.inl rfl) (pe_lst (pa_cons (pe_callO O__law_term (hr.mono (by decide)) (by rfl) (pa_cons (pv 0) (pa_cons pe_int (pa_cons pe_int pa_nil)))) pa_nil)))
      (pss_cons (ps_for PassesOwn.never rfl (pi_range1 (by rfl) B.b_range (pa_cons (pe_callO O__law_draw (hr.mono (by decide)) (by rfl) (pa_cons (pv 0) (pa_cons pe_int pa_nil))) pa_nil)) (pg_name (i := 2) sc__law_right.nd rfl (Or.inl rfl))
      (pss_one (ps_expr (pe_bm PySem.F.plainAttrs_list PySem.F.slot_list_append PySem.F.type_list_append mt_append (pv 1) (pa_cons (pe_ifExp (pt_cmpR op_gt (pe_callO O__law_draw (hr.mono (by decide)) (by rfl) (pa_cons (pv 0) (pa_cons pe_int pa_nil))) pe_int (nomark _)) (pe_callO O__law_near (hr.mono (by decide)) (by rfl) (pa_cons (pv 0) (pa_cons (pe_callO O__law_one (hr.mono (by decide)) (by rfl) (pa_cons (pv 0) (pa_cons (pv 1) pa_nil))) pa_nil))) (pe_callO O__law_term (hr.mono (by decide)) (by rfl) (pa_cons (pv 0) (pa_cons pe_int (pa_cons pe_int pa_nil))))) pa_nil)))))
      (pss_cons (ps_for PassesOwn.never rfl (pi_list (pv 1)) (pg_name (i := 3) sc__law_right.nd rfl (Or.inl rfl))
      (pss_one (ps_for PassesOwn.never rfl (pi_list (pv 1)) (pg_name (i := 4) sc__law_right.nd rfl (Or.inl rfl))
      (pss_one (ps_if (PW.pt (pw_or (pt_cmpR op_ne (pe_callO O_compare_terms (hr.mono (by decide)) (by rfl) (pa_cons (pv 3) (pa_cons (pv 4) pa_nil))) (pe_callO O__law_order (hr.mono (by decide)) (by rfl) (pa_cons (pv 3) (pa_cons (pv 4) pa_nil))) (nomark _)) (pw_or1 (pt_cmpR op_ne (pe_cmpR op_eq (pe_callO O__law_order (hr.mono (by decide)) (by rfl) (pa_cons (pv 3) (pa_cons (pv 4) pa_nil))) pe_int (nomark _)) (pe_cmpR (op_eqM hr.units) (pv 3) (pv 4) (nomark _)) (nomark _)))))
        (pss_one (ps_ret pe_bl))
        pss_nil)))))
      (pss_cons (ps_set (i := 5) sc__law_right.nd rfl (Or.inl rfl) (pe_callO O_sort_terms (hr.mono (by decide)) (by rfl) (pa_cons (pv 1) pa_nil)))
      (pss_cons (ps_set (i := 6) sc__law_right.nd rfl (Or.inl rfl) (pe_callTy call_list_of (by rfl) B.b_list (by decide +kernel) (pa_cons (pv 1) pa_nil)))
      (pss_cons (ps_for PassesOwn.never rfl (RZ.pi_zipA (by rfl) B.b_zip (pa_cons (pv 5) (pa_cons (pe_op op_cat (pe_slice sl_list (pv 5) (po_some pe_int) po_none) (pe_slice sl_list (pv 5) (po_some (pe_un un_neg pe_int)) po_none)) pa_nil))) (pg_tup rfl (pgs_cons (pg_name (i := 3) sc__law_right.nd rfl (Or.inl rfl)) (pgs_cons (pg_name (i := 4) sc__law_right.nd rfl (Or.inl rfl)) pgs_nil)))
      (pss_cons (ps_if (PW.pt (pw_or (pt_cmpR (op_notInD hr.units) (pv 3) (pv 6) rfl) (pw_or1 (pt_cmpR op_gt (pe_callO O__law_order (hr.mono (by decide)) (by rfl) (pa_cons (pv 3) (pa_cons (pv 4) pa_nil))) pe_int (nomark _)))))
        (pss_one (ps_ret pe_bl))
        pss_nil)
      (pss_one (ps_expr (pe_bm PySem.F.plainAttrs_list PySem.F.slot_list_remove PySem.F.type_list_remove (mt_removeD hr.units) (pv 6) (pa_cons (pv 3) pa_nil))))))
      (pss_cons (ps_set (i := 7) sc__law_right.nd rfl (Or.inl rfl) (pe_callO O_sort_terms (hr.mono (by decide)) (by rfl) (pa_cons (pe_callTy call_tuple_of (by rfl) B.b_tuple (by decide +kernel) (pa_cons (pe_revL (pv 1)) pa_nil)) pa_nil)))
      (pss_cons (ps_expr (pe_bm PySem.F.plainAttrs_list PySem.F.slot_list_append PySem.F.type_list_append mt_append (pv 5) (pa_cons pe_non pa_nil)))
      (pss_one (ps_ret (pe_and (pe_cmpR (op_eqM hr.units) (pv 6) (pe_lst pa_nil) (nomark _)) (pe_and (pe_cmpR (op_eqM hr.units) (pv 7) (pe_slice sl_list (pv 5) po_none (po_some (pe_un un_neg pe_int))) (nomark _)) (pe_one (pe_cmpR (op_eqM hr.units) (pv 7) (pe_callO O_sort_terms (hr.mono (by decide)) (by rfl) (pa_cons (pe_slice sl_list (pv 5) po_none (po_some (pe_un un_neg pe_int))) pa_nil)) (nomark _))))))))))))))), ?_⟩
    walk_at "rd"
    refine ⟨wl, 4, by decide, rfl, hw, by decide, by decide, fun H1 v t hwt htp htd dt s1 w1 => ⟨(by show 1 ≤ sizeLine; decide), fun L nL => ?_⟩⟩
    have e2 : upd H1 L (.lst [v]) L = some (.lst [v]) := upd_same
    have w2 := w1.same (same_upd (o := .lst [v]) nL)
    have d2 := Dp.same (same_upd (o := .lst [v]) nL) _ _ dt
    have s2 : Sm (Mw wl) H (upd H1 L (.lst [v])) := s1.trans (Sm.of (same_upd nL))
    have Lw : L ≠ wl := by obtain ⟨_, _, _, e⟩ := w1; exact (ne_of_none e nL).symm
    have nHL : ∀ b o, ¬ Mw wl b → H b = some o → b ≠ L := fun b o nb e => ne_of_none (s1 b o nb e) nL
    generalize upd H1 L (.lst [v]) = H2 at e2 w2 d2 s2 ⊢
    refine tfor_of ?_
    dsimp only [iRng1]
    walk_at "rd"
    refine ⟨wl, 9, rfl, w2, by decide, by decide, fun H3 m m0 m1 s3 w3 => ⟨m, rfl, by omega, by omega, ?_⟩⟩
    have e3 : H3 L = some (.lst [v]) := s3 _ _ Lw e2
    refine for_r (n := m.toNat) (fun i σ H4 => ∃ z2 us ts, σ = [some (.ref wl), some (.ref L), z2, none, none, none, none, none] ∧ Sm (Mw wl) H H4 ∧ Well H4 wl ∧ H4 L = some (.lst us) ∧ Dens K H4 us ts ∧ wfs ts ∧ ts.length = i + 1 ∧ ∀ t ∈ ts, depth t ≤ 4 + i ∧ (parts t).length ≤ 39 + 9 * i)
      ⟨none, [v], [t], rfl, s2.trans s3, w3, e3, .cons (Dp.tk (w2.tk s3) _ _ (noL_toD t) d2) .nil, ⟨hwt, trivial⟩, rfl, ?_⟩ ?_ ?_
    · intro u hu
      rw [List.mem_singleton.mp hu]
      exact ⟨by omega, htp⟩
    · rintro i σ H4 hi ⟨z2, us, ts, rfl, s4, w4, e4, du, wts, hlen, hb⟩
      have him : i < 9 := by omega
      have fin : ∀ H5 x tx, Sm (Mw wl) H4 H5 → Well H5 wl → Den K H5 x tx → wf tx → depth tx ≤ 4 + (i + 1) → (parts tx).length ≤ 39 + 9 * (i + 1) → rAppend (.ref L) [x] H5 fun _ H6 => ∃ z2, [some (V.ref wl), some (V.ref L), some (V.int (0 + (i : Nat))), none, none, none, none, none] = [some (V.ref wl), some (V.ref L), z2, none, none, none, none, none] ∧ Sm (Mw wl) H H6 ∧ Well H6 wl ∧
          ∃ us, H6 L = some (.lst us) ∧ ∃ ts, Dens K H6 us ts ∧ wfs ts ∧ ts.length = i + 1 + 1 ∧ ∀ t ∈ ts, depth t ≤ 4 + (i + 1) ∧ (parts t).length ≤ 39 + 9 * (i + 1) := by
        intro H5 x tx s5 w5 dx wx hdx hpx
        have e5 : H5 L = some (.lst us) := s5 _ _ Lw e4
        have tkL : Tk H5 (upd H5 L (.lst (us ++ [x]))) := Tk.upd fun u e => by rw [e5] at e; cases e; exact fun f => f
        have hul := dens_len du
        refine appR e5 (Nat.lt_of_le_of_lt (show us.length ≤ 100 by omega) (by decide)) ⟨_, rfl, fun b o nb e => ?_, ?_, us ++ [x], upd_same, ts ++ [tx], ?_, wfs_append.mpr ⟨wts, wx, trivial⟩, by simp [hlen], ?_⟩
        · rw [upd_ne (nHL b o nb e)]
          exact s5 _ _ nb (s4 _ _ nb e)
        · obtain ⟨xa, ya, za, e⟩ := w5
          exact ⟨xa, ya, za, by rw [upd_ne Lw.symm]; exact e⟩
        · exact DpAll.tk tkL _ _ (noLs_toDs _) (dens_app (DpAll.tk (w4.tk s5) _ _ (noLs_toDs _) du) (.cons dx .nil))
        · intro t ht
          rcases List.mem_append.mp ht with h | h
          · have := hb t h
            omega
          · rw [List.mem_singleton.mp h]
            exact ⟨hdx, hpx⟩
      walk_at "rd"
      refine ⟨tyL e4, wl, 4, rfl, w4, by decide, by decide, fun H5 c c0 c1 s5 w5 => ⟨_, rfl, ite2 (fun _ => ?_) (fun _ => ?_)⟩⟩
      · have e5 : H5 L = some (.lst us) := s5 _ _ Lw e4
        have hul := dens_len du
        refine ⟨wl, L, us, rfl, w5, SqL.of e5, Lw, ?_, by omega, fun H6 x hx s6 w6 => ?_⟩
        · intro z
          rw [z] at hul
          simp at hul
          omega
        obtain ⟨j, hj⟩ := List.getElem?_of_mem hx
        obtain ⟨tx, htx, dx⟩ := dens_get du hj
        have hmem := List.mem_of_getElem? htx
        have hbx := hb tx hmem
        refine ⟨wl, x, tx, rfl, w6, Dp.tk (w4.tk (s5.trans s6)) _ _ (noL_toD tx) dx, wfs_get wts htx, by omega, fun H7 u t' wt' hp' hd' du' s7 w7 => ?_⟩
        exact fin H7 u t' ((s5.trans s6).trans s7) w7 du' wt' (by omega) (by omega)
      · refine ⟨wl, 4, by decide, rfl, w5, by decide, by decide, fun H6 u t' wt' hp' hd' du' s6 w6 => ?_⟩
        have hp'' : (parts t').length ≤ 39 := hp'
        exact fin H6 u t' (s5.trans s6) w6 du' wt' (by omega) (by omega)
    · rintro σ H4 ⟨z2, us, ts, rfl, s4, w4, e4, du, wts, hlen, hb⟩
      have hb' : ∀ t ∈ ts, depth t ≤ 12 ∧ (parts t).length ≤ 111 := fun t ht => by
        have := hb t ht
        omega
      have hul := dens_len du
      have hul9 : ts.length ≤ 9 := by omega
      have hpos : 0 < ts.length := by omega
      clear hb hlen
      walk_at "rd"
      refine tfor_of ⟨_, rfl, L, rfl, ⟨_, SqL.of e4⟩, for_l (xs := us) (fun i σ H5 => ∃ z3 z4, σ = [some (.ref wl), some (.ref L), z2, z3, z4, none, none, none] ∧ Same H4 H5) ⟨none, none, rfl, Same.refl _⟩ (fun i σ H5 _ ⟨_, _, _, s5⟩ => s5.seq (SqL.of e4)) ?_ ?_⟩
      · rintro i x σ H5 hi ⟨z3, z4, rfl, s5⟩
        obtain ⟨tx, htx, dx⟩ := dens_get du hi
        have bx := hb' tx (List.mem_of_getElem? htx)
        have wx := wfs_get wts htx
        walk_at "rd"
        refine tfor_of ⟨_, rfl, L, rfl, ⟨_, s5.seq (SqL.of e4)⟩, for_l (xs := us) (fun i σ H6 => ∃ z4, σ = [some (.ref wl), some (.ref L), z2, some x, z4, none, none, none] ∧ Same H4 H6) ⟨z4, rfl, s5⟩ (fun i σ H6 _ ⟨_, _, s6⟩ => s6.seq (SqL.of e4)) ?_ ?_⟩
        · rintro j y σ H6 hj ⟨z4, rfl, s6⟩
          obtain ⟨ty, hty, dy⟩ := dens_get du hj
          have bY := hb' ty (List.mem_of_getElem? hty)
          have wy := wfs_get wts hty
          have dx6 := Dp.same s6 _ _ dx
          have dy6 := Dp.same s6 _ _ dy
          walk_at "rd"
          refine ⟨x, y, tx, ty, rfl, dx6, dy6, wx, wy, by omega, by omega, fun H7 s7 => ⟨x, y, tx, ty, rfl, Dp.same s7 _ _ dx6, Dp.same s7 _ _ dy6, wx, wy, by omega, by omega, by omega, fun H8 s8 => neI ⟨_, rfl, ?_⟩⟩⟩
          rw [cmp_ord, show (!decide (ordT tx ty = ordT tx ty)) = false by simp]
          have S8 := s7.trans s8
          refine iteF ⟨x, y, tx, ty, rfl, Dp.same S8 _ _ dx6, Dp.same S8 _ _ dy6, wx, wy, by omega, by omega, by omega, fun H9 s9 => eqI ?_⟩
          have S9 := S8.trans s9
          refine ⟨_, _, Dp.same S9 _ _ dx6, Dp.same S9 _ _ dy6, canLay_toD _ wx, canLay_toD _ wy, by have := depth_toD tx; omega, ?_⟩
          have he : PyData.eqv (toD tx) (toD ty) = decide (ordT tx ty = 0) := by
            by_cases h : tx = ty
            · rw [(eqv_toD tx ty).mpr h, decide_eq_true ((ord_iff tx ty).mpr h)]
            · rw [decide_eq_false (fun z => h ((ord_iff tx ty).mp z))]
              cases hh : PyData.eqv (toD tx) (toD ty)
              · rfl
              · exact absurd ((eqv_toD tx ty).mp hh) h
          rw [he]
          refine neB ⟨_, rfl, ?_⟩
          rw [show (!decide (decide (ordT tx ty = 0) = decide (ordT tx ty = 0))) = false by simp]
          exact iteF ⟨_, rfl, s6.trans S9⟩
        · rintro σ H6 ⟨z4, rfl, s6⟩
          walk_at "rd"
          exact ⟨_, _, rfl, s6⟩
      · rintro σ H5 ⟨z3, z4, rfl, s5⟩
        walk_at "rd"
        have hpl : (partsL ts).length ≤ 1000 := by
          have := partsL_le (n := 111) fun t ht => (hb' t ht).2
          have h9 : ts.length * 111 ≤ 9 * 111 := Nat.mul_le_mul_right _ hul9
          omega
        refine ⟨L, us, ts, rfl, .inl (s5.seq (SqL.of e4)), DpAll.same s5 _ _ du, wts, by omega, fun H6 F ys s6 nF eF dF => ⟨L, rfl, us, .inl ((s5.trans s6).seq (SqL.of e4)), fun Lf nLf => ?_⟩⟩
        have S7 := same_upd (o := .lst us) nLf
        have eLf : upd H6 Lf (.lst us) Lf = some (.lst us) := upd_same
        have eF7 : upd H6 Lf (.lst us) F = some (.lst ys) := S7 _ _ eF
        have FLf : F ≠ Lf := ne_of_none eF nLf
        have s47 : Same H4 (upd H6 Lf (.lst us)) := (s5.trans s6).trans S7
        have dF7 := DpAll.same S7 _ _ dF
        generalize upd H6 Lf (.lst us) = H7 at S7 eLf eF7 s47 dF7 ⊢
        have hperm := sort_perm ts
        have hsl : (sortT ts).length = ts.length := hperm.length_eq
        have hyl := dens_len dF7
        have wss : wfs (sortT ts) := wfs_of fun t ht => wfs_mem wts (hperm.mem_iff.mp ht)
        have bss : ∀ t ∈ sortT ts, depth t ≤ 12 ∧ (parts t).length ≤ 111 := fun t ht => hb' t (hperm.mem_iff.mp ht)
        refine tfor_of ?_
        dsimp only [iZipA]
        walk_at "rd"
        have hy0 : 0 < ys.length := by omega
        refine ⟨F, ys, rfl, SqL.of eF7, fun g1 n1 => ?_⟩
        rw [cutFrom1 ys hy0]
        have G1 := same_upd (o := .lst (ys.drop 1)) n1
        refine ⟨F, ys, rfl, G1.seq (SqL.of eF7), fun g2 n2 => ?_⟩
        rw [cutM1 ys hy0]
        have G2 := same_upd (o := .lst (ys.drop (ys.length - 1))) n2
        refine ⟨g1, g2, _, _, rfl, rfl, G2 _ _ upd_same, upd_same, Nat.le_trans (show _ ≤ 100 by simp only [List.length_drop]; omega) (by decide), fun Gp nG => ?_⟩
        have G3 := same_upd (o := .lst (ys.drop 1 ++ ys.drop (ys.length - 1))) nG
        have S78 := G1.trans (G2.trans G3)
        have eG : upd (upd (upd H7 g1 (.lst (ys.drop 1))) g2 (.lst (ys.drop (ys.length - 1)))) Gp (.lst (ys.drop 1 ++ ys.drop (ys.length - 1))) Gp = some (.lst (ys.drop 1 ++ ys.drop (ys.length - 1))) := upd_same
        have nGL : Gp ≠ Lf := (ne_of_none (G2 _ _ (G1 _ _ eLf)) nG).symm
        generalize upd (upd (upd H7 g1 (.lst (ys.drop 1))) g2 (.lst (ys.drop (ys.length - 1)))) Gp (.lst (ys.drop 1 ++ ys.drop (ys.length - 1))) = H8 at S78 eG ⊢
        have eF8 := S78 _ _ eF7
        have eL8 := S78 _ _ eLf
        have dF8 := DpAll.same S78 _ _ dF7
        have dG8 : Dens K H8 (ys.drop 1 ++ ys.drop (ys.length - 1)) ((sortT ts).drop 1 ++ (sortT ts).drop ((sortT ts).length - 1)) := by
          rw [hyl]
          exact dens_app (dens_drop dF8 1) (dens_drop dF8 _)
        refine ⟨F, Gp, rfl, ys, _, .inl ⟨SqL.of eF8, SqL.of eG, ?_⟩⟩
        refine for_zipL (xs := ys) (ys := ys.drop 1 ++ ys.drop (ys.length - 1)) (by simp only [List.length_append, List.length_drop]; omega) (fun i σ H9 => ∃ z3 z4 ls lts, σ = [some (.ref wl), some (.ref L), z2, z3, z4, some (.ref F), some (.ref Lf), none] ∧ Sm (· = Lf) H8 H9 ∧ H9 Lf = some (.lst ls) ∧ Dens K H9 ls lts ∧ lts.Perm ((sortT ts).drop i))
          ⟨z3, z4, us, ts, rfl, Sm.refl _, eL8, DpAll.same (s47.trans S78) _ _ du, hperm.symm⟩ (fun i σ H9 ⟨_, _, _, _, _, s9, _⟩ => ⟨SqL.of (s9 _ _ FLf eF8), SqL.of (s9 _ _ nGL eG)⟩) ?_ ?_
        · rintro i x y T σ H9 hx hy ⟨z3, z4, ls, lts, rfl, s9, e9, d9, hp9⟩ nT
          have tk9 : Tk H8 H9 := Tk.sm s9 fun b o m e => by rw [show b = Lf from m, eL8] at e; cases e; exact fun f => f
          obtain ⟨tx, htx, dx⟩ := dens_get dF8 hx
          obtain ⟨ty, hty, dy⟩ := dens_get dG8 hy
          have hi : i < (sortT ts).length := (List.getElem?_eq_some_iff.mp htx).1
          have hix : (sortT ts)[i] = tx := (List.getElem?_eq_some_iff.mp htx).2
          have bx := bss tx (List.mem_of_getElem? htx)
          have wx := wfs_get wss htx
          have hy2 : ty ∈ sortT ts ∧ ordT tx ty ≤ 0 := by
            rcases next_at hty hi with ⟨h2, e⟩ | ⟨_, e⟩
            · refine ⟨by rw [e]; exact List.getElem_mem h2, ?_⟩
              rw [e, ← hix]
              exact List.pairwise_iff_getElem.mp (sort_pw ts) i (i + 1) hi h2 (by omega)
            · refine ⟨by rw [e]; exact List.getElem_mem hi, ?_⟩
              rw [e, hix, ord_self]
              exact Int.le_refl 0
          have bY := bss ty hy2.1
          have wy := wfs_mem wss hy2.1
          have hmem : tx ∈ lts := by
            refine hp9.mem_iff.mpr ?_
            rw [List.drop_eq_getElem_cons hi, hix]
            exact List.mem_cons_self
          have wl9 : wfs lts := wfs_of fun t ht => wfs_mem wss (List.mem_of_mem_drop (hp9.mem_iff.mp ht))
          have sT := same_upd (o := .tup [x, y]) nT
          walk_at "rd"
          refine ⟨_, SqT.of upd_same, rfl, _, _, rfl, _, _, rfl, rfl, ?_⟩
          have e10 := sT _ _ e9
          have d10 := DpAll.same sT _ _ d9
          have dx10 : Den K _ x tx := Dp.same sT _ _ (Dp.tk tk9 _ _ (noL_toD tx) dx)
          have dy10 : Den K _ y ty := Dp.same sT _ _ (Dp.tk tk9 _ _ (noL_toD ty) dy)
          have hdd := depth_toD tx
          have nTL : Lf ≠ T := ne_of_none e9 nT
          generalize upd H9 T (.tup [x, y]) = H10 at sT e10 d10 dx10 dy10 ⊢
          refine ⟨toD tx, toDs lts, dx10, .lst (SqL.of e10) d10, canLay_toD _ wx, canLay_toDs _ wl9, by omega, ⟨_, rfl, ?_⟩⟩
          rw [any_eqv hmem]
          refine iteF ⟨x, y, tx, ty, rfl, dx10, dy10, wx, wy, by omega, by omega, by omega, fun H11 s11 => ⟨_, rfl, ?_⟩⟩
          rw [decide_eq_false (by omega)]
          obtain ⟨j, hj1, hj2⟩ := find_eqv hmem
          have e11 := s11 _ _ e10
          have d11 := DpAll.same s11 _ _ d10
          refine iteF ⟨tyL e11, Lf, ls, x, toD tx, toDs lts, j, rfl, rfl, e11, d11, Dp.same s11 _ _ dx10, canLay_toD _ wx, canLay_toDs _ wl9, by omega, hj1, ?_⟩
          have tkL : Tk H11 (upd H11 Lf (.lst (ls.eraseIdx j))) := Tk.upd fun u e => by rw [e11] at e; cases e; exact fun f => f
          have hpe : (lts.eraseIdx j).Perm ((sortT ts).drop (i + 1)) := by
            have h1 := perm_erase hj2
            have h2 := h1.symm.trans hp9
            rw [List.drop_eq_getElem_cons hi, hix] at h2
            exact h2.cons_inv
          refine ⟨_, _, rfl, ?_, ls.eraseIdx j, upd_same, lts.eraseIdx j, DpAll.tk tkL _ _ (noLs_toDs _) (dens_erase d11 j), hpe⟩
          exact (s9.trans (Sm.of (sT.trans s11))).at rfl
        · rintro σ H9 ⟨z3, z4, ls, lts, rfl, s9, e9, d9, hp9⟩
          walk_at "rd"
          have LLf : L ≠ Lf := ne_of_none ((s5.trans s6) _ _ e4) nLf
          have tk9 : Tk H8 H9 := Tk.sm s9 fun b o m e => by rw [show b = Lf from m, eL8] at e; cases e; exact fun f => f
          have eL9 : H9 L = some (.lst us) := s9 _ _ LLf ((s47.trans S78) _ _ e4)
          have eF9 : H9 F = some (.lst ys) := s9 _ _ FLf eF8
          have dF9 := DpAll.tk tk9 _ _ (noLs_toDs _) dF8
          have du9 := DpAll.tk ((Tk.of (s47.trans S78)).trans tk9) _ _ (noLs_toDs _) du
          have hl0 : lts = [] := by
            rw [List.drop_of_length_le (by omega)] at hp9
            exact hp9.eq_nil
          subst hl0
          have hls0 : ls = [] := by cases d9; rfl
          subst hls0
          refine ⟨us, SqL.of eL9, fun p np => ⟨p, rfl, us.reverse, .inl ⟨SqL.of upd_same, fun l nl => ?_⟩⟩⟩
          have Sl := (same_upd (o := .lst us.reverse) np).trans (same_upd (o := .tup us.reverse) nl)
          refine ⟨l, us.reverse, ts.reverse, rfl, .inr (SqT.of upd_same), dens_rev (DpAll.same Sl _ _ du9), wfs_reverse wts, ?_, fun H12 Bk bs s12 nB eB dB => ?_⟩
          · have := partsL_le (n := 111) (ts := ts.reverse) fun t ht => (hb' t (List.mem_reverse.mp ht)).2
            rw [List.length_reverse] at this
            have h9 : ts.length * 111 ≤ 9 * 111 := Nat.mul_le_mul_right _ hul9
            omega
          rw [sort_of_perm (List.reverse_perm ts)] at dB
          have S12 := Sl.trans s12
          have eF12 := S12 _ _ eF9
          have eLf12 := S12 _ _ e9
          have dF12 := DpAll.same S12 _ _ dF9
          refine ⟨tyL eF12, appR eF12 (Nat.lt_of_le_of_lt (show ys.length ≤ 100 by omega) (by decide)) ⟨Nat.zero_le _, fun p3 np3 => ?_⟩⟩
          have tkF : Tk H12 (upd H12 F (.lst (ys ++ [.non]))) := Tk.upd fun u e => by rw [eF12] at e; cases e; exact fun f => f
          have FB : Bk ≠ F := fun z => by rw [z, Sl _ _ eF9] at nB; cases nB
          have eB13 : upd H12 F (.lst (ys ++ [.non])) Bk = some (.lst bs) := by rw [upd_ne FB]; exact eB
          have eLf13 : upd H12 F (.lst (ys ++ [.non])) Lf = some (.lst []) := by rw [upd_ne FLf.symm]; exact eLf12
          have eF13 : upd H12 F (.lst (ys ++ [.non])) F = some (.lst (ys ++ [.non])) := upd_same
          have dB13 := DpAll.tk tkF _ _ (noLs_toDs _) dB
          have dF13 := DpAll.tk tkF _ _ (noLs_toDs _) dF12
          have SmF : Sm (· = F) H12 (upd H12 F (.lst (ys ++ [.non]))) := (Sm.refl _).at rfl
          generalize upd H12 F (.lst (ys ++ [.non])) = H13 at *
          have hds : depthL (sortT ts) ≤ 60 := depthL_le fun t ht => Nat.le_trans (bss t ht).1 (by decide)
          have S14 := same_upd (o := .lst []) np3
          refine ⟨.list [], .list [], .lst (SqL.of (S14 _ _ eLf13)) .nil, .lst (SqL.of upd_same) .nil, rfl, rfl, by decide, ⟨_, rfl, iteT ?_⟩⟩
          generalize upd H13 p3 (.lst []) = H14 at S14 ⊢
          refine ⟨F, _, rfl, SqL.of (S14 _ _ eF13), fun p4 np4 => ?_⟩
          rw [cutTo1]
          have S15 := S14.trans (same_upd (o := .lst ys) np4)
          refine eqTerms (S15 _ _ eB13) upd_same (DpAll.same S15 _ _ dB13) (DpAll.same S15 _ _ dF13) wss hds ⟨_, rfl, iteT ?_⟩
          generalize upd H14 p4 (.lst ys) = H15 at S15 ⊢
          refine ⟨F, _, rfl, SqL.of (S15 _ _ eF13), fun p5 np5 => ?_⟩
          rw [cutTo1]
          have S16 := S15.trans (same_upd (o := .lst ys) np5)
          refine ⟨p5, ys, sortT ts, rfl, .inl (SqL.of upd_same), DpAll.same S16 _ _ dF13, wss, ?_, fun H17 p6 ws s17 n17 e17 d17 => ?_⟩
          · have := partsL_le (n := 111) fun t ht => (bss t ht).2
            have h9 : (sortT ts).length * 111 ≤ 9 * 111 := Nat.mul_le_mul_right _ (by omega)
            omega
          have S17 := S16.trans s17
          have hss : sortT (sortT ts) = sortT ts := sort_of_perm (sort_perm ts)
          rw [hss] at d17
          refine eqTerms (S17 _ _ eB13) e17 (DpAll.same S17 _ _ dB13) d17 wss hds ?_
          have keep : ∀ b o, H4 b = some o → H17 b = some o := fun b o e => by
            have b1 : b ≠ Lf := ne_of_none ((s5.trans s6) _ _ e) nLf
            have b2 : b ≠ F := ne_of_none (s5 _ _ e) nF
            exact S17 _ _ (SmF _ _ b2 (S12 _ _ (s9 _ _ b1 ((s47.trans S78) _ _ e))))
          refine q H17 (fun b o nb e => keep b o (s4 b o nb e)) ?_
          obtain ⟨xa, ya, za, e⟩ := w4
          exact ⟨xa, ya, za, keep _ _ e⟩
end
end K1

namespace K1
open PySem PySem.Spec PyProof.Rows L2 HM RZ
local macro_rules | `(tactic| walk_at "rd") => `(tactic| (dsimp only [tSeq, tNext, tRet, tRetN, tAsg, gName, gTup, gCons, gNil, gSub, tDrop, tIfS, tVar, tC, tOp, tUn, tTest, tB, tAnd, tOr, tNot, tAndV, tOrV, tNotV, tIf, tCB, tCons, tNil, tTup, tLst, tCall, tPar, tPar3, tAug, tSl, tPart, tNoPart, tBM, tBM0, tRevT, tRevL, tChain, sDPut, tDGet, tDGet1, tDGet2, tDNewK, tDNewT, tDIn, tDNotIn, tYes, wipe, cxOf, Cx.nox, Cx.wish, L2.start, rI0, rI, rU, ipI, List.length_cons, List.length_nil, List.map_cons, List.map_nil, List.replicate, List.cons_append, List.nil_append, List.append_nil, List.getElem?_cons_zero, List.getElem?_cons_succ, List.set_cons_zero, List.set_cons_succ, Nat.reduceAdd, Nat.reduceSub]; try simp only [List.map_cons, List.map_nil, List.append_nil, List.cons_append, List.nil_append, List.getElem?_cons_zero, List.getElem?_cons_succ, List.set_cons_zero, List.set_cons_succ, rIntI_eq, rIntB_eq, rAbs_eq, Option.some.injEq, V.int.injEq, V.bl.injEq, V.str.injEq, V.ref.injEq, exists_eq_left', exists_and_left, exists_eq', true_and, and_true, if_true, if_false, Bool.false_eq_true]))
local macro_rules | `(tactic| walk_at "r0") => `(tactic| (dsimp only [tSeq, tNext, tRet, tRetN, tAsg, gName, gTup, gCons, gNil, gSub, tDrop, tIfS, tVar, tC, tOp, tUn, tTest, tB, tAnd, tOr, tNot, tAndV, tOrV, tNotV, tIf, tCB, tCons, tNil, tCall, tPar, tPar3, tAug, tSl, tPart, tNoPart, tBM, tBM0, tRevT, tRevL, tChain, sDPut, tDGet, tDGet1, tDGet2, tDNewK, tDNewT, tDIn, tDNotIn, tYes, wipe, cxOf, Cx.nox, Cx.wish, L2.start, rI0, rI, rU, ipI, List.length_cons, List.length_nil, List.map_cons, List.map_nil, List.replicate, List.cons_append, List.nil_append, List.append_nil, List.getElem?_cons_zero, List.getElem?_cons_succ, List.set_cons_zero, List.set_cons_succ, Nat.reduceAdd, Nat.reduceSub]; try simp only [List.map_cons, List.map_nil, List.append_nil, List.cons_append, List.nil_append, List.getElem?_cons_zero, List.getElem?_cons_succ, List.set_cons_zero, List.set_cons_succ, rIntI_eq, rIntB_eq, rAbs_eq, Option.some.injEq, V.int.injEq, V.bl.injEq, V.str.injEq, V.ref.injEq, exists_eq_left', exists_and_left, exists_eq', true_and, and_true, if_true, if_false, Bool.false_eq_true]))
local macro_rules | `(tactic| walk_at "evd") => `(tactic| repeat (first | exact evds_nil | exact evd_int | exact evd_str | exact evd_bl | exact evd_non | exact evd_neg | apply evds_cons | apply evd_tup | apply evd_lst | (simp only [List.length_cons, List.length_nil]; omega)))
section
variable {P : Program} {w : World} {K : PySem.W.Frag} {mg : Str → Option Value} {base : Heap}
def sp_law (K : PySem.W.Frag) (n : Nat) : Sp := fun vs H Q _ => ∃ (a : Addr) (ns : List Int), vs = [.ref a] ∧ ns.length ≤ n ∧ SqL K H a (ns.map V.int) ∧ ∀ H', Q (.bl true) H'
theorem ok_law (B : Bf K mg) (n : Nat) (G : Gd K mg "law" s_law) (O_sort_terms : Okf P w K mg base "sort_terms" 6 ["terms"] [] (sp_sort_terms K)) (O__law_right : Okf P w K mg base "_law_right" 19 ["_law_well_here"] [] (sp_right K)) (O__law_well : Okf P w K mg base "_law_well" 1 ["_law_cell"] [] (sp_well K)) (O__law_cell_at : Okf P w K mg base "_law_cell_at" 1 ["_law_script", "_law_k"] [] (sp_cell_at K)) :
    Okf P w K mg base "law" 20 ["_law_script"] [] (sp_law K n) := by
  refine okf_mk G sc_law (fun _ _ _ _ _ _ us hl => match us, hl with | [_], _ => rfl) (fun vs H Q E h => ?_) (fun cdv A outer s H vs Q E hr h => ?_)
  · obtain ⟨wl, ns, rfl, _⟩ := h
    rfl
  · obtain ⟨a, ns, rfl, hl, hs, q⟩ := h
    refine ⟨_, (pss_cons (ps_if (PW.pt (pw_or (pt_cmpR (op_neM hr.units) (pe_op op_cat (pe_callO O_sort_terms (hr.mono (by decide)) (by rfl) (pa_cons (pe_lst pa_nil) pa_nil)) (pe_callO O_sort_terms (hr.mono (by decide)) (by rfl) (pa_cons (pe_tup pa_nil) pa_nil))) (pe_lst pa_nil) (nomark _)) (pw_or1 (pt_cmpR (op_neM hr.units) (pe_callO O_sort_terms (hr.mono (by decide)) (by rfl) (pa_cons (pe_lst (pa_cons (pe_tup (pa_cons pe_int pa_nil)) pa_nil)) pa_nil)) (pe_lst (pa_cons (pe_tup (pa_cons pe_int pa_nil)) pa_nil)) (nomark _)))))
        (pss_one (ps_ret pe_bl))
        pss_nil)
      (pss_cons (ps_for PassesOwn.never rfl (pi_range1 (by rfl) B.b_range (pa_cons (pe_callB (call_max2 rfl) (by rfl) B.b_max (by decide +kernel) (pa_cons pe_int (pa_cons (pe_callB (call_min2 rfl) (by rfl) B.b_min (by decide +kernel) (pa_cons pe_int (pa_cons (pe_callB call_lenQ (by rfl) B.b_len (by decide +kernel) (pa_cons (pv 0) pa_nil)) pa_nil))) pa_nil))) pa_nil)) (pg_name (i := 1) sc_law.nd rfl (Or.inl rfl))
      (pss_one (ps_if (pt_not (pt_val (pe_callO O__law_right (hr.mono (by decide)) (by rfl) (pa_cons (pe_callO O__law_well (hr.mono (by decide)) (by rfl) (pa_cons (pe_callO O__law_cell_at (hr.mono (by decide)) (by rfl) (pa_cons (pv 0) (pa_cons (pv 1) pa_nil))) pa_nil)) pa_nil))))
        (pss_one (ps_ret pe_bl))
        pss_nil)))
      (pss_one (ps_ret pe_bl)))), ?_⟩
    walk_at "rd"
    refine ⟨Nat.zero_le _, fun p1 n1 => ⟨p1, [], [], rfl, .inl (SqL.of upd_same), .nil, trivial, Nat.zero_le _, fun H1 r1 ys1 s1 m1 e1 d1 => ⟨Nat.zero_le _, fun p2 n2 => ⟨p2, [], [], rfl, .inr (SqT.of upd_same), .nil, trivial, Nat.zero_le _, fun H2 r2 ys2 s2 m2 e2 d2 => ?_⟩⟩⟩⟩
    have S1 := (same_upd (o := .lst []) n1).trans s1
    have S2 := (same_upd (o := .tup []) n2).trans s2
    have h0 : sortT [] = [] := by simp [sortT]
    rw [h0] at d1 d2
    cases d1
    cases d2
    refine ⟨r1, r2, [], [], rfl, rfl, S2 _ _ e1, e2, Nat.zero_le _, fun p3 n3 => ⟨Nat.zero_le _, fun p4 n4 => ?_⟩⟩
    have S3 := (same_upd (o := .lst ([] ++ [])) n3).trans (same_upd (o := .lst []) n4)
    have e3 := (same_upd (o := .lst []) n4) _ _ (upd_same (H := H2) (a := p3) (o := .lst ([] ++ [])))
    refine ⟨.list [], .list [], .lst (SqL.of e3) .nil, .lst (SqL.of upd_same) .nil, rfl, rfl, by decide, ⟨_, rfl, iteF ?_⟩⟩
    have S123 := S1.trans (S2.trans S3)
    generalize upd (upd H2 p3 (.lst ([] ++ []))) p4 (.lst []) = H3 at S3 S123 ⊢
    refine ⟨(by show 1 ≤ sizeLine; decide), fun p5 n5 => ⟨(by show 1 ≤ sizeLine; decide), fun p6 n6 => ?_⟩⟩
    have S5 := (same_upd (o := .tup [.int 2]) n5).trans (same_upd (o := .lst [.ref p5]) n6)
    have e5 := (same_upd (o := .lst [.ref p5]) n6) _ _ (upd_same (H := H3) (a := p5) (o := .tup [.int 2]))
    have dv : Dens K (upd (upd H3 p5 (.tup [.int 2])) p6 (.lst [.ref p5])) [.ref p5] [.var 2] := .cons (mk_var (SqT.of e5)) .nil
    refine ⟨p6, [.ref p5], [.var 2], rfl, .inl (SqL.of upd_same), dv, ⟨trivial, trivial⟩, by decide, fun H4 r4 ys4 s4 m4 e4 d4 => ?_⟩
    refine ⟨(by show 1 ≤ sizeLine; decide), fun p7 n7 => ⟨(by show 1 ≤ sizeLine; decide), fun p8 n8 => ?_⟩⟩
    have S7 := (same_upd (o := .tup [.int 2]) n7).trans (same_upd (o := .lst [.ref p7]) n8)
    have e7 := (same_upd (o := .lst [.ref p7]) n8) _ _ (upd_same (H := H4) (a := p7) (o := .tup [.int 2]))
    have hst : sortT [.var 2] = [.var 2] := by simp [sortT]
    rw [hst] at d4
    refine ⟨.list [.tuple [.int 2]], .list [.tuple [.int 2]], .lst (SqL.of (S7 _ _ e4)) (DpAll.same S7 _ _ d4), .lst (SqL.of upd_same) (.cons (.tup (SqT.of e7) (.cons (.int 2) .nil)) .nil), rfl, rfl, by decide, ⟨_, rfl, iteF ?_⟩⟩
    have SH := S123.trans ((S5.trans s4).trans S7)
    generalize upd (upd H4 p7 (.tup [.int 2])) p8 (.lst [.ref p7]) = H5 at SH ⊢
    refine tfor_of ?_
    dsimp only [iRng1]
    walk_at "rd"
    refine lenL (SH.seq hs) ⟨8, _, rfl, 1, _, rfl, _, rfl, ?_, ?_, ?_⟩
    · split <;> split <;> omega
    · split <;> split <;> omega
    generalize (Int.toNat _) = m
    refine for_r (n := m) (fun i σ H7 => ∃ z, σ = [some (.ref a), z] ∧ SqL K H7 a (ns.map V.int)) ⟨none, rfl, SH.seq hs⟩ ?_ ?_
    · rintro i σ H7 hi ⟨z, rfl, h7⟩
      walk_at "rd"
      refine ⟨a, ns, i, by simp, h7, fun c => ⟨c, rfl, fun H8 wl s8 n8 w8 => ⟨wl, rfl, w8, fun H9 s9 w9 => ⟨_, rfl, iteF ⟨_, rfl, ?_⟩⟩⟩⟩⟩
      rcases h7 with (h | ⟨o, h⟩) | h
      · exact .inl (.inl (s9 _ _ (fun z => (ne_of_none h n8) z) (s8 _ _ h)))
      · exact .inl (.inr ⟨o, s9 _ _ (fun z => (ne_of_none h n8) z) (s8 _ _ h)⟩)
      · exact .inr h
    · rintro σ H7 ⟨z, rfl, h7⟩
      exact q H7
end
end K1

namespace K1
open PySem PySem.Spec PyProof.Rows L2 HM
theorem valsI {t : Tok} : Vals [.int 0] [.int 0 t] := .cons ⟨_, rfl⟩ .nil
theorem all_mk {l : PySem.W.OpenLaw} {w : World} {K : PySem.W.Frag} {h : Heap} {mg : Str → Option Value} {fa : Addr} (X : K.In h) (G : h.Ns mainGlobals mg) (hfa : mg "law" = some (.ref fa))
    {f0 : Addr} {od0 an0 : Option Addr} {sl0 : Array (Option Value)} {oc0 kV0 dc0 pm0 cd0 ct0 : Value}
    {f1 : Addr} {od1 an1 : Option Addr} {sl1 : Array (Option Value)} {oc1 kV1 dc1 pm1 cd1 ct1 : Value}
    {f2 : Addr} {od2 an2 : Option Addr} {sl2 : Array (Option Value)} {oc2 kV2 dc2 pm2 cd2 ct2 : Value}
    {f3 : Addr} {od3 an3 : Option Addr} {sl3 : Array (Option Value)} {oc3 kV3 dc3 pm3 cd3 ct3 : Value}
    {f4 : Addr} {od4 an4 : Option Addr} {sl4 : Array (Option Value)} {oc4 kV4 dc4 pm4 cd4 ct4 : Value}
    {f5 : Addr} {od5 an5 : Option Addr} {sl5 : Array (Option Value)} {oc5 kV5 dc5 pm5 cd5 ct5 : Value}
    {f6 : Addr} {od6 an6 : Option Addr} {sl6 : Array (Option Value)} {oc6 kV6 dc6 pm6 cd6 ct6 : Value}
    {f7 : Addr} {od7 an7 : Option Addr} {sl7 : Array (Option Value)} {oc7 kV7 dc7 pm7 cd7 ct7 : Value}
    {f8 : Addr} {od8 an8 : Option Addr} {sl8 : Array (Option Value)} {oc8 kV8 dc8 pm8 cd8 ct8 : Value}
    {f9 : Addr} {od9 an9 : Option Addr} {sl9 : Array (Option Value)} {oc9 kV9 dc9 pm9 cd9 ct9 : Value}
    {f10 : Addr} {od10 an10 : Option Addr} {sl10 : Array (Option Value)} {oc10 kV10 dc10 pm10 cd10 ct10 : Value}
    {f11 : Addr} {od11 an11 : Option Addr} {sl11 : Array (Option Value)} {oc11 kV11 dc11 pm11 cd11 ct11 : Value}
    {f12 : Addr} {od12 an12 : Option Addr} {sl12 : Array (Option Value)} {oc12 kV12 dc12 pm12 cd12 ct12 : Value}
    {f13 : Addr} {od13 an13 : Option Addr} {sl13 : Array (Option Value)} {oc13 kV13 dc13 pm13 cd13 ct13 : Value}
    {f14 : Addr} {od14 an14 : Option Addr} {sl14 : Array (Option Value)} {oc14 kV14 dc14 pm14 cd14 ct14 : Value}
    {f15 : Addr} {od15 an15 : Option Addr} {sl15 : Array (Option Value)} {oc15 kV15 dc15 pm15 cd15 ct15 : Value}
    {f16 : Addr} {od16 an16 : Option Addr} {sl16 : Array (Option Value)} {oc16 kV16 dc16 pm16 cd16 ct16 : Value}
    {f17 : Addr} {od17 an17 : Option Addr} {sl17 : Array (Option Value)} {oc17 kV17 dc17 pm17 cd17 ct17 : Value}
    {f18 : Addr} {od18 an18 : Option Addr} {sl18 : Array (Option Value)} {oc18 kV18 dc18 pm18 cd18 ct18 : Value}
    {f19 : Addr} {od19 an19 : Option Addr} {sl19 : Array (Option Value)} {oc19 kV19 dc19 pm19 cd19 ct19 : Value}
    {f20 : Addr} {od20 an20 : Option Addr} {sl20 : Array (Option Value)} {oc20 kV20 dc20 pm20 cd20 ct20 : Value}
    {f21 : Addr} {od21 an21 : Option Addr} {sl21 : Array (Option Value)} {oc21 kV21 dc21 pm21 cd21 ct21 : Value}
    {f22 : Addr} {od22 an22 : Option Addr} {sl22 : Array (Option Value)} {oc22 kV22 dc22 pm22 cd22 ct22 : Value}
    {tg_MOST_SIGNS : Tok}
    {tg_MOST_ARGUMENTS : Tok}
    {tg_TOO_GREAT : Tok}
    (a0 : PySem.W.nsIn K mainGlobals "is_int" = some (some (.ref f0))) (l0 : K.lookup f0 = some ⟨oc0, od0, .func (PySem.W.fnOf "is_int" "is_int" (defArgs s_is_int) (defBody s_is_int) (defScope s_is_int) .none kV0 dc0 pm0 an0 cd0 ct0), sl0⟩) (c0 : PySem.W.codeIn K cd0 "is_int" = true) (k0 : PySem.W.keepIn K (.ref f0) = true)
    (a1 : PySem.W.nsIn K mainGlobals "is_variable" = some (some (.ref f1))) (l1 : K.lookup f1 = some ⟨oc1, od1, .func (PySem.W.fnOf "is_variable" "is_variable" (defArgs s_is_variable) (defBody s_is_variable) (defScope s_is_variable) .none kV1 dc1 pm1 an1 cd1 ct1), sl1⟩) (c1 : PySem.W.codeIn K cd1 "is_variable" = true) (k1 : PySem.W.keepIn K (.ref f1) = true)
    (a2 : PySem.W.nsIn K mainGlobals "is_any_number" = some (some (.ref f2))) (l2 : K.lookup f2 = some ⟨oc2, od2, .func (PySem.W.fnOf "is_any_number" "is_any_number" (defArgs s_is_any_number) (defBody s_is_any_number) (defScope s_is_any_number) .none kV2 dc2 pm2 an2 cd2 ct2), sl2⟩) (c2 : PySem.W.codeIn K cd2 "is_any_number" = true) (k2 : PySem.W.keepIn K (.ref f2) = true)
    (a3 : PySem.W.nsIn K mainGlobals "is_any_atom" = some (some (.ref f3))) (l3 : K.lookup f3 = some ⟨oc3, od3, .func (PySem.W.fnOf "is_any_atom" "is_any_atom" (defArgs s_is_any_atom) (defBody s_is_any_atom) (defScope s_is_any_atom) .none kV3 dc3 pm3 an3 cd3 ct3), sl3⟩) (c3 : PySem.W.codeIn K cd3 "is_any_atom" = true) (k3 : PySem.W.keepIn K (.ref f3) = true)
    (a4 : PySem.W.nsIn K mainGlobals "is_compound" = some (some (.ref f4))) (l4 : K.lookup f4 = some ⟨oc4, od4, .func (PySem.W.fnOf "is_compound" "is_compound" (defArgs s_is_compound) (defBody s_is_compound) (defScope s_is_compound) .none kV4 dc4 pm4 an4 cd4 ct4), sl4⟩) (c4 : PySem.W.codeIn K cd4 "is_compound" = true) (k4 : PySem.W.keepIn K (.ref f4) = true)
    (a5 : PySem.W.nsIn K mainGlobals "is_term" = some (some (.ref f5))) (l5 : K.lookup f5 = some ⟨oc5, od5, .func (PySem.W.fnOf "is_term" "is_term" (defArgs s_is_term) (defBody s_is_term) (defScope s_is_term) .none kV5 dc5 pm5 an5 cd5 ct5), sl5⟩) (c5 : PySem.W.codeIn K cd5 "is_term" = true) (k5 : PySem.W.keepIn K (.ref f5) = true)
    (a6 : PySem.W.nsIn K mainGlobals "check_terms" = some (some (.ref f6))) (l6 : K.lookup f6 = some ⟨oc6, od6, .func (PySem.W.fnOf "check_terms" "check_terms" (defArgs s_check_terms) (defBody s_check_terms) (defScope s_check_terms) .none kV6 dc6 pm6 an6 cd6 ct6), sl6⟩) (c6 : PySem.W.codeIn K cd6 "check_terms" = true) (k6 : PySem.W.keepIn K (.ref f6) = true)
    (a7 : PySem.W.nsIn K mainGlobals "parts_of" = some (some (.ref f7))) (l7 : K.lookup f7 = some ⟨oc7, od7, .func (PySem.W.fnOf "parts_of" "parts_of" (defArgs s_parts_of) (defBody s_parts_of) (defScope s_parts_of) .none kV7 dc7 pm7 an7 cd7 ct7), sl7⟩) (c7 : PySem.W.codeIn K cd7 "parts_of" = true) (k7 : PySem.W.keepIn K (.ref f7) = true)
    (a8 : PySem.W.nsIn K mainGlobals "order_key" = some (some (.ref f8))) (l8 : K.lookup f8 = some ⟨oc8, od8, .func (PySem.W.fnOf "order_key" "order_key" (defArgs s_order_key) (defBody s_order_key) (defScope s_order_key) .none kV8 dc8 pm8 an8 cd8 ct8), sl8⟩) (c8 : PySem.W.codeIn K cd8 "order_key" = true) (k8 : PySem.W.keepIn K (.ref f8) = true)
    (a9 : PySem.W.nsIn K mainGlobals "compare_terms" = some (some (.ref f9))) (l9 : K.lookup f9 = some ⟨oc9, od9, .func (PySem.W.fnOf "compare_terms" "compare_terms" (defArgs s_compare_terms) (defBody s_compare_terms) (defScope s_compare_terms) .none kV9 dc9 pm9 an9 cd9 ct9), sl9⟩) (c9 : PySem.W.codeIn K cd9 "compare_terms" = true) (k9 : PySem.W.keepIn K (.ref f9) = true)
    (a10 : PySem.W.nsIn K mainGlobals "sort_terms" = some (some (.ref f10))) (l10 : K.lookup f10 = some ⟨oc10, od10, .func (PySem.W.fnOf "sort_terms" "sort_terms" (defArgs s_sort_terms) (defBody s_sort_terms) (defScope s_sort_terms) .none kV10 dc10 pm10 an10 cd10 ct10), sl10⟩) (c10 : PySem.W.codeIn K cd10 "sort_terms" = true) (k10 : PySem.W.keepIn K (.ref f10) = true)
    (a11 : PySem.W.nsIn K mainGlobals "_law_cell_at" = some (some (.ref f11))) (l11 : K.lookup f11 = some ⟨oc11, od11, .func (PySem.W.fnOf "_law_cell_at" "_law_cell_at" (defArgs s__law_cell_at) (defBody s__law_cell_at) (defScope s__law_cell_at) .none kV11 dc11 pm11 an11 cd11 ct11), sl11⟩) (c11 : PySem.W.codeIn K cd11 "_law_cell_at" = true) (k11 : PySem.W.keepIn K (.ref f11) = true)
    (a12 : PySem.W.nsIn K mainGlobals "_law_well" = some (some (.ref f12))) (l12 : K.lookup f12 = some ⟨oc12, od12, .func (PySem.W.fnOf "_law_well" "_law_well" (defArgs s__law_well) (defBody s__law_well) (defScope s__law_well) .none kV12 dc12 pm12 an12 cd12 ct12), sl12⟩) (c12 : PySem.W.codeIn K cd12 "_law_well" = true) (k12 : PySem.W.keepIn K (.ref f12) = true)
    (a13 : PySem.W.nsIn K mainGlobals "_law_draw" = some (some (.ref f13))) (l13 : K.lookup f13 = some ⟨oc13, od13, .func (PySem.W.fnOf "_law_draw" "_law_draw" (defArgs s__law_draw) (defBody s__law_draw) (defScope s__law_draw) .none kV13 dc13 pm13 an13 cd13 ct13), sl13⟩) (c13 : PySem.W.codeIn K cd13 "_law_draw" = true) (k13 : PySem.W.keepIn K (.ref f13) = true)
    (a14 : PySem.W.nsIn K mainGlobals "_law_one" = some (some (.ref f14))) (l14 : K.lookup f14 = some ⟨oc14, od14, .func (PySem.W.fnOf "_law_one" "_law_one" (defArgs s__law_one) (defBody s__law_one) (defScope s__law_one) .none kV14 dc14 pm14 an14 cd14 ct14), sl14⟩) (c14 : PySem.W.codeIn K cd14 "_law_one" = true) (k14 : PySem.W.keepIn K (.ref f14) = true)
    (a15 : PySem.W.nsIn K mainGlobals "_law_leaf" = some (some (.ref f15))) (l15 : K.lookup f15 = some ⟨oc15, od15, .func (PySem.W.fnOf "_law_leaf" "_law_leaf" (defArgs s__law_leaf) (defBody s__law_leaf) (defScope s__law_leaf) .none kV15 dc15 pm15 an15 cd15 ct15), sl15⟩) (c15 : PySem.W.codeIn K cd15 "_law_leaf" = true) (k15 : PySem.W.keepIn K (.ref f15) = true)
    (a16 : PySem.W.nsIn K mainGlobals "_law_term" = some (some (.ref f16))) (l16 : K.lookup f16 = some ⟨oc16, od16, .func (PySem.W.fnOf "_law_term" "_law_term" (defArgs s__law_term) (defBody s__law_term) (defScope s__law_term) .none kV16 dc16 pm16 an16 cd16 ct16), sl16⟩) (c16 : PySem.W.codeIn K cd16 "_law_term" = true) (k16 : PySem.W.keepIn K (.ref f16) = true)
    (a17 : PySem.W.nsIn K mainGlobals "_law_is_compound" = some (some (.ref f17))) (l17 : K.lookup f17 = some ⟨oc17, od17, .func (PySem.W.fnOf "_law_is_compound" "_law_is_compound" (defArgs s__law_is_compound) (defBody s__law_is_compound) (defScope s__law_is_compound) .none kV17 dc17 pm17 an17 cd17 ct17), sl17⟩) (c17 : PySem.W.codeIn K cd17 "_law_is_compound" = true) (k17 : PySem.W.keepIn K (.ref f17) = true)
    (a18 : PySem.W.nsIn K mainGlobals "_law_rank" = some (some (.ref f18))) (l18 : K.lookup f18 = some ⟨oc18, od18, .func (PySem.W.fnOf "_law_rank" "_law_rank" (defArgs s__law_rank) (defBody s__law_rank) (defScope s__law_rank) .none kV18 dc18 pm18 an18 cd18 ct18), sl18⟩) (c18 : PySem.W.codeIn K cd18 "_law_rank" = true) (k18 : PySem.W.keepIn K (.ref f18) = true)
    (a19 : PySem.W.nsIn K mainGlobals "_law_order" = some (some (.ref f19))) (l19 : K.lookup f19 = some ⟨oc19, od19, .func (PySem.W.fnOf "_law_order" "_law_order" (defArgs s__law_order) (defBody s__law_order) (defScope s__law_order) .none kV19 dc19 pm19 an19 cd19 ct19), sl19⟩) (c19 : PySem.W.codeIn K cd19 "_law_order" = true) (k19 : PySem.W.keepIn K (.ref f19) = true)
    (a20 : PySem.W.nsIn K mainGlobals "_law_near" = some (some (.ref f20))) (l20 : K.lookup f20 = some ⟨oc20, od20, .func (PySem.W.fnOf "_law_near" "_law_near" (defArgs s__law_near) (defBody s__law_near) (defScope s__law_near) .none kV20 dc20 pm20 an20 cd20 ct20), sl20⟩) (c20 : PySem.W.codeIn K cd20 "_law_near" = true) (k20 : PySem.W.keepIn K (.ref f20) = true)
    (a21 : PySem.W.nsIn K mainGlobals "_law_right" = some (some (.ref f21))) (l21 : K.lookup f21 = some ⟨oc21, od21, .func (PySem.W.fnOf "_law_right" "_law_right" (defArgs s__law_right) (defBody s__law_right) (defScope s__law_right) .none kV21 dc21 pm21 an21 cd21 ct21), sl21⟩) (c21 : PySem.W.codeIn K cd21 "_law_right" = true) (k21 : PySem.W.keepIn K (.ref f21) = true)
    (a22 : PySem.W.nsIn K mainGlobals "law" = some (some (.ref f22))) (l22 : K.lookup f22 = some ⟨oc22, od22, .func (PySem.W.fnOf "law" "law" (defArgs s_law) (defBody s_law) (defScope s_law) .none kV22 dc22 pm22 an22 cd22 ct22), sl22⟩) (c22 : PySem.W.codeIn K cd22 "law" = true) (k22 : PySem.W.keepIn K (.ref f22) = true)
    (z_isinstance : PySem.W.nsIn K mainGlobals "isinstance" = some none)
    (z_int : PySem.W.nsIn K mainGlobals "int" = some none)
    (z_bool : PySem.W.nsIn K mainGlobals "bool" = some none)
    (z_tuple : PySem.W.nsIn K mainGlobals "tuple" = some none)
    (z_len : PySem.W.nsIn K mainGlobals "len" = some none)
    (z_abs : PySem.W.nsIn K mainGlobals "abs" = some none)
    (z_all : PySem.W.nsIn K mainGlobals "all" = some none)
    (z_str : PySem.W.nsIn K mainGlobals "str" = some none)
    (z_ord : PySem.W.nsIn K mainGlobals "ord" = some none)
    (z_sorted : PySem.W.nsIn K mainGlobals "sorted" = some none)
    (z_list : PySem.W.nsIn K mainGlobals "list" = some none)
    (z_range : PySem.W.nsIn K mainGlobals "range" = some none)
    (z_dict : PySem.W.nsIn K mainGlobals "dict" = some none)
    (z_enumerate : PySem.W.nsIn K mainGlobals "enumerate" = some none)
    (z_zip : PySem.W.nsIn K mainGlobals "zip" = some none)
    (z_max : PySem.W.nsIn K mainGlobals "max" = some none)
    (z_min : PySem.W.nsIn K mainGlobals "min" = some none)
    (v_MOST_SIGNS : PySem.W.nsIn K mainGlobals "MOST_SIGNS" = some (some (.int 40 tg_MOST_SIGNS)))
    (v_MOST_ARGUMENTS : PySem.W.nsIn K mainGlobals "MOST_ARGUMENTS" = some (some (.int 8 tg_MOST_ARGUMENTS)))
    (v_TOO_GREAT : PySem.W.nsIn K mainGlobals "TOO_GREAT" = some (some (.int tooGreat tg_TOO_GREAT)))
    : ∃ fd : FuncData, (∀ (s : Shared) (v : Value), BindsTo s fd ⟨[v], []⟩ [("_law_script", v)]) ∧ ∀ base : Heap, K.In base → base.Ns mainGlobals mg → FnOk l.prog w K mg base CX0 20 fa fd ["_law_script"] (sp_law K 63) := by
  have e := hfa.symm.trans (PySem.W.mg_of X G a22)
  cases e
  have G_is_int : Gd K mg "is_int" s_is_int := ⟨_, _, fun_mk (st := s_is_int) l0 c0 k0, PySem.W.mg_of X G a0⟩
  have G_is_variable : Gd K mg "is_variable" s_is_variable := ⟨_, _, fun_mk (st := s_is_variable) l1 c1 k1, PySem.W.mg_of X G a1⟩
  have G_is_any_number : Gd K mg "is_any_number" s_is_any_number := ⟨_, _, fun_mk (st := s_is_any_number) l2 c2 k2, PySem.W.mg_of X G a2⟩
  have G_is_any_atom : Gd K mg "is_any_atom" s_is_any_atom := ⟨_, _, fun_mk (st := s_is_any_atom) l3 c3 k3, PySem.W.mg_of X G a3⟩
  have G_is_compound : Gd K mg "is_compound" s_is_compound := ⟨_, _, fun_mk (st := s_is_compound) l4 c4 k4, PySem.W.mg_of X G a4⟩
  have G_is_term : Gd K mg "is_term" s_is_term := ⟨_, _, fun_mk (st := s_is_term) l5 c5 k5, PySem.W.mg_of X G a5⟩
  have G_check_terms : Gd K mg "check_terms" s_check_terms := ⟨_, _, fun_mk (st := s_check_terms) l6 c6 k6, PySem.W.mg_of X G a6⟩
  have G_parts_of : Gd K mg "parts_of" s_parts_of := ⟨_, _, fun_mk (st := s_parts_of) l7 c7 k7, PySem.W.mg_of X G a7⟩
  have G_order_key : Gd K mg "order_key" s_order_key := ⟨_, _, fun_mk (st := s_order_key) l8 c8 k8, PySem.W.mg_of X G a8⟩
  have G_compare_terms : Gd K mg "compare_terms" s_compare_terms := ⟨_, _, fun_mk (st := s_compare_terms) l9 c9 k9, PySem.W.mg_of X G a9⟩
  have G_sort_terms : Gd K mg "sort_terms" s_sort_terms := ⟨_, _, fun_mk (st := s_sort_terms) l10 c10 k10, PySem.W.mg_of X G a10⟩
  have G__law_cell_at : Gd K mg "_law_cell_at" s__law_cell_at := ⟨_, _, fun_mk (st := s__law_cell_at) l11 c11 k11, PySem.W.mg_of X G a11⟩
  have G__law_well : Gd K mg "_law_well" s__law_well := ⟨_, _, fun_mk (st := s__law_well) l12 c12 k12, PySem.W.mg_of X G a12⟩
  have G__law_draw : Gd K mg "_law_draw" s__law_draw := ⟨_, _, fun_mk (st := s__law_draw) l13 c13 k13, PySem.W.mg_of X G a13⟩
  have G__law_one : Gd K mg "_law_one" s__law_one := ⟨_, _, fun_mk (st := s__law_one) l14 c14 k14, PySem.W.mg_of X G a14⟩
  have G__law_leaf : Gd K mg "_law_leaf" s__law_leaf := ⟨_, _, fun_mk (st := s__law_leaf) l15 c15 k15, PySem.W.mg_of X G a15⟩
  have G__law_term : Gd K mg "_law_term" s__law_term := ⟨_, _, fun_mk (st := s__law_term) l16 c16 k16, PySem.W.mg_of X G a16⟩
  have G__law_is_compound : Gd K mg "_law_is_compound" s__law_is_compound := ⟨_, _, fun_mk (st := s__law_is_compound) l17 c17 k17, PySem.W.mg_of X G a17⟩
  have G__law_rank : Gd K mg "_law_rank" s__law_rank := ⟨_, _, fun_mk (st := s__law_rank) l18 c18 k18, PySem.W.mg_of X G a18⟩
  have G__law_order : Gd K mg "_law_order" s__law_order := ⟨_, _, fun_mk (st := s__law_order) l19 c19 k19, PySem.W.mg_of X G a19⟩
  have G__law_near : Gd K mg "_law_near" s__law_near := ⟨_, _, fun_mk (st := s__law_near) l20 c20 k20, PySem.W.mg_of X G a20⟩
  have G__law_right : Gd K mg "_law_right" s__law_right := ⟨_, _, fun_mk (st := s__law_right) l21 c21 k21, PySem.W.mg_of X G a21⟩
  have G_law : Gd K mg "law" s_law := ⟨_, _, fun_mk (st := s_law) l22 c22 k22, PySem.W.mg_of X G a22⟩
  have B : Bf K mg := ⟨PySem.W.mg_none_of X G z_isinstance, PySem.W.mg_none_of X G z_int, PySem.W.mg_none_of X G z_bool, PySem.W.mg_none_of X G z_tuple, PySem.W.mg_none_of X G z_len, PySem.W.mg_none_of X G z_abs, PySem.W.mg_none_of X G z_all, PySem.W.mg_none_of X G z_str, PySem.W.mg_none_of X G z_ord, PySem.W.mg_none_of X G z_sorted, PySem.W.mg_none_of X G z_list, PySem.W.mg_none_of X G z_range, PySem.W.mg_none_of X G z_dict, PySem.W.mg_none_of X G z_enumerate, PySem.W.mg_none_of X G z_zip, PySem.W.mg_none_of X G z_max, PySem.W.mg_none_of X G z_min, ⟨_, PySem.W.mg_of X G v_MOST_SIGNS⟩, ⟨_, PySem.W.mg_of X G v_MOST_ARGUMENTS⟩, ⟨_, PySem.W.mg_of X G v_TOO_GREAT⟩⟩
  have main : ∀ base : Heap, Okf l.prog w K mg base "law" 20 ["_law_script"] [] (sp_law K 63) := by
    intro base
    have O_is_int := ok_is_int (P := l.prog) (w := w) (base := base) B G_is_int
    have O_is_compound := ok_is_compound (P := l.prog) (w := w) (base := base) B G_is_compound
    have O_is_variable := ok_is_variable (P := l.prog) (w := w) (base := base) B G_is_variable O_is_int
    have O_is_any_number := ok_is_any_number (P := l.prog) (w := w) (base := base) B G_is_any_number O_is_int
    have O_is_any_atom := ok_is_any_atom (P := l.prog) (w := w) (base := base) B G_is_any_atom
    have O_is_term := ok_is_term (P := l.prog) (w := w) (base := base) B G_is_term O_is_compound O_is_any_atom O_is_variable O_is_any_number
    have O_check_terms := ok_check_terms (P := l.prog) (w := w) (base := base) B G_check_terms O_is_term
    have O_parts_of := ok_parts_of (P := l.prog) (w := w) (base := base) B G_parts_of O_is_compound
    have O_order_key := ok_order_key (P := l.prog) (w := w) (base := base) B G_order_key O_parts_of O_is_variable O_is_compound
    have O_compare_terms := ok_compare_terms (P := l.prog) (w := w) (base := base) B G_compare_terms O_check_terms O_order_key
    have O_sort_terms := ok_sort_terms (P := l.prog) (w := w) (base := base) B G_sort_terms O_check_terms O_order_key
    have O__law_cell_at := ok_cell_at (P := l.prog) (w := w) (base := base) B G__law_cell_at
    have O__law_well := ok_well (P := l.prog) (w := w) (base := base) B G__law_well
    have O__law_draw := ok_draw (P := l.prog) (w := w) (base := base) B G__law_draw
    have O__law_one := ok_one (P := l.prog) (w := w) (base := base) B G__law_one O__law_draw
    have O__law_leaf := ok_leaf (P := l.prog) (w := w) (base := base) B G__law_leaf O__law_draw O__law_one
    have O__law_term := ok_term (P := l.prog) (w := w) (base := base) B G__law_term O__law_draw O__law_one O__law_leaf 2
    have O__law_is_compound := ok_liscmp (P := l.prog) (w := w) (base := base) B G__law_is_compound
    have O__law_rank := ok_lrank (P := l.prog) (w := w) (base := base) B G__law_rank
    have O__law_order := ok_lorder (P := l.prog) (w := w) (base := base) B G__law_order O__law_rank 12
    have O__law_near := ok_lnear (P := l.prog) (w := w) (base := base) B G__law_near O__law_is_compound O__law_draw O__law_one O__law_term 12
    have O__law_term := ok_term (P := l.prog) (w := w) (base := base) B G__law_term O__law_draw O__law_one O__law_leaf 4
    have O__law_right := ok_right (P := l.prog) (w := w) (base := base) B G__law_right O__law_term O__law_draw O__law_one O__law_near O_compare_terms O__law_order O_sort_terms
    have O_law := ok_law (P := l.prog) (w := w) (base := base) B 63 G_law O_sort_terms O__law_right O__law_well O__law_cell_at
    exact O_law
  exact ⟨_, fun s v => .of_eq rfl, fun base _ _ => okf_end (main base) hfa ⟨_, l22, rfl⟩⟩
end K1

open PySem PySem.W PyProof.Rows
set_option maxHeartbeats 0 in
theorem PySem.Challenge.cw_hornmill_k03_whole_order_of_terms_holds : PySem.Challenge.rw_hornmill_k03_whole_order_of_terms.Holds := by
  w_on; o_law; k_head; (case hw => w_witness2)
  k_fill
  refine L2.walk_of (l := PySem.Challenge.rw_hornmill_k03_whole_order_of_terms) (n := 63) (k := 20) (x := "_law_script") (CX := fun _ => L2.CX0) (sp := fun w => K1.sp_law _ 63) rfl (by decide) rfl ⟨rfl, by decide, by decide⟩ (fun w h Y => PySem.W.kIn_of Y) ?F (fun _ _ a ns hl _ hS => ⟨a, ns, rfl, hl, hS, fun _ => rfl⟩) (fun _ _ _ _ _ h => h)
  case F =>
    intro w mg fa h KX G hmg
    open K1 in
    refine' all_mk KX G hmg ?a0 ?l0 ?c0 ?k0 ?a1 ?l1 ?c1 ?k1 ?a2 ?l2 ?c2 ?k2 ?a3 ?l3 ?c3 ?k3 ?a4 ?l4 ?c4 ?k4 ?a5 ?l5 ?c5 ?k5 ?a6 ?l6 ?c6 ?k6 ?a7 ?l7 ?c7 ?k7 ?a8 ?l8 ?c8 ?k8 ?a9 ?l9 ?c9 ?k9 ?a10 ?l10 ?c10 ?k10 ?a11 ?l11 ?c11 ?k11 ?a12 ?l12 ?c12 ?k12 ?a13 ?l13 ?c13 ?k13 ?a14 ?l14 ?c14 ?k14 ?a15 ?l15 ?c15 ?k15 ?a16 ?l16 ?c16 ?k16 ?a17 ?l17 ?c17 ?k17 ?a18 ?l18 ?c18 ?k18 ?a19 ?l19 ?c19 ?k19 ?a20 ?l20 ?c20 ?k20 ?a21 ?l21 ?c21 ?k21 ?a22 ?l22 ?c22 ?k22 ?z_isinstance ?z_int ?z_bool ?z_tuple ?z_len ?z_abs ?z_all ?z_str ?z_ord ?z_sorted ?z_list ?z_range ?z_dict ?z_enumerate ?z_zip ?z_max ?z_min ?v_MOST_SIGNS ?v_MOST_ARGUMENTS ?v_TOO_GREAT
    (case a0 => k_is)
    (case l0 => k_is)
    (case c0 => k_is)
    (case k0 => k_is)
    (case a1 => k_is)
    (case l1 => k_is)
    (case c1 => k_is)
    (case k1 => k_is)
    (case a2 => k_is)
    (case l2 => k_is)
    (case c2 => k_is)
    (case k2 => k_is)
    (case a3 => k_is)
    (case l3 => k_is)
    (case c3 => k_is)
    (case k3 => k_is)
    (case a4 => k_is)
    (case l4 => k_is)
    (case c4 => k_is)
    (case k4 => k_is)
    (case a5 => k_is)
    (case l5 => k_is)
    (case c5 => k_is)
    (case k5 => k_is)
    (case a6 => k_is)
    (case l6 => k_is)
    (case c6 => k_is)
    (case k6 => k_is)
    (case a7 => k_is)
    (case l7 => k_is)
    (case c7 => k_is)
    (case k7 => k_is)
    (case a8 => k_is)
    (case l8 => k_is)
    (case c8 => k_is)
    (case k8 => k_is)
    (case a9 => k_is)
    (case l9 => k_is)
    (case c9 => k_is)
    (case k9 => k_is)
    (case a10 => k_is)
    (case l10 => k_is)
    (case c10 => k_is)
    (case k10 => k_is)
    (case a11 => k_is)
    (case l11 => k_is)
    (case c11 => k_is)
    (case k11 => k_is)
    (case a12 => k_is)
    (case l12 => k_is)
    (case c12 => k_is)
    (case k12 => k_is)
    (case a13 => k_is)
    (case l13 => k_is)
    (case c13 => k_is)
    (case k13 => k_is)
    (case a14 => k_is)
    (case l14 => k_is)
    (case c14 => k_is)
    (case k14 => k_is)
    (case a15 => k_is)
    (case l15 => k_is)
    (case c15 => k_is)
    (case k15 => k_is)
    (case a16 => k_is)
    (case l16 => k_is)
    (case c16 => k_is)
    (case k16 => k_is)
    (case a17 => k_is)
    (case l17 => k_is)
    (case c17 => k_is)
    (case k17 => k_is)
    (case a18 => k_is)
    (case l18 => k_is)
    (case c18 => k_is)
    (case k18 => k_is)
    (case a19 => k_is)
    (case l19 => k_is)
    (case c19 => k_is)
    (case k19 => k_is)
    (case a20 => k_is)
    (case l20 => k_is)
    (case c20 => k_is)
    (case k20 => k_is)
    (case a21 => k_is)
    (case l21 => k_is)
    (case c21 => k_is)
    (case k21 => k_is)
    (case a22 => k_is)
    (case l22 => k_is)
    (case c22 => k_is)
    (case k22 => k_is)
    (case z_isinstance => k_is)
    (case z_int => k_is)
    (case z_bool => k_is)
    (case z_tuple => k_is)
    (case z_len => k_is)
    (case z_abs => k_is)
    (case z_all => k_is)
    (case z_str => k_is)
    (case z_ord => k_is)
    (case z_sorted => k_is)
    (case z_list => k_is)
    (case z_range => k_is)
    (case z_dict => k_is)
    (case z_enumerate => k_is)
    (case z_zip => k_is)
    (case z_max => k_is)
    (case z_min => k_is)
    (case v_MOST_SIGNS => k_is)
    (case v_MOST_ARGUMENTS => k_is)
    (case v_TOO_GREAT => k_is)
