import PyProof.Rows.All
import Wide.All
import OpenK.AllK
import Wide.FinOn
import HandS.ForMost
import HandS.IsInst
import HandS.TupAny
import HandS.Style
import HandS.Wide
import HandS.Defaults
import HandS.Conv
import PySem.Challenge.RW_hornmill_k01_terms_told
set_option Elab.async false
set_option linter.all false
set_option maxRecDepth 100000
set_option maxHeartbeats 4000000
namespace HM
open PySem PySem.Spec PyProof.Rows L2
/-! ### defs of the text by name -/
def Gd (K : PySem.W.Frag) (mg : Str → Option Value) (x : Str) (st : Stmt) : Prop := ∃ f fd, Fun K x x st f fd ∧ mg x = some (.ref f)
def Okf (P : Program) (w : World) (K : PySem.W.Frag) (mg : Str → Option Value) (base : Heap) (x : Str) (k : Nat) (ps : List Str) (ds : List V) (sp : Sp) : Prop :=
  ∃ f fd us, mg x = some (.ref f) ∧ PySem.W.keepIn K (.ref f) = true ∧ Vals ds us ∧ Binds K fd ps us ∧ (∃ o, K.lookup f = some o ∧ o.data = .func fd) ∧ FnOk P w K mg base CX0 k f fd ps sp
theorem Fun.lkd {K : PySem.W.Frag} {x q : Str} {st : Stmt} {f : Addr} {fd : FuncData} (F : Fun K x q st f fd) : ∃ o, K.lookup f = some o ∧ o.data = .func fd := by
  obtain ⟨_, _, _, _, _, _, _, _, _, _, h, _⟩ := F.ex
  exact ⟨_, h, rfl⟩
theorem Okf.mono {P : Program} {w : World} {K : PySem.W.Frag} {mg : Str → Option Value} {base : Heap} {x : Str} {j k : Nat} {ps : List Str} {ds : List V} {sp : Sp} (O : Okf P w K mg base x j ps ds sp) (h : j ≤ k) : Okf P w K mg base x k ps ds sp := by
  obtain ⟨f, fd, us, a, b, c, d, l, e⟩ := O
  exact ⟨f, fd, us, a, b, c, d, l, e.mono h⟩
theorem okf_mk {P : Program} {w : World} {K : PySem.W.Frag} {mg : Str → Option Value} {base : Heap} {x : Str} {st : Stmt} {N ps : List Str} {k : Nat} {sp : Sp} (G : Gd K mg x st) (S : FnScope N ps (defScope st))
    (hb : ∀ (kV doc pm : Value) (an : Option Addr) (cdv ct : Value) (us : List Value), us.length = ps.length → bindArgs (PySem.W.fnOf x x (defArgs st) (defBody st) (defScope st) .none kV doc pm an cdv ct) ⟨us, []⟩ = pure (ps.zip us))
    (len : ∀ vs H Q E, sp vs H Q E → vs.length = ps.length)
    (hbody : ∀ {f : Addr} (cdv : Value) (A : Around) (outer : List Env) (s : Shared) (H : Hp) (vs : List V) (Q : VK) (E : XK), Room k (A.deeper (envOfC x (defScope st) s.heap.objs.size f cdv)) → sp vs H Q E →
      ∃ t, PSs (cxOf CX0 P w K mg base N x (defScope st) f cdv A outer s H E).nox (defBody st) t ∧ t { nx := fun _ H' => Q .non H', rt := Q } (start N vs) H) : Okf P w K mg base x (k + 1) ps [] sp := by
  obtain ⟨f, fd, F, g⟩ := G
  exact ⟨f, fd, [], g, F.kp, .nil, F.binds hb, Fun.lkd F, F.ok S len fun cdv A outer s H vs Q E hr h => hbody cdv A outer s H vs Q E hr h⟩
/-- the law's own def: out of its promise at every base -/
theorem okf_end {P : Program} {w : World} {K : PySem.W.Frag} {mg : Str → Option Value} {f : Addr} {fd : FuncData} {x : Str} {k : Nat} {ps : List Str} {sp : Sp} {base : Heap} (O : Okf P w K mg base x k ps [] sp) (hm : mg x = some (.ref f)) (hl : ∃ o, K.lookup f = some o ∧ o.data = .func fd) : FnOk P w K mg base CX0 k f fd ps sp := by
  obtain ⟨f', fd', us, a, b, c, d, ⟨o', l1, l2⟩, F⟩ := O
  obtain ⟨o, h1, h2⟩ := hl
  have e := hm.symm.trans a
  cases e
  have e := h1.symm.trans l1
  cases e
  have e := h2.symm.trans l2
  cases e
  exact F
section
variable {X : Cx} {x : Str} {k : Nat} {ps : List Str} {ds : List V} {sp : Sp} {e : Expr} {es : List Expr} {t : TA} {p pos : Pos}
theorem pe_callO (O : Okf X.prog X.w X.K X.mg X.base x k ps ds sp) (hr : Room k X.A) (hg : Gl X x) (ha : PA X (e :: es) t) (hdb : (x == ("__debug__" : Str)) = false := by decide)
    (he : starEach (e :: es) X.env = (false, eval e X.env) :: starEach es X.env := by rfl) (hpl : (backTo pos (starEach es X.env)).any (·.1) = false := by rfl) :
    PE X (.Call (.Name x p) (e :: es) [] pos) (tCall sp ds E0 t) := by
  obtain ⟨f, fd, us, hm, hk, hd, hb, _, F⟩ := O
  exact pe_call F hr hg hm hk hb hd pass0 ha hdb he hpl
theorem pe_callO0 (O : Okf X.prog X.w X.K X.mg X.base x k ps ds sp) (hr : Room k X.A) (hg : Gl X x) (hdb : (x == ("__debug__" : Str)) = false := by decide) :
    PE X (.Call (.Name x p) [] [] pos) (tCall sp ds E0 tNil) := by
  obtain ⟨f, fd, us, hm, hk, hd, hb, _, F⟩ := O
  exact pe_call0 F hr hg hm hk hb hd pass0 hdb
end
theorem pe_globI {X : Cx} {x : Str} {n : Int} {pos : Pos} (hg : Gl X x) (hm : ∃ t, X.mg x = some (.int n t)) (hd : (x == ("__debug__" : Str)) = false := by decide) : PE X (.Name x pos) (tC (.int n)) := by
  obtain ⟨t, e⟩ := hm
  exact pe_glob (v := .int n) hg e ⟨t, rfl⟩ hd
theorem pe_globS {X : Cx} {x z : Str} {pos : Pos} (hg : Gl X x) (hm : ∃ t, X.mg x = some (.str z t)) (hd : (x == ("__debug__" : Str)) = false := by decide) : PE X (.Name x pos) (tC (.str z)) := by
  obtain ⟨t, e⟩ := hm
  exact pe_glob (v := .str z) hg e ⟨t, rfl⟩ hd
/-! ### heaps -/
theorem same_upd {H : Hp} {p : Addr} {o : HO} (h : H p = none) : Same H (upd H p o) := fun b x e => by
  rw [upd_ne (ne_of_none e h)]
  exact e
/-- an object that H does not know may change -/
theorem Same.mut {H H' : Hp} {p : Addr} {o : HO} (e : Same H H') (h : H p = none) : Same H (upd H' p o) := fun a u ha => by
  rw [upd_ne (ne_of_none ha h)]
  exact e a u ha
theorem Same.sqT {K : PySem.W.Frag} {H H' : Hp} {a : Addr} {xs : List V} (e : Same H H') (h : SqT K H a xs) : SqT K H' a xs := by
  rcases h with (h | ⟨o, h⟩) | h
  · exact .inl (.inl (e _ _ h))
  · exact .inl (.inr ⟨o, e _ _ h⟩)
  · exact .inr h
mutual
theorem Dp.same {K : PySem.W.Frag} {H H' : Hp} (e : Same H H') : ∀ (d : PyData) (v : V), Dp K H v d → Dp K H' v d
  | .none, _, h => by cases h; exact .non
  | .bool b, _, h => by cases h; exact .bl b
  | .int i, _, h => by cases h; exact .int i
  | .str x, _, h => by cases h; exact .str x
  | .list ds, _, h => by cases h with | lst hs ha => exact .lst (e.seq hs) (DpAll.same e ds _ ha)
  | .tuple ds, _, h => by cases h with | tup hs ha => exact .tup (Same.sqT e hs) (DpAll.same e ds _ ha)
  | .dict _, _, h => by cases h
theorem DpAll.same {K : PySem.W.Frag} {H H' : Hp} (e : Same H H') : ∀ (ds : List PyData) (vs : List V), DpAll K H vs ds → DpAll K H' vs ds
  | [], _, h => by cases h; exact .nil
  | d :: ds, _, h => by cases h with | cons h1 h2 => exact .cons (Dp.same e d _ h1) (DpAll.same e ds _ h2)
end
theorem DpAll.length {K : PySem.W.Frag} {H : Hp} : ∀ {vs : List V} {ds : List PyData}, DpAll K H vs ds → vs.length = ds.length
  | _, _, .nil => rfl
  | _, _, .cons _ t => congrArg Nat.succ (DpAll.length t)
theorem DpAll.get {K : PySem.W.Frag} {H : Hp} : ∀ {vs : List V} {ds : List PyData} {i : Nat} {d : PyData}, DpAll K H vs ds → ds[i]? = some d → ∃ v, vs[i]? = some v ∧ Dp K H v d
  | _, _, _, _, .nil, e => by simp at e
  | _, _, 0, _, .cons r _, e => by simp at e; subst e; exact ⟨_, rfl, r⟩
  | _, _, i + 1, d, .cons _ t, e => by
    obtain ⟨u, h1, h2⟩ := DpAll.get (i := i) (d := d) t (by simpa using e)
    exact ⟨u, by simpa using h1, h2⟩
theorem DpAll.append {K : PySem.W.Frag} {H : Hp} : ∀ {vs ws : List V} {ds es : List PyData}, DpAll K H vs ds → DpAll K H ws es → DpAll K H (vs ++ ws) (ds ++ es)
  | _, _, _, _, .nil, s => s
  | _, _, _, _, .cons r t, s => .cons r (DpAll.append t s)
theorem DpAll.reverse {K : PySem.W.Frag} {H : Hp} : ∀ {vs : List V} {ds : List PyData}, DpAll K H vs ds → DpAll K H vs.reverse ds.reverse
  | _, _, .nil => .nil
  | _, _, .cons r t => by
    rw [List.reverse_cons, List.reverse_cons]
    exact DpAll.append (DpAll.reverse t) (.cons r .nil)
theorem DpAll.split {K : PySem.W.Frag} {H : Hp} : ∀ {ds es : List PyData} {vs : List V}, DpAll K H vs (ds ++ es) → ∃ us ws, vs = us ++ ws ∧ DpAll K H us ds ∧ DpAll K H ws es
  | [], _, vs, h => ⟨[], vs, rfl, .nil, h⟩
  | d :: ds, es, _, h => by
    cases h with
    | cons h1 h2 =>
      obtain ⟨us, ws, rfl, a, b⟩ := DpAll.split (ds := ds) h2
      exact ⟨_ :: us, ws, rfl, .cons h1 a, b⟩
/-! ### isinstance by data -/
def isTy (n : String) : PyData → Option Bool
  | .none => kitB "NoneType" n
  | .bool _ => kitB "bool" n
  | .int _ => kitB "int" n
  | .str _ => kitB "str" n
  | .list _ => kitB "list" n
  | .tuple _ => kitB "tuple" n
  | .dict _ => kitB "dict" n
theorem sql_ty {K : PySem.W.Frag} {H : Hp} {a : Addr} {xs : List V} (h : SqL K H a xs) : TyX K H (.ref a) (.type "list") := by
  rcases h with (h | ⟨o, h⟩) | ⟨o, its, n, h, c, _⟩
  · exact .base (.lst h)
  · exact .base (.frz h)
  · exact .kList h c
theorem sqt_ty {K : PySem.W.Frag} {H : Hp} {a : Addr} {xs : List V} (h : SqT K H a xs) : TyX K H (.ref a) (.type "tuple") := by
  rcases h with (h | ⟨o, h⟩) | ⟨o, its, n, h, c, _⟩
  · exact .base (.tup h)
  · exact .fTuple h
  · exact .kTuple h c
theorem isi_D {K : PySem.W.Frag} {H : Hp} {v : V} {d : PyData} {n : String} {b : Bool} {Q : VK} (hd : Dp K H v d) (e : isTy n d = some b) (h : Q (.bl b) H) : rIsi K [v, .ty n] H Q := by
  cases hd with
  | non => exact ⟨_, _, _, _, b, rfl, .ty n, .base .non, kit_ty e, h⟩
  | bl x => exact ⟨_, _, _, _, b, rfl, .ty n, .base (.bl x), kit_ty e, h⟩
  | int i => exact ⟨_, _, _, _, b, rfl, .ty n, .base (.int i), kit_ty e, h⟩
  | str x => exact ⟨_, _, _, _, b, rfl, .ty n, .base (.str x), kit_ty e, h⟩
  | lst hs _ => exact ⟨_, _, _, _, b, rfl, .ty n, sql_ty hs, kit_ty e, h⟩
  | tup hs _ => exact ⟨_, _, _, _, b, rfl, .ty n, sqt_ty hs, kit_ty e, h⟩
def isI : PyData → Bool | .int _ => true | .bool _ => true | _ => false
def isB : PyData → Bool | .bool _ => true | _ => false
def isS : PyData → Bool | .str _ => true | _ => false
def isT : PyData → Bool | .tuple _ => true | _ => false
def isL : PyData → Bool | .list _ => true | _ => false
theorem isTy_int (d : PyData) : isTy "int" d = some (isI d) := by cases d <;> first | (show kitB _ _ = some true; decide +kernel) | (show kitB _ _ = some false; decide +kernel)
theorem isTy_bool (d : PyData) : isTy "bool" d = some (isB d) := by cases d <;> first | (show kitB _ _ = some true; decide +kernel) | (show kitB _ _ = some false; decide +kernel)
theorem isTy_str (d : PyData) : isTy "str" d = some (isS d) := by cases d <;> first | (show kitB _ _ = some true; decide +kernel) | (show kitB _ _ = some false; decide +kernel)
theorem isTy_tuple (d : PyData) : isTy "tuple" d = some (isT d) := by cases d <;> first | (show kitB _ _ = some true; decide +kernel) | (show kitB _ _ = some false; decide +kernel)
theorem isTy_list (d : PyData) : isTy "list" d = some (isL d) := by cases d <;> first | (show kitB _ _ = some true; decide +kernel) | (show kitB _ _ = some false; decide +kernel)
theorem isi_int {K : PySem.W.Frag} {H : Hp} {v : V} {d : PyData} {Q : VK} (hd : Dp K H v d) (h : Q (.bl (isI d)) H) : rIsi K [v, .ty "int"] H Q := isi_D hd (isTy_int d) h
theorem isi_bool {K : PySem.W.Frag} {H : Hp} {v : V} {d : PyData} {Q : VK} (hd : Dp K H v d) (h : Q (.bl (isB d)) H) : rIsi K [v, .ty "bool"] H Q := isi_D hd (isTy_bool d) h
theorem isi_str {K : PySem.W.Frag} {H : Hp} {v : V} {d : PyData} {Q : VK} (hd : Dp K H v d) (h : Q (.bl (isS d)) H) : rIsi K [v, .ty "str"] H Q := isi_D hd (isTy_str d) h
theorem isi_tuple {K : PySem.W.Frag} {H : Hp} {v : V} {d : PyData} {Q : VK} (hd : Dp K H v d) (h : Q (.bl (isT d)) H) : rIsi K [v, .ty "tuple"] H Q := isi_D hd (isTy_tuple d) h
theorem isi_list {K : PySem.W.Frag} {H : Hp} {v : V} {d : PyData} {Q : VK} (hd : Dp K H v d) (h : Q (.bl (isL d)) H) : rIsi K [v, .ty "list"] H Q := isi_D hd (isTy_list d) h
/-! ### len, as named readings -/
def rLen (K : PySem.W.Frag) : List V → Hp → VK → Prop := fun xs H Q => ∃ p ys, xs = [.ref p] ∧ (SqL K H p ys ∨ SqT K H p ys) ∧ Q (.int ys.length) H
theorem call_lenQ {X : Cx} : CallR X (.builtin "len") (rLen X.K) := call_len_seq
def rLenS : List V → Hp → VK → Prop := fun xs H Q => ∃ z, xs = [.str z] ∧ z.length ≤ sizeLine ∧ Q (.int z.length) H
theorem call_lenS {X : Cx} : CallR X (.builtin "len") rLenS := call_len_str
def rIntI : List V → Hp → VK → Prop := fun xs H Q => ∃ i, xs = [.int i] ∧ Q (.int i) H
def rIntB : List V → Hp → VK → Prop := fun xs H Q => ∃ k, xs = [.bl k] ∧ Q (.int (if k then 1 else 0)) H
def rAbs : List V → Hp → VK → Prop := fun xs H Q => ∃ i, xs = [.int i] ∧ Q (.int (if i < 0 then -i else i)) H
theorem call_intI {X : Cx} : CallR X (.type "int") rIntI := fun pins s σ H xs us Q I r h => call_int1 pins s σ H xs us Q I r (.inl h)
theorem call_intB {X : Cx} : CallR X (.type "int") rIntB := fun pins s σ H xs us Q I r h => call_int1 pins s σ H xs us Q I r (.inr h)
theorem call_absQ {X : Cx} : CallR X (.builtin "abs") rAbs := call_abs
theorem rIntI_eq {i : Int} {H : Hp} {Q : VK} : rIntI [.int i] H Q = Q (.int i) H := propext ⟨fun ⟨j, e, q⟩ => by cases e; exact q, fun q => ⟨i, rfl, q⟩⟩
theorem rIntB_eq {k : Bool} {H : Hp} {Q : VK} : rIntB [.bl k] H Q = Q (.int (if k then 1 else 0)) H := propext ⟨fun ⟨j, e, q⟩ => by cases e; exact q, fun q => ⟨k, rfl, q⟩⟩
theorem rAbs_eq {i : Int} {H : Hp} {Q : VK} : rAbs [.int i] H Q = Q (.int (if i < 0 then -i else i)) H := propext ⟨fun ⟨j, e, q⟩ => by cases e; exact q, fun q => ⟨i, rfl, q⟩⟩
/-! ### a list != [] -/
section
variable {X : Cx}
def rNeNil (K : PySem.W.Frag) : R2 := fun x y H Q => ∃ a b xs, x = .ref a ∧ y = .ref b ∧ SqL K H a xs ∧ SqL K H b [] ∧ Q (.bl (!xs.isEmpty)) H
theorem op_neNil (hu : X.A.units < cLine) : OpR X (compareOp .NotEq) (rNeNil X.K) := by
  intro pins s σ H x y v u Q I rx ry h
  obtain ⟨a, b, xs, rfl, rfl, ha, hb, q⟩ := h
  cases rx
  cases ry
  obtain ⟨its, r1, p1, _⟩ := I.list ha
  obtain ⟨its2, r2, p2, _⟩ := I.list hb
  cases r2
  cases xs with
  | nil =>
    cases r1
    have := SeqAt.RcNeAt.lists (A := X.A) (s := s) (e := fun _ => true) p1.isList p2.isList rfl hu (fun j h1 _ => absurd h1 (Nat.not_lt_zero _))
    exact this X.prog X.w X.xe _ ⟨.bl false, H, I, rfl, q⟩
  | cons c r =>
    cases r1 with
    | cons r3 r4 =>
      have := SeqAt.RcNeAt.lists_lengths (A := X.A) (s := s) p1.isList p2.isList (by simp) hu
      exact this X.prog X.w X.xe _ ⟨.bl true, H, I, rfl, q⟩
/-! ### xs.extend(a tuple) -/
theorem extend_tuple_any (l : Addr) (items : Array Value) (n : Nat) (b : Addr) (items2 : Array Value) (n2 : Nat) (dd : Option Addr) (sl : Array (Option Value)) (hs0 : ¬(!items.isEmpty && Builtin.List.listTooLong (items.size + items2.size)) = true) (hs1 : items.size ≤ sizeLine) (hs2 : items.size + items2.size ≤ sizeLine + 1) :
    Meets (Builtin.«list.extend» ⟨[.ref l, .ref b], []⟩) (fun _ R s => s.heap.get? l = some { cls := .type "list", dict := none, data := .seq items n, slots := #[] } ∧ s.heap.get? b = some { cls := .type "tuple", dict := dd, data := .seq items2 n2, slots := sl } ∧ R (.ok (.ret Value.none)) { s with heap := s.heap.update l (Obj.mapSeq fun x => x ++ items2), toks := s.toks }) :=
  .of_wp fun prog w A R s h => by
    obtain ⟨hp, g, d, tk, os⟩ := s; obtain ⟨hl, hb, h⟩ := h; have f1 := AutoSeq1.idx_int; have f2 := AutoSeq1.sub_tuple_tuple; have f3 := AutoSeq1.sub_list_list; have f4 := AutoSeq1.sub_tuple_list; have f5 := AutoSeq1.sub_list_tuple;
    have hz' : (items ++ items2).size ≤ sizeLine + 1 := by rw [Array.size_append]; exact hs2
    wp_walk using (wpAny_updateSeq hl rfl (hz := hs1) (_hz' := hz')), AutoSeq1.wpAny_loadPart' hl, AutoSeq1.wpAny_loadPart' hb; exact ⟨_, rfl, h⟩
def rExtendT (K : PySem.W.Frag) : V → List V → Hp → VK → Prop := fun x vs H Q => ∃ l b xs zs, x = .ref l ∧ vs = [.ref b] ∧ H l = some (.lst xs) ∧ H b = some (.tup zs) ∧ xs.length + zs.length ≤ sizeLine ∧ Q .non (upd H l (.lst (xs ++ zs)))
theorem mt_extendT : MtM X "list.extend" (rExtendT X.K) := by
  intro pins s σ H x vs v us Q I rx rv h
  obtain ⟨l, b, xs, zs, rfl, rfl, hH, hB, hz, q⟩ := h
  cases rx
  obtain ⟨u, rfl, ru⟩ := rv.one
  cases ru
  obtain ⟨z, its, n, r, hl, e⟩ := I.lstM hH
  obtain ⟨its2, r2, ⟨ob, e2, hc, n2, hd⟩, hl2⟩ := I.tuple (SqT.of hB)
  have hl3 := r2.length
  have hsz : its.toArray.size + its2.toArray.size ≤ sizeLine := by rw [List.size_toArray, List.size_toArray]; omega
  have hlong : ¬ (!its.toArray.isEmpty && Builtin.List.listTooLong (its.toArray.size + its2.toArray.size)) = true := by
    rw [notLongL hsz, Bool.and_false]
    exact Bool.false_ne_true
  obtain ⟨oc, od, dt, sl⟩ := ob
  simp only at hc hd
  subst hc hd
  refine call_meets F.slot_list_extend ⟨_, e, rfl⟩ F.entry_list_extend (F.args_list_extend_2 _ _)
    (extend_tuple_any l its.toArray n b its2.toArray n2 _ _ hlong (by rw [List.size_toArray]; omega) (by omega)) ⟨e, e2, ?_⟩
  refine ⟨.non, _, I.lset (its' := its ++ its2) hH e (by simp) (r.append r2) ?_, rfl, q⟩
  rw [List.length_append]
  omega
/-! ### t[:0:-1] of a tuple -/
theorem rev_cut (xs : List Value) (h : xs ≠ []) : ((List.range (xs.length - 1)).filterMap fun (m : Nat) => xs.toArray[(((xs.length - 1 : Nat) : Int) + (m : Int) * (-1)).toNat]?) = (xs.drop 1).reverse := by
  apply List.ext_getElem?
  intro i
  have hl : 0 < xs.length := List.length_pos_iff.mpr h
  have e : ((List.range (xs.length - 1)).filterMap fun (m : Nat) => xs.toArray[(((xs.length - 1 : Nat) : Int) + (m : Int) * (-1)).toNat]?) = (List.range (xs.length - 1)).map fun (m : Nat) => xs.getD (xs.length - 1 - m) .none := by
    have g : ∀ (l : List Nat), (∀ m ∈ l, m < xs.length - 1) → (l.filterMap fun (m : Nat) => xs.toArray[(((xs.length - 1 : Nat) : Int) + (m : Int) * (-1)).toNat]?) = l.map fun (m : Nat) => xs.getD (xs.length - 1 - m) .none := by
      intro l
      induction l with
      | nil => intro _; rfl
      | cons m r ih =>
        intro hm
        have hm' := hm m List.mem_cons_self
        have e2 : (((xs.length - 1 : Nat) : Int) + (m : Int) * (-1)).toNat = xs.length - 1 - m := by omega
        have e4 : xs.length - 1 - m < xs.length := by omega
        rw [List.filterMap_cons, List.map_cons, ih fun a ha => hm a (List.mem_cons_of_mem _ ha), e2]
        simp [List.getD, e4]
    exact g _ fun m hm => List.mem_range.mp hm
  rw [e, List.getElem?_map]
  by_cases hi : i < xs.length - 1
  · rw [List.getElem?_range hi, List.getElem?_reverse (by rw [List.length_drop]; exact hi), List.getElem?_drop, List.length_drop]
    have : xs.length - 1 - i < xs.length := by omega
    have e3 : 1 + (xs.length - 1 - 1 - i) = xs.length - 1 - i := by omega
    rw [e3]
    simp [List.getD, this]
  · rw [List.getElem?_eq_none (by rw [List.length_range]; omega), List.getElem?_eq_none (by rw [List.length_reverse, List.length_drop]; omega)]
    rfl
section
variable {prog : Program} {w : World} {A : Around} {E : Value → Shared → Prop} {s : Shared}
theorem sliceApplied_rev {sl : Addr} {vl vu vs : Value} {n : Nat} {Q : Int × Int × Nat → Shared → Prop} (hs : s.heap.IsSliceOf sl vl vu vs) (pl : IsPart vl none) (pu : IsPart vu (some 0)) (ps : IsPart vs (some (-1))) (hn : 0 < n)
    (h : Q (((n - 1 : Nat) : Int), -1, n - 1) s) : wpAny (model prog w) A (Builtin.Slice.sliceApplied (.ref sl) (pure (n : Int))) Q E s := by
  obtain ⟨os, hos, hcs, hds⟩ := id hs
  unfold Builtin.Slice.sliceApplied Builtin.Slice.sliceFields
  refine wpAny_bind (wpAny_bind (wpAny_field hos hds (x := vl) rfl (wpAny_bind (wpAny_field hos hds (x := vu) rfl (wpAny_bind (wpAny_field hos hds (x := vs) rfl (wpAny_pure ?_)))))))
  refine wpAny_bind (HT.slicePart_ ps ?_)
  show wpAny _ _ (if ((-1 : Int) == 0) = true then _ else _) _ _ s
  rw [if_neg (by decide)]
  refine wpAny_bind (HT.slicePart_ pl (wpAny_bind (HT.slicePart_ pu (wpAny_bind (wpAny_pure ?_)))))
  show wpAny _ _ (match Builtin.Slice.sliceAdjust none (some 0) (-1) (n : Int) with | (lo, hi) => pure (lo, (-1 : Int), Builtin.Slice.slicePlaces lo hi (-1))) _ _ s
  have ea : Builtin.Slice.sliceAdjust none (some 0) (-1) (n : Int) = (((n - 1 : Nat) : Int), 0) := by
    unfold Builtin.Slice.sliceAdjust
    simp only [show ((-1 : Int) < 0) = True from by simp, if_true, show ((0 : Int) < 0) = False from by simp, if_false]
    refine Prod.ext ?_ ?_
    · show (n : Int) - 1 = _
      omega
    · show min (0 : Int) ((n : Int) - 1) = 0
      omega
  rw [ea]
  have ep : Builtin.Slice.slicePlaces ((n - 1 : Nat) : Int) 0 (-1) = n - 1 := by
    unfold Builtin.Slice.slicePlaces
    simp only [show ((-1 : Int) > 0) = False from by simp, if_false]
    split <;> (try simp only [Int.neg_neg, Int.ediv_one]) <;> omega
  show wpAny _ _ (pure (((n - 1 : Nat) : Int), (-1 : Int), Builtin.Slice.slicePlaces ((n - 1 : Nat) : Int) 0 (-1))) _ _ s
  rw [ep]
  exact wpAny_pure h
theorem getItem_tuple_rev {t sl : Addr} {items : Array Value} {vl vu vs : Value} {Q : Value → Shared → Prop} (ht : IsTup s.heap t items) (hs : s.heap.IsSliceOf sl vl vu vs) (pl : IsPart vl none) (pu : IsPart vu (some 0)) (ps : IsPart vs (some (-1))) (hn : items.toList ≠ [])
    (h : Q (.ref s.heap.objs.size) { s with heap := s.heap.push { cls := .type "tuple", data := .seq ((items.toList.drop 1).reverse).toArray } })
    (hsz : items.size ≤ sizeLine) : wpAny (model prog w) A (getItem (.ref t) (.ref sl)) Q E s := by
  have hlen : items.toList.length = items.size := Array.length_toList
  have htake : sizeOk (.seq ((items.toList.drop 1).reverse).toArray) := by
    show ((items.toList.drop 1).reverse).toArray.size ≤ sizeLine
    rw [List.size_toArray, List.length_reverse, List.length_drop, Array.length_toList]
    omega
  have hpos : 0 < items.size := by
    rw [← hlen]
    exact List.length_pos_iff.mpr hn
  obtain ⟨os, hos, hcs, hds⟩ := id hs
  have hTs : s.TypeIs (.ref sl) "slice" := ⟨os, hos, hcs⟩
  unfold getItem
  try with_reducible refine wpAny_holding ?_
  first | refine wpAny_bind (wpAny_pure ?_) | skip
  refine wpAny_bind (wpAny_sequenceKey ht.typeIs (by decide) ?_)
  refine wpAny_bind (wpAny_callSpecial?_slot (name := Str.ofString "__getitem__") ht.typeIs PyProof.Rows.slot_tuple_getitem
    (wpAny_call_entry PyProof.Rows.slot_tuple_getitem ht.typeIs entry_tuple_getitem ?_ (args_tuple_getitem _ _)))
  show wpAny _ _ (Builtin.Tuple.tupleItemsOf (.ref t) >>= _) _ _ s
  refine wpAny_bind (tupleItemsOf_ ht ?_)
  refine wpAny_bind (wpAny_typeOf hTs ?_)
  rw [if_pos (by decide)]
  refine wpAny_bind (sliceApplied_rev hs pl pu ps hpos ?_)
  have hno : ¬ ((((items.size - 1 : Nat) : Int) == 0 && (-1 : Int) == 1 && (items.size - 1) == items.size) = true) := by
    intro q
    rw [Bool.and_eq_true, Bool.and_eq_true] at q
    have q1 : (-1 : Int) = 1 := eq_of_beq q.1.2
    omega
  show wpAny _ _ (if (((items.size - 1 : Nat) : Int) == 0 && (-1 : Int) == 1 && (items.size - 1) == items.size) = true then _ else _) _ _ s
  have hp := rev_cut items.toList hn
  rw [hlen] at hp
  have hp2 : ((List.range (items.size - 1)).filterMap fun (m : Nat) => items[(((items.size - 1 : Nat) : Int) + (m : Int) * (-1)).toNat]?) = (items.toList.drop 1).reverse := hp
  rw [if_neg hno, hp2]
  first
    | exact wpAny_bind (m := Builtin.Tuple.tupleExact _) (wpAny_newObj_type (wpAny_pure ⟨_, rfl, wpAny_pure h⟩) htake)
    | exact wpAny_bind (m := Builtin.Tuple.tupleExact _) (wpAny_newObj_type (wpAny_bind (wpAny_pure (wpAny_pure ⟨_, rfl, wpAny_pure h⟩))) htake)
    | exact wpAny_bind (wpAny_bind (m := Builtin.Tuple.tupleExact _) (wpAny_newObj_type (wpAny_pure (wpAny_pure ⟨_, rfl, wpAny_pure h⟩)) htake))
    | exact wpAny_bind (wpAny_bind (m := Builtin.Tuple.tupleExact _) (wpAny_newObj_type (wpAny_pure ⟨_, rfl, wpAny_pure h⟩) htake))
end
/-- t[:0:-1]: a new tuple of all but the first, backwards -/
def tRevT (K : PySem.W.Frag) (te : TE) : TE := fun σ H Q => te σ H fun x H1 => ∃ a y xs, x = .ref a ∧ SqT K H1 a (y :: xs) ∧ ∀ p, H1 p = none → Q (.ref p) (upd H1 p (.tup xs.reverse))
theorem pe_revT {e : Expr} {te : TE} {k k2 : Nat} {p0 p1 p2 p3 pos : Pos} (he : PE X e te) : PE X (.Subscript e (.Slice none (some (.Constant (.int 0) k2 p0)) (some (.UnaryOp .USub (.Constant (.int 1) k p1) p2)) p3) pos) (tRevT X.K te) := by
  refine ⟨fun pins s σ H Q I h => ?_⟩
  refine Subscript_ (thn (he.run pins s σ H _ I h) fun v s1 ⟨x, H1, I1, r1, q1⟩ => ?_)
  obtain ⟨a, y, xs, ex, hx, q⟩ := q1
  subst ex
  cases r1
  have hst : PO X (some (.UnaryOp .USub (.Constant (.int 1) k p1) p2)) (tPart (tUn (rU fun i => .int (-i)) (tC (.int 1)))) := po_some (pe_un un_neg pe_int)
  have hup : PO X (some (.Constant (.int 0) k2 p0)) (tPart (tC (.int 0))) := po_some pe_int
  refine wpAny_Slice (thn (po_none.run pins s1 σ H1 (fun o H2 => o = none ∧ H2 = H1) I1 ⟨rfl, rfl⟩) fun vl s2 ⟨l, H2, I2, pl, el, e2⟩ => ?_)
  subst el e2
  refine thn (hup.run pins s2 σ H2 (fun o H3 => o = some 0 ∧ H3 = H2) I2 ⟨0, rfl, rfl, rfl⟩) fun vu s3 ⟨u, H3, I3, pu, eu, e3⟩ => ?_
  subst eu e3
  refine thn (hst.run pins s3 σ H3 (fun o H4 => o = some (-1) ∧ H4 = H3) I3 ⟨1, rfl, -1, rfl, rfl, rfl⟩) fun vs s4 ⟨o, H4, I4, ps, eo, e4⟩ => ?_
  subst eo e4
  have I5 : Inv X pins σ H4 { s4 with heap := s4.heap.push { cls := .type "slice", data := .fields #[vl, vu, vs] } } := I4.kept (t' := s4.toks) fun b ob q => Heap.get?_push_of_some _ q
  obtain ⟨its, r, ht, hz⟩ := I5.tuple hx
  have hlen := r.length
  have hne : its ≠ [] := fun z => by
    rw [z] at r
    cases r
  show wpAny (model X.prog X.w) X.A (subscriptTail e (.Slice none (some (.Constant (.int 0) k2 p0)) (some (.UnaryOp .USub (.Constant (.int 1) k p1) p2)) p3) (.ref a) (.ref s4.heap.objs.size)) (EP X pins σ Q) X.xe { s4 with heap := s4.heap.push { cls := .type "slice", data := .fields #[vl, vu, vs] } }
  refine tail_any (ops := [.ref a, .ref s4.heap.objs.size]) ht.typeIs (PyProof.Rows.slot_tuple_getitem.lookup) ?_ (by with_unfolding_all rfl)
  refine getItem_tuple_rev ht (Heap.IsSliceOf.new _ vl vu vs) pl pu ps hne ?_ (by rw [List.size_toArray]; omega)
  refine ⟨.ref _, _, I5.laid (t' := s4.toks) (o := .tup xs.reverse) (fun b ob q => Heap.get?_push_of_some _ q) (Nat.le_refl _) ?_, rfl, q _ (I5.hok.fresh (Nat.le_refl _))⟩
  refine ⟨by rw [List.length_reverse]; rw [List.length_cons] at hz; omega, (its.drop 1).reverse, (r.drop 1).reverse, ?_⟩
  exact ⟨_, Heap.get?_push_size _ rfl, rfl, _, rfl⟩
/-! ### == and != of data of any depth where one side is flat enough -/
def rEqM (K : PySem.W.Frag) : R2 := fun x y H Q => ∃ d e, Dp K H x d ∧ Dp K H y e ∧ d.canLay0 = true ∧ e.canLay0 = true ∧ min d.depth e.depth ≤ 64 ∧ Q (.bl (PyData.eqv d e)) H
def rNeM (K : PySem.W.Frag) : R2 := fun x y H Q => ∃ d e, Dp K H x d ∧ Dp K H y e ∧ d.canLay0 = true ∧ e.canLay0 = true ∧ min d.depth e.depth ≤ 64 ∧ Q (.bl (!PyData.eqv d e)) H
theorem op_eqM (hu : X.A.units + 64 < cLine) : OpR X (compareOp .Eq) (rEqM X.K) := by
  intro pins s σ H x y v u Q I rx ry h
  obtain ⟨d, e, hd, he, sd, se, hm, q⟩ := h
  obtain ⟨as, r1⟩ := Dp.reads I d x v hd rx
  obtain ⟨bs, r2⟩ := Dp.reads I e y u he ry
  exact SeqAt.compareEq_reads r1 r2 sd se (by omega) ⟨.bl _, H, I, rfl, q⟩
theorem op_neM (hu : X.A.units + 64 < cLine) : OpR X (compareOp .NotEq) (rNeM X.K) := by
  intro pins s σ H x y v u Q I rx ry h
  obtain ⟨d, e, hd, he, sd, se, hm, q⟩ := h
  obtain ⟨as, r1⟩ := Dp.reads I d x v hd rx
  obtain ⟨bs, r2⟩ := Dp.reads I e y u he ry
  exact SeqAt.compareNe_reads r1 r2 sd se (by omega) ⟨.bl _, H, I, rfl, q⟩
end
/-! ### readers: what a reading wants, from what is known -/
section
variable {K : PySem.W.Frag} {H : Hp} {Q : VK} {a : Addr} {xs : List V} {v y z : V} {i j : Int} {b c : Bool}
theorem q_bl (h : b = c) (q : Q (.bl c) H) : Q (.bl b) H := h ▸ q
theorem q_int (h : i = j) (q : Q (.int j) H) : Q (.int i) H := h ▸ q
theorem q_v (h : v = y) (q : Q y H) : Q v H := h ▸ q
theorem lenT (h : SqT K H a xs) (q : Q (.int xs.length) H) : rLen K [.ref a] H Q := ⟨a, xs, rfl, .inr h, q⟩
theorem lenL (h : SqL K H a xs) (q : Q (.int xs.length) H) : rLen K [.ref a] H Q := ⟨a, xs, rfl, .inl h, q⟩
theorem eqI (q : Q (.bl (decide (i = j))) H) : rEq (.int i) (.int j) H Q := ⟨rfl, by rw [show decide (V.int i = V.int j) = decide (i = j) from by simp]; exact q⟩
theorem neI (q : Q (.bl (!decide (i = j))) H) : rNe (.int i) (.int j) H Q := ⟨rfl, by rw [show decide (V.int i = V.int j) = decide (i = j) from by simp]; exact q⟩
theorem eqS {x x' : Str} (q : Q (.bl (decide (x = x'))) H) : rEq (.str x) (.str x') H Q := ⟨rfl, by rw [show decide (V.str x = V.str x') = decide (x = x') from by simp]; exact q⟩
theorem neS {x x' : Str} (q : Q (.bl (!decide (x = x'))) H) : rNe (.str x) (.str x') H Q := ⟨rfl, by rw [show decide (V.str x = V.str x') = decide (x = x') from by simp]; exact q⟩
theorem ixT0 (h : SqT K H a (y :: xs)) (q : Q y H) : rIxT K (.ref a) (.int 0) H Q := ⟨a, _, 0, y, rfl, rfl, h, atI_nat (j := 0) rfl, q⟩
theorem ixT1 (h : SqT K H a (y :: z :: xs)) (q : Q z H) : rIxT K (.ref a) (.int 1) H Q := ⟨a, _, 1, z, rfl, rfl, h, atI_nat (j := 1) rfl, q⟩
theorem ixT2 {u : V} (h : SqT K H a (y :: z :: u :: xs)) (q : Q u H) : rIxT K (.ref a) (.int 2) H Q := ⟨a, _, 2, u, rfl, rfl, h, atI_nat (j := 2) rfl, q⟩
theorem ixL0 (h : SqL K H a (y :: xs)) (q : Q y H) : rIxL K (.ref a) (.int 0) H Q := ⟨a, _, 0, y, rfl, rfl, h, atI_nat (j := 0) rfl, q⟩
theorem ixL1 (h : SqL K H a (y :: z :: xs)) (q : Q z H) : rIxL K (.ref a) (.int 1) H Q := ⟨a, _, 1, z, rfl, rfl, h, atI_nat (j := 1) rfl, q⟩
theorem ixL2 {u : V} (h : SqL K H a (y :: z :: u :: xs)) (q : Q u H) : rIxL K (.ref a) (.int 2) H Q := ⟨a, _, 2, u, rfl, rfl, h, atI_nat (j := 2) rfl, q⟩
theorem ixLn {n : Nat} (h : SqL K H a xs) (e : xs[n]? = some v) (hi : i = (n : Int)) (q : Q v H) : rIxL K (.ref a) (.int i) H Q := by
  subst hi
  exact ⟨a, xs, _, v, rfl, rfl, h, atI_nat e, q⟩
theorem ixTn {n : Nat} (h : SqT K H a xs) (e : xs[n]? = some v) (hi : i = (n : Int)) (q : Q v H) : rIxT K (.ref a) (.int i) H Q := by
  subst hi
  exact ⟨a, xs, _, v, rfl, rfl, h, atI_nat e, q⟩
end
end HM

namespace HM
open PySem PySem.Spec PyProof.Rows L2
/-! ### what stays: all but the places of M -/
def Sm (M : Addr → Prop) (H H' : Hp) : Prop := ∀ b o, ¬ M b → H b = some o → H' b = some o
def M0 : Addr → Prop := fun _ => False
theorem Sm.refl {M : Addr → Prop} (H : Hp) : Sm M H H := fun _ _ _ h => h
theorem Sm.trans {M : Addr → Prop} {H H1 H2 : Hp} (a : Sm M H H1) (b : Sm M H1 H2) : Sm M H H2 := fun c o n h => b c o n (a c o n h)
theorem Sm.of {M : Addr → Prop} {H H' : Hp} (h : Same H H') : Sm M H H' := fun b o _ e => h b o e
theorem Sm.same {H H' : Hp} (h : Sm M0 H H') : Same H H' := fun b o e => h b o (fun z => z) e
theorem Sm.new {M : Addr → Prop} {H H' : Hp} {D : Addr} {o : HO} (a : Sm M H H') (n : H D = none) : Sm M H (upd H' D o) := fun b u nb e => by
  rw [upd_ne (ne_of_none e n)]
  exact a b u nb e
theorem Sm.at {M : Addr → Prop} {H H' : Hp} {w : Addr} {o : HO} (a : Sm M H H') (n : M w) : Sm M H (upd H' w o) := fun b u nb e => by
  rw [upd_ne (fun z => nb (by rw [z]; exact n))]
  exact a b u nb e
/-- the tuples (and what is frozen) stay -/
def Fix : HO → Prop | .tup _ => True | .frz _ _ => True | _ => False
def Tk (H H' : Hp) : Prop := ∀ b o, Fix o → H b = some o → H' b = some o
theorem Tk.refl (H : Hp) : Tk H H := fun _ _ _ h => h
theorem Tk.trans {H H1 H2 : Hp} (a : Tk H H1) (b : Tk H1 H2) : Tk H H2 := fun c o n h => b c o n (a c o n h)
theorem Tk.of {H H' : Hp} (h : Same H H') : Tk H H' := fun b o _ e => h b o e
theorem Tk.sm {M : Addr → Prop} {H H' : Hp} (h : Sm M H H') (n : ∀ b o, M b → H b = some o → ¬ Fix o) : Tk H H' := fun b o f e => h b o (fun m => n b o m e f) e
theorem Tk.upd {H : Hp} {D : Addr} {o : HO} (n : ∀ u, H D = some u → ¬ Fix u) : Tk H (upd H D o) := fun b u f e => by
  have : b ≠ D := fun z => by subst z; exact n u e f
  rw [upd_ne this]
  exact e
theorem Tk.rd {H H' : Hp} {a : Addr} {xs : List V} (e : Tk H H') (h : Rd H a (.tup xs)) : Rd H' a (.tup xs) := by
  rcases h with h | ⟨o, h⟩
  · exact .inl (e _ _ trivial h)
  · exact .inr ⟨o, e _ _ trivial h⟩
theorem Tk.sqT {K : PySem.W.Frag} {H H' : Hp} {a : Addr} {xs : List V} (e : Tk H H') (h : SqT K H a xs) : SqT K H' a xs := by
  rcases h with h | h
  · exact .inl (e.rd h)
  · exact .inr h
mutual
def noL : PyData → Bool
  | .none => true
  | .bool _ => true
  | .int _ => true
  | .str _ => true
  | .list _ => false
  | .tuple ds => noLs ds
  | .dict _ => false
def noLs : List PyData → Bool
  | [] => true
  | d :: ds => noL d && noLs ds
end
mutual
theorem Dp.tk {K : PySem.W.Frag} {H H' : Hp} (e : Tk H H') : ∀ (d : PyData) (v : V), noL d = true → Dp K H v d → Dp K H' v d
  | .none, _, _, h => by cases h; exact .non
  | .bool b, _, _, h => by cases h; exact .bl b
  | .int i, _, _, h => by cases h; exact .int i
  | .str x, _, _, h => by cases h; exact .str x
  | .list ds, _, n, h => by cases n
  | .tuple ds, _, n, h => by cases h with | tup hs ha => exact .tup (e.sqT hs) (DpAll.tk e ds _ n ha)
  | .dict _, _, _, h => by cases h
theorem DpAll.tk {K : PySem.W.Frag} {H H' : Hp} (e : Tk H H') : ∀ (ds : List PyData) (vs : List V), noLs ds = true → DpAll K H vs ds → DpAll K H' vs ds
  | [], _, _, h => by cases h; exact .nil
  | d :: ds, _, n, h => by
    have n' : noL d = true ∧ noLs ds = true := by simpa [noLs] using n
    cases h with | cons h1 h2 => exact .cons (Dp.tk e d _ n'.1 h1) (DpAll.tk e ds _ n'.2 h2)
end
/-! ### comprehensions -/
section
variable {M : Addr → Prop} {Z : Hp → Prop} {R : Nat → V → Hp → Prop} {I : Nat → V → Hp → Prop} {J : It} {n i : Nat} {σ : L2.St} {el : TE} {H : Hp} {Q : VK}
/-- el for each item of the walk J (n turns): R of the place and the value; M what may change, Z what stays true -/
theorem lc_gen (hn : n ≤ sizeLine) (hM : ∀ b, M b → H b ≠ none) (z0 : Z H) (hZ : ∀ D o H1, H D = none → Z H1 → Z (upd H1 D o)) (hR : ∀ j y H1 H2, Tk H1 H2 → R j y H1 → R j y H2) (hMf : ∀ H1 b o, Z H1 → M b → H1 b = some o → ¬ Fix o)
    (hgo : ∀ j H1, j < n → Sm M H H1 → J.go j H1) (hst : ∀ H1, Sm M H H1 → J.stop n H1)
    (hy : ∀ j H1 x H2, j < n → Sm M H H1 → Z H1 → J.yld j H1 x H2 → Sm M0 H1 H2 ∧ Z H2 ∧ I j x H2)
    (hs : ∀ j x H1 (k : VK), j < n → Sm M H H1 → Z H1 → I j x H1 → (∀ y H2, Sm M H1 H2 → Z H2 → R j y H2 → k y H2) → el ((wipe σ [i]).set i (some x)) H1 k)
    (hq : ∀ D H2 ys, H D = none → Sm M H H2 → Z H2 → H2 D = some (.lst ys) → ys.length = n → (∀ j y, ys[j]? = some y → R j y H2) → Q (.ref D) H2) :
    ∀ D, H D = none → ∃ W : Nat → Nat → Hp → Prop, (∃ m, W 0 m (upd H D (.lst []))) ∧ ∀ i_1 m H_1, W i_1 m H_1 →
      (J.stop i_1 H_1 ∧ Q (.ref D) H_1) ∨ (J.go i_1 H_1 ∧ ∃ Nx : Hp → Prop, (∀ H', Nx H' → ∃ m', m' < m ∧ W (i_1 + 1) m' H') ∧ ∀ x H', J.yld i_1 H_1 x H' → gName i x (wipe σ [i]) H' fun σ2 H2 => wipe σ2 [i] = wipe σ [i] ∧ tYes σ2 H2 fun b H3 =>
        if b = true then el σ2 H3 fun y H4 => ∃ acc, H4 D = some (.lst acc) ∧ acc.length < sizeLine ∧ Nx (upd H4 D (.lst (acc ++ [y]))) else Nx H3) := by
  intro D hD
  have nD : ¬ M D := fun z => hM D z hD
  let Pv : Nat → Hp → Prop := fun j H1 => Sm M H H1 ∧ Z H1 ∧ ∃ ys, H1 D = some (.lst ys) ∧ ys.length = j ∧ ∀ k y, ys[k]? = some y → R k y H1
  refine ⟨fun j m H1 => m = n - j ∧ j ≤ n ∧ Pv j H1, ⟨n, by simp, Nat.zero_le _, (Sm.refl H).new hD, hZ D _ H hD z0, [], upd_same, rfl, fun k y e => by simp at e⟩, ?_⟩
  rintro j m H1 ⟨rfl, hj, sm, z, ys, eD, el1, eR⟩
  by_cases hlt : j < n
  · refine .inr ⟨hgo j H1 hlt sm, Pv (j + 1), fun H' p' => ⟨n - (j + 1), by omega, rfl, hlt, p'⟩, fun x H2 yl => ?_⟩
    obtain ⟨s2, z2, i2⟩ := hy j H1 x H2 hlt sm z yl
    have t2 : Tk H1 H2 := Tk.of s2.same
    refine ⟨?_, ?_⟩
    · have e : ∀ (l : L2.St), wipe l [i] = l.set i none := fun l => rfl
      simp [e]
    · show el ((wipe σ [i]).set i (some x)) H2 _
      refine hs j x H2 _ hlt (sm.trans (Sm.of s2.same)) z2 i2 fun y H3 s3 z3 r3 => ?_
      have eD3 : H3 D = some (.lst ys) := s3 D _ nD (s2.same D _ eD)
      have t3 : Tk H2 H3 := Tk.sm s3 fun b o m e => hMf H2 b o z2 m e
      have tD : Tk H3 (upd H3 D (.lst (ys ++ [y]))) := Tk.upd fun u e => by rw [eD3] at e; cases e; exact fun f => f
      refine ⟨ys, eD3, by rw [el1]; omega, (sm.trans ((Sm.of s2.same).trans s3)).new hD, hZ D _ H3 hD z3, ys ++ [y], upd_same, by rw [List.length_append, el1]; rfl, fun k y' e => ?_⟩
      by_cases hk : k < ys.length
      · rw [List.getElem?_append_left hk] at e
        exact hR k y' _ _ ((t2.trans t3).trans tD) (eR k y' e)
      · have hk2 : k = j := by
          have : k < (ys ++ [y]).length := (List.getElem?_eq_some_iff.mp e).1
          rw [List.length_append, List.length_singleton] at this
          omega
        subst hk2
        rw [List.getElem?_append_right (by omega), el1, Nat.sub_self] at e
        simp at e
        subst e
        exact hR k y _ _ tD r3
  · have e : j = n := by omega
    subst e
    exact .inl ⟨hst H1 sm, hq D H1 ys hD sm z eD el1 eR⟩
theorem Sm.sqL {K : PySem.W.Frag} {H H' : Hp} {a : Addr} {xs : List V} (e : Sm M H H') (n : ¬ M a) (h : SqL K H a xs) : SqL K H' a xs := by
  rcases h with (h | ⟨o, h⟩) | h
  · exact .inl (.inl (e _ _ n h))
  · exact .inl (.inr ⟨o, e _ _ n h⟩)
  · exact .inr h
theorem Sm.sqT {K : PySem.W.Frag} {H H' : Hp} {a : Addr} {xs : List V} (e : Sm M H H') (n : ¬ M a) (h : SqT K H a xs) : SqT K H' a xs := by
  rcases h with (h | ⟨o, h⟩) | h
  · exact .inl (.inl (e _ _ n h))
  · exact .inl (.inr ⟨o, e _ _ n h⟩)
  · exact .inr h
/-- what a comprehension wants of the walk J -/
def LcG (J : It) (g : TG) (tt : TT) (te : TE) (vs : List Nat) (σ : L2.St) (H1 : Hp) (Q : VK) : Prop :=
  ∀ D, H1 D = none → ∃ W : Nat → Nat → Hp → Prop, (∃ m, W 0 m (upd H1 D (.lst []))) ∧ ∀ i m H, W i m H →
  (J.stop i H ∧ Q (.ref D) H) ∨ (J.go i H ∧ ∃ Nx : Hp → Prop, (∀ H', Nx H' → ∃ m', m' < m ∧ W (i + 1) m' H') ∧ ∀ x H', J.yld i H x H' → g x (wipe σ vs) H' fun σ2 H2 => wipe σ2 vs = wipe σ vs ∧ tt σ2 H2 fun b H3 =>
    if b = true then te σ2 H3 fun y H4 => ∃ acc, H4 D = some (.lst acc) ∧ acc.length < sizeLine ∧ Nx (upd H4 D (.lst (acc ++ [y]))) else Nx H3)
theorem tlc_of {wi : TI} {g : TG} {tt : TT} {te : TE} {vs : List Nat} (h : wi σ H fun J H1 => LcG J g tt te vs σ H1 Q) : tLc wi g tt te vs σ H Q := h
abbrev LcGoal (J : It) (i : Nat) (el : TE) (σ : L2.St) (H : Hp) (Q : VK) : Prop := LcG J (gName i) tYes el [i] σ H Q
/-- what a for wants of the walk J -/
def ForG (J : It) (g : TG) (tb : TS) (D : Ends) (σ : L2.St) (H : Hp) : Prop := ∃ W : Nat → Nat → L2.St → Hp → Prop, (∃ m, W 0 m σ H) ∧ ∀ i m σ H, W i m σ H →
  (J.stop i H ∧ D.nx σ H) ∨ (J.go i H ∧ ∃ N : L2.St → Hp → Prop, (∀ σ' H', N σ' H' → ∃ m', m' < m ∧ W (i + 1) m' σ' H') ∧ ∀ x H', J.yld i H x H' → g x σ H' fun σ2 H2 => tb { D with nx := N, ct := N, bk := D.nx } σ2 H2)
theorem tfor_of {wi : TI} {g : TG} {tb : TS} {D : Ends} (h : wi σ H fun J H1 => ForG J g tb D σ H1) : tFor wi g tb D σ H := h
theorem for_l {K : PySem.W.Frag} {a : Addr} {xs : List V} {g : TG} {tb : TS} {D : Ends} (Pv : Nat → L2.St → Hp → Prop) (h0 : Pv 0 σ H) (hl : ∀ i σ H, i ≤ xs.length → Pv i σ H → SqL K H a xs)
    (hs : ∀ i x σ H, xs[i]? = some x → Pv i σ H → g x σ H fun σ2 H2 => tb { D with nx := Pv (i + 1), ct := Pv (i + 1), bk := D.nx } σ2 H2) (hd : ∀ σ H, Pv xs.length σ H → D.nx σ H) : ForG (Itl K a) g tb D σ H := for_list Pv h0 hl hs hd
theorem for_t {K : PySem.W.Frag} {a : Addr} {xs : List V} {g : TG} {tb : TS} {D : Ends} (Pv : Nat → L2.St → Hp → Prop) (h0 : Pv 0 σ H) (hl : ∀ i σ H, i ≤ xs.length → Pv i σ H → SqT K H a xs)
    (hs : ∀ i x σ H, xs[i]? = some x → Pv i σ H → g x σ H fun σ2 H2 => tb { D with nx := Pv (i + 1), ct := Pv (i + 1), bk := D.nx } σ2 H2) (hd : ∀ σ H, Pv xs.length σ H → D.nx σ H) : ForG (Itt K a) g tb D σ H := for_tup Pv h0 hl hs hd
theorem for_r {lo : Int} {g : TG} {tb : TS} {D : Ends} (Pv : Nat → L2.St → Hp → Prop) (h0 : Pv 0 σ H)
    (hs : ∀ i σ H, i < n → Pv i σ H → g (.int (lo + (i : Nat))) σ H fun σ2 H2 => tb { D with nx := Pv (i + 1), ct := Pv (i + 1), bk := D.nx } σ2 H2) (hd : ∀ σ H, Pv n σ H → D.nx σ H) : ForG (Itr lo n) g tb D σ H := for_range Pv h0 hs hd
/-- while, by an invariant with a measure -/
theorem twhile_of {c : TT} {tb : TS} {D : Ends} (W : Nat → L2.St → Hp → Prop) {m : Nat} (h0 : W m σ H) (hs : ∀ m σ H, W m σ H →
  c σ H fun b H1 => if b = true then ∃ N : L2.St → Hp → Prop, (∀ σ' H', N σ' H' → ∃ m', m' < m ∧ W m' σ' H') ∧ tb { D with nx := N, ct := N, bk := D.nx } σ H1 else D.nx σ H1) : tWhile c tb D σ H := ⟨W, ⟨m, h0⟩, hs⟩
/-- over a range -/
theorem lc_rngM {lo : Int} (hn : n ≤ sizeLine) (hM : ∀ b, M b → H b ≠ none) (z0 : Z H) (hZ : ∀ D o H1, H D = none → Z H1 → Z (upd H1 D o)) (hR : ∀ j y H1 H2, Tk H1 H2 → R j y H1 → R j y H2) (hMf : ∀ H1 b o, Z H1 → M b → H1 b = some o → ¬ Fix o)
    (hs : ∀ j H1 (k : VK), j < n → Sm M H H1 → Z H1 → (∀ y H2, Sm M H1 H2 → Z H2 → R j y H2 → k y H2) → el ((wipe σ [i]).set i (some (.int (lo + (j : Nat))))) H1 k)
    (hq : ∀ D H2 ys, H D = none → Sm M H H2 → Z H2 → H2 D = some (.lst ys) → ys.length = n → (∀ j y, ys[j]? = some y → R j y H2) → Q (.ref D) H2) : LcGoal (Itr lo n) i el σ H Q :=
  lc_gen (I := fun j x _ => x = .int (lo + (j : Nat))) hn hM z0 hZ hR hMf (fun j H1 h _ => h) (fun H1 _ => Nat.le_refl _) (fun j H1 x H2 _ _ z y => by
    obtain ⟨e, y⟩ := y
    subst e
    exact ⟨Sm.refl _, z, y⟩) (fun j x H1 k hj sm z e kk => by
    subst e
    exact hs j H1 k hj sm z kk) hq
/-- over a list, over a tuple, that stand still -/
theorem lc_lstM {K : PySem.W.Frag} {a : Addr} {xs : List V} (hx : SqL K H a xs) (na : ¬ M a) (hn : xs.length ≤ sizeLine) (hM : ∀ b, M b → H b ≠ none) (z0 : Z H) (hZ : ∀ D o H1, H D = none → Z H1 → Z (upd H1 D o)) (hR : ∀ j y H1 H2, Tk H1 H2 → R j y H1 → R j y H2) (hMf : ∀ H1 b o, Z H1 → M b → H1 b = some o → ¬ Fix o)
    (hs : ∀ j x H1 (k : VK), xs[j]? = some x → Sm M H H1 → Z H1 → (∀ y H2, Sm M H1 H2 → Z H2 → R j y H2 → k y H2) → el ((wipe σ [i]).set i (some x)) H1 k)
    (hq : ∀ D H2 ys, H D = none → Sm M H H2 → Z H2 → H2 D = some (.lst ys) → ys.length = xs.length → (∀ j y, ys[j]? = some y → R j y H2) → Q (.ref D) H2) : LcGoal (Itl K a) i el σ H Q :=
  lc_gen (I := fun j x _ => xs[j]? = some x) hn hM z0 hZ hR hMf (fun j H1 h s => ⟨xs, xs[j], s.sqL na hx, by simp [h]⟩) (fun H1 s => ⟨xs, s.sqL na hx, Nat.le_refl _⟩) (fun j H1 x H2 _ s z y => by
    obtain ⟨e, y⟩ := y
    subst e
    exact ⟨Sm.refl _, z, y xs (s.sqL na hx)⟩) (fun j x H1 k hj sm z e kk => hs j x H1 k e sm z kk) hq
theorem lc_tupM {K : PySem.W.Frag} {a : Addr} {xs : List V} (hx : SqT K H a xs) (na : ¬ M a) (hn : xs.length ≤ sizeLine) (hM : ∀ b, M b → H b ≠ none) (z0 : Z H) (hZ : ∀ D o H1, H D = none → Z H1 → Z (upd H1 D o)) (hR : ∀ j y H1 H2, Tk H1 H2 → R j y H1 → R j y H2) (hMf : ∀ H1 b o, Z H1 → M b → H1 b = some o → ¬ Fix o)
    (hs : ∀ j x H1 (k : VK), xs[j]? = some x → Sm M H H1 → Z H1 → (∀ y H2, Sm M H1 H2 → Z H2 → R j y H2 → k y H2) → el ((wipe σ [i]).set i (some x)) H1 k)
    (hq : ∀ D H2 ys, H D = none → Sm M H H2 → Z H2 → H2 D = some (.lst ys) → ys.length = xs.length → (∀ j y, ys[j]? = some y → R j y H2) → Q (.ref D) H2) : LcGoal (Itt K a) i el σ H Q :=
  lc_gen (I := fun j x _ => xs[j]? = some x) hn hM z0 hZ hR hMf (fun j H1 h s => ⟨xs, xs[j], s.sqT na hx, by simp [h]⟩) (fun H1 s => ⟨xs, s.sqT na hx, Nat.le_refl _⟩) (fun j H1 x H2 _ s z y => by
    obtain ⟨e, y⟩ := y
    subst e
    exact ⟨Sm.refl _, z, y xs (s.sqT na hx)⟩) (fun j x H1 k hj sm z e kk => hs j x H1 k e sm z kk) hq
theorem lc_strM {x : Str} (hn : x.cps.size ≤ sizeLine) (hM : ∀ b, M b → H b ≠ none) (z0 : Z H) (hZ : ∀ D o H1, H D = none → Z H1 → Z (upd H1 D o)) (hR : ∀ j y H1 H2, Tk H1 H2 → R j y H1 → R j y H2) (hMf : ∀ H1 b o, Z H1 → M b → H1 b = some o → ¬ Fix o)
    (hs : ∀ j c H1 (k : VK), x.cps[j]? = some c → Sm M H H1 → Z H1 → (∀ y H2, Sm M H1 H2 → Z H2 → R j y H2 → k y H2) → el ((wipe σ [i]).set i (some (.str ⟨#[c]⟩))) H1 k)
    (hq : ∀ D H2 ys, H D = none → Sm M H H2 → Z H2 → H2 D = some (.lst ys) → ys.length = x.cps.size → (∀ j y, ys[j]? = some y → R j y H2) → Q (.ref D) H2) : LcGoal (Its x) i el σ H Q :=
  lc_gen (n := x.cps.size) (I := fun j v _ => ∃ c, x.cps[j]? = some c ∧ v = .str ⟨#[c]⟩) hn hM z0 hZ hR hMf (fun j H1 h s => h) (fun H1 s => Nat.le_refl _) (fun j H1 v H2 _ s z y => by
    obtain ⟨e, y⟩ := y
    subst e
    exact ⟨Sm.refl _, z, y⟩) (fun j v H1 k hj sm z e kk => by
    obtain ⟨c, e1, e2⟩ := e
    subst e2
    exact hs j c H1 k e1 sm z kk) hq
/-! the same where nothing changes -/
theorem lc_rng {lo : Int} (hn : n ≤ sizeLine) (hR : ∀ j y H1 H2, Tk H1 H2 → R j y H1 → R j y H2)
    (hs : ∀ j H1 (k : VK), j < n → Same H H1 → (∀ y H2, Same H1 H2 → R j y H2 → k y H2) → el ((wipe σ [i]).set i (some (.int (lo + (j : Nat))))) H1 k)
    (hq : ∀ D H2 ys, H D = none → Same H H2 → H2 D = some (.lst ys) → ys.length = n → (∀ j y, ys[j]? = some y → R j y H2) → Q (.ref D) H2) : LcGoal (Itr lo n) i el σ H Q :=
  lc_rngM (M := M0) (Z := fun _ => True) hn (fun _ m => m.elim) trivial (fun _ _ _ _ _ => trivial) hR (fun _ _ _ _ m => m.elim) (fun j H1 k hj sm _ kk => hs j H1 k hj sm.same fun y H2 s2 r => kk y H2 (Sm.of s2) trivial r)
    (fun D H2 ys hD sm _ e l r => hq D H2 ys hD sm.same e l r)
theorem lc_lst {K : PySem.W.Frag} {a : Addr} {xs : List V} (hx : SqL K H a xs) (hn : xs.length ≤ sizeLine) (hR : ∀ j y H1 H2, Tk H1 H2 → R j y H1 → R j y H2)
    (hs : ∀ j x H1 (k : VK), xs[j]? = some x → Same H H1 → (∀ y H2, Same H1 H2 → R j y H2 → k y H2) → el ((wipe σ [i]).set i (some x)) H1 k)
    (hq : ∀ D H2 ys, H D = none → Same H H2 → H2 D = some (.lst ys) → ys.length = xs.length → (∀ j y, ys[j]? = some y → R j y H2) → Q (.ref D) H2) : LcGoal (Itl K a) i el σ H Q :=
  lc_lstM (M := M0) (Z := fun _ => True) hx (fun m => m) hn (fun _ m => m.elim) trivial (fun _ _ _ _ _ => trivial) hR (fun _ _ _ _ m => m.elim) (fun j x H1 k hj sm _ kk => hs j x H1 k hj sm.same fun y H2 s2 r => kk y H2 (Sm.of s2) trivial r)
    (fun D H2 ys hD sm _ e l r => hq D H2 ys hD sm.same e l r)
theorem lc_tup {K : PySem.W.Frag} {a : Addr} {xs : List V} (hx : SqT K H a xs) (hn : xs.length ≤ sizeLine) (hR : ∀ j y H1 H2, Tk H1 H2 → R j y H1 → R j y H2)
    (hs : ∀ j x H1 (k : VK), xs[j]? = some x → Same H H1 → (∀ y H2, Same H1 H2 → R j y H2 → k y H2) → el ((wipe σ [i]).set i (some x)) H1 k)
    (hq : ∀ D H2 ys, H D = none → Same H H2 → H2 D = some (.lst ys) → ys.length = xs.length → (∀ j y, ys[j]? = some y → R j y H2) → Q (.ref D) H2) : LcGoal (Itt K a) i el σ H Q :=
  lc_tupM (M := M0) (Z := fun _ => True) hx (fun m => m) hn (fun _ m => m.elim) trivial (fun _ _ _ _ _ => trivial) hR (fun _ _ _ _ m => m.elim) (fun j x H1 k hj sm _ kk => hs j x H1 k hj sm.same fun y H2 s2 r => kk y H2 (Sm.of s2) trivial r)
    (fun D H2 ys hD sm _ e l r => hq D H2 ys hD sm.same e l r)
theorem lc_str {x : Str} (hn : x.cps.size ≤ sizeLine) (hR : ∀ j y H1 H2, Tk H1 H2 → R j y H1 → R j y H2)
    (hs : ∀ j c H1 (k : VK), x.cps[j]? = some c → Same H H1 → (∀ y H2, Same H1 H2 → R j y H2 → k y H2) → el ((wipe σ [i]).set i (some (.str ⟨#[c]⟩))) H1 k)
    (hq : ∀ D H2 ys, H D = none → Same H H2 → H2 D = some (.lst ys) → ys.length = x.cps.size → (∀ j y, ys[j]? = some y → R j y H2) → Q (.ref D) H2) : LcGoal (Its x) i el σ H Q :=
  lc_strM (M := M0) (Z := fun _ => True) hn (fun _ m => m.elim) trivial (fun _ _ _ _ _ => trivial) hR (fun _ _ _ _ m => m.elim) (fun j x H1 k hj sm _ kk => hs j x H1 k hj sm.same fun y H2 s2 r => kk y H2 (Sm.of s2) trivial r)
    (fun D H2 ys hD sm _ e l r => hq D H2 ys hD sm.same e l r)
end
/-! ### enumerate(list) -/
theorem for_e {K : PySem.W.Frag} {a : Addr} {xs : List V} {g : TG} {tb : TS} {D : Ends} {σ : L2.St} {H : Hp} (Pv : Nat → L2.St → Hp → Prop) (h0 : Pv 0 σ H) (hl : ∀ i σ H, i ≤ xs.length → Pv i σ H → SqL K H a xs)
    (hs : ∀ (i : Nat) x σ H T, xs[i]? = some x → Pv i σ H → H T = none → g (.ref T) σ (upd H T (.tup [.int (i : Nat), x])) fun σ2 H2 => tb { D with nx := Pv (i + 1), ct := Pv (i + 1), bk := D.nx } σ2 H2) (hd : ∀ σ H, Pv xs.length σ H → D.nx σ H) : ForG (Ite K a) g tb D σ H := by
  refine ⟨fun i m σ H => m = xs.length - i ∧ i ≤ xs.length ∧ Pv i σ H, ⟨xs.length, by simp, Nat.zero_le _, h0⟩, ?_⟩
  rintro i m σ H ⟨rfl, hi, p⟩
  have q := hl i σ H hi p
  by_cases hlt : i < xs.length
  · refine .inr ⟨⟨xs, xs[i], q, by simp [hlt]⟩, Pv (i + 1), fun σ' H' p' => ⟨xs.length - (i + 1), by omega, rfl, hlt, p'⟩, fun x H' y => ?_⟩
    obtain ⟨T, x1, rfl, nT, rfl, f1⟩ := y
    exact hs i x1 σ _ T (f1 xs q) p nT
  · have e : i = xs.length := by omega
    subst e
    exact .inl ⟨⟨xs, q, Nat.le_refl _⟩, hd σ H p⟩
/-! ### defs with defaults -/
def GdD (K : PySem.W.Frag) (mg : Str → Option Value) (x : Str) (st : Stmt) (dvs : List V) : Prop := ∃ f fd, FunD K x x (defArgs st) (defBody st) (defScope st) dvs [] f fd ∧ mg x = some (.ref f)
theorem okfD_mk {P : Program} {w : World} {K : PySem.W.Frag} {mg : Str → Option Value} {base : Heap} {x : Str} {st : Stmt} {N ps : List Str} {k : Nat} {sp : Sp} {dvs : List V} (n j : Nat) (G : GdD K mg x st dvs) (S : FnScope N ps (defScope st)) (hd : dvs ≠ []) (hn : n + (dvs.length - j) = ps.length)
    (hb : ∀ (T : Addr) (kV doc pm : Value) (an : Option Addr) (cdv ct : Value) (us its : List Value), us.length = n → its.length = dvs.length →
      ∃ k, bindArgs (PySem.W.fnOf x x (defArgs st) (defBody st) (defScope st) (.ref T) kV doc pm an cdv ct) ⟨us, []⟩ = seqItems? (.ref T) >>= k ∧ k (some its.toArray) = pure (ps.zip (us ++ its.drop j)))
    (len : ∀ vs H Q E, sp vs H Q E → vs.length = ps.length)
    (hbody : ∀ {f : Addr} (cdv : Value) (A : Around) (outer : List Env) (s : Shared) (H : Hp) (vs : List V) (Q : VK) (E : XK), Room k (A.deeper (envOfC x (defScope st) s.heap.objs.size f cdv)) → sp vs H Q E →
      ∃ t, PSs (cxOf CX0 P w K mg base N x (defScope st) f cdv A outer s H E).nox (defBody st) t ∧ t { nx := fun _ H' => Q .non H', rt := Q } (L2.start N vs) H) : Okf P w K mg base x (k + 1) ps (dvs.drop j) sp := by
  obtain ⟨f, fd, F, g⟩ := G
  obtain ⟨ds, hv, hB⟩ := F.binds1 n j hd hn hb
  exact ⟨f, fd, ds, g, F.kp, hv, hB, by obtain ⟨_, _, _, _, _, _, _, _, _, _, _, h, _⟩ := F.ex; exact ⟨_, h, rfl⟩, F.ok S len fun cdv A outer s H vs Q E hr h => by
    obtain ⟨t, h1, h2⟩ := hbody cdv A outer s H vs Q E hr h
    exact ⟨t, h1.nox, h2⟩⟩
section
variable {K : PySem.W.Frag} {H : Hp} {Q : VK} {a b l : Addr} {xs zs : List V} {y : V}
theorem neNilR (h : H a = some (.lst xs)) (n : H b = none) (q : Q (.bl (!xs.isEmpty)) (upd H b (.lst []))) : rNeNil K (.ref a) (.ref b) (upd H b (.lst [])) Q :=
  ⟨a, b, xs, rfl, rfl, SqL.of (by rw [upd_ne (ne_of_none h n)]; exact h), SqL.of upd_same, q⟩
theorem popR (h : H l = some (.lst (xs ++ [y]))) (q : Q y (upd H l (.lst xs))) : rPop (.ref l) [] H Q :=
  ⟨l, _, y, rfl, rfl, h, by simp, by rw [List.dropLast_concat]; exact q⟩
theorem appR (h : H l = some (.lst xs)) (hz : xs.length < sizeLine) (q : Q .non (upd H l (.lst (xs ++ [y])))) : rAppend (.ref l) [y] H Q := ⟨l, xs, y, rfl, rfl, h, hz, q⟩
theorem extT (h : H l = some (.lst xs)) (hb : H b = some (.tup zs)) (hz : xs.length + zs.length ≤ sizeLine) (q : Q .non (upd H l (.lst (xs ++ zs)))) : rExtendT K (.ref l) [.ref b] H Q := ⟨l, b, xs, zs, rfl, rfl, h, hb, hz, q⟩
theorem extL (h : H l = some (.lst xs)) (hb : H b = some (.lst zs)) (hz : xs.length + zs.length ≤ sizeLine) (q : Q .non (upd H l (.lst (xs ++ zs)))) : rExtend (.ref l) [.ref b] H Q := ⟨l, b, xs, zs, rfl, rfl, h, hb, hz, q⟩
theorem tyL (h : H l = some (.lst xs)) : tyV K "list" (.ref l) H := .inl ⟨rfl, xs, SqL.of h⟩
theorem cut1 (y : V) (xs : List V) : cutV (y :: xs) (some 1) none = xs := by
  unfold cutV
  rw [show HT.sIx (y :: xs).length 0 (some 1) = min 1 (y :: xs).length from HT.sIx_nat _ 0 1, HT.sIx_none]
  rw [show min 1 (y :: xs).length = 1 by rw [List.length_cons]; omega]
  show (List.take ((y :: xs).length - 1) xs) = xs
  rw [List.length_cons, Nat.add_sub_cancel]
  exact List.take_length
theorem slT1 (h : SqT K H a (y :: xs)) (q : ∀ p, H p = none → Q (.ref p) (upd H p (.tup xs))) : rSlA K (.ref a) (some 1) none H Q := by
  have e : HT.sIx (y :: xs).length 0 (some 1) = 1 := by
    rw [show HT.sIx (y :: xs).length 0 (some 1) = min 1 (y :: xs).length from HT.sIx_nat _ 0 1, List.length_cons]
    omega
  refine ⟨a, _, rfl, h, fun z => ?_, fun _ p hp => ?_⟩
  · rw [e] at z
    exact absurd z.1 (by decide)
  · rw [cut1]
    exact q p hp
theorem concat_or {α : Type} (l : List α) : l = [] ∨ ∃ r x, l = r ++ [x] := by
  cases l with
  | nil => exact .inl rfl
  | cons a t => exact .inr ⟨(a :: t).dropLast, (a :: t).getLast (List.cons_ne_nil _ _), (List.dropLast_concat_getLast _).symm⟩
theorem DpAll.snoc {ds : List PyData} {d : PyData} {vs : List V} (h : DpAll K H vs (ds ++ [d])) : ∃ us v, vs = us ++ [v] ∧ DpAll K H us ds ∧ Dp K H v d := by
  obtain ⟨us, ws, rfl, h1, h2⟩ := DpAll.split h
  cases h2 with
  | cons h3 h4 => cases h4; exact ⟨us, _, rfl, h1, h3⟩
theorem DpAll.nil_iff {ds : List PyData} {vs : List V} (h : DpAll K H vs ds) : vs.isEmpty = ds.isEmpty := by cases h <;> rfl
end
end HM

namespace HM
open PySem PySem.Spec PyProof.Rows L2
section
variable {X : Cx}
def CPowW (i j : Int) : Prop := 0 ≤ j ∧ (Builtin.Int.intBits i : Int) * j ≤ 2 ^ 27
theorem op_powW : OpR X (binaryOp .Pow) (rI CPowW fun i j => .int (i ^ j.toNat)) := opI fun _ _ _ _ _ _ _ hc q => pow_int hc.1 hc.2 q
/-- a text k times -/
def repS (z : Str) (k : Nat) : Str := ⟨(List.replicate k z.cps.toList).flatten.toArray⟩
theorem foldl_app (a : Array Nat) : ∀ (k : Nat) (acc : Array Nat), (List.replicate k a).foldl (· ++ ·) acc = acc ++ (List.replicate k a.toList).flatten.toArray
  | 0, acc => by simp
  | k + 1, acc => by
    rw [List.replicate_succ, List.foldl_cons, foldl_app a k, List.replicate_succ, List.flatten_cons]
    apply Array.ext'
    simp
def rMulS : R2 := fun x y H Q => ∃ z k, x = .str z ∧ y = .int k ∧ 0 ≤ k ∧ k ≤ 100000 ∧ z.length * k.toNat ≤ 100000 ∧ Q (.str (repS z k.toNat)) H
theorem op_mulS : OpR X (binaryOp .Mult) rMulS := by
  intro pins s σ H x y v u Q I rx ry h
  obtain ⟨z, k, rfl, rfl, h0, h1, h2, q⟩ := h
  obtain ⟨t, rfl⟩ := rx
  obtain ⟨t', rfl⟩ := ry
  refine P.mul_str (by simp; omega) (fun a b => ?_) (fun a b => ?_) ?_
  · have h3 : (z.length : Int) * k ≤ 100000 := by
      have : ((z.length * k.toNat : Nat) : Int) ≤ 100000 := by omega
      rw [Int.natCast_mul, Int.toNat_of_nonneg h0] at this
      exact this
    intro c
    have h4 : (z.length : Int) ≤ 100000 := by
      have : (z.length : Int) * 1 ≤ (z.length : Int) * k := Int.mul_le_mul_of_nonneg_left (by omega) (by omega)
      omega
    have h5 : (100000 : Int) ≤ (2 ^ 63 - 1) / k := by
      apply Int.le_ediv_of_mul_le (by omega)
      omega
    omega
  · unfold Builtin.Str.tooLong
    apply decide_eq_false
    have : (100000 : Nat) ≤ sizeLine := by decide
    omega
  · by_cases c : k < 1
    · rw [if_pos c]
      have : k = 0 := by omega
      subst this
      exact ⟨by decide, .str (repS z 0), H, I.tok _, ⟨s.toks, by rw [show repS z 0 = Str.empty from by simp [repS]; rfl]⟩, q⟩
    · rw [if_neg c]
      by_cases d : (k == 1 || z.length == 0) = true
      · rw [if_pos d]
        refine ⟨.str (repS z k.toNat), H, I, ⟨t, ?_⟩, q⟩
        have : repS z k.toNat = z := by
          rw [Bool.or_eq_true] at d
          rcases d with d | d
          · have : k = 1 := by simpa using d
            subst this
            simp [repS]
          · have h0 : z.cps.size = 0 := (show z.length = 0 by simpa using d)
            have h1 : z.cps = #[] := Array.eq_empty_of_size_eq_zero h0
            obtain ⟨c⟩ := z
            simp at h1
            subst h1
            simp [repS]
        rw [this]
      · rw [if_neg d]
        have e : (⟨(List.replicate k.toNat z.cps).foldl (· ++ ·) #[]⟩ : Str) = repS z k.toNat := by
          unfold repS
          rw [foldl_app]
          simp
        rw [e]
        refine ⟨?_, .str (repS z k.toNat), H, I.tok _, ⟨_, rfl⟩, q⟩
        show (repS z k.toNat).cps.size ≤ sizeLine
        have e2 : (repS z k.toNat).cps.size = z.length * k.toNat := by
          unfold repS
          simp [List.length_flatten]
          show k.toNat * z.cps.size = z.cps.size * k.toNat
          rw [Nat.mul_comm]
        rw [e2]
        exact Nat.le_trans h2 (by decide)
end
end HM

namespace HM
open PySem PySem.Spec PyProof.Rows L2
/-! ### written data: what an expression evaluates to, as data -/
section
variable {K : PySem.W.Frag} {σ : L2.St} {H : Hp} {Q : VK} {d : PyData} {ds : List PyData} {te : TE} {ta : TA}
def EvD (K : PySem.W.Frag) (te : TE) (σ : L2.St) (H : Hp) (d : PyData) : Prop := ∀ H1, Same H H1 → ∀ Q : VK, (∀ v H2, Same H1 H2 → Dp K H2 v d → Q v H2) → te σ H1 Q
def EvDs (K : PySem.W.Frag) (ta : TA) (σ : L2.St) (H : Hp) (ds : List PyData) : Prop := ∀ H1, Same H H1 → ∀ Q : List V → Hp → Prop, (∀ vs H2, Same H1 H2 → DpAll K H2 vs ds → Q vs H2) → ta σ H1 Q
theorem evd_int {i : Int} : EvD K (tC (.int i)) σ H (.int i) := fun H1 _ _ q => q _ H1 (Same.refl H1) (.int i)
theorem evd_str {x : Str} : EvD K (tC (.str x)) σ H (.str x) := fun H1 _ _ q => q _ H1 (Same.refl H1) (.str x)
theorem evd_bl {b : Bool} : EvD K (tC (.bl b)) σ H (.bool b) := fun H1 _ _ q => q _ H1 (Same.refl H1) (.bl b)
theorem evd_non : EvD K (tC .non) σ H .none := fun H1 _ _ q => q _ H1 (Same.refl H1) .non
theorem evd_neg {i : Int} : EvD K (tUn (rU fun i => .int (-i)) (tC (.int i))) σ H (.int (-i)) := fun H1 _ _ q => ⟨i, rfl, q _ H1 (Same.refl H1) (.int (-i))⟩
theorem evd_var {i : Nat} {v : V} (e : σ[i]? = some (some v)) (h : Dp K H v d) : EvD K (tVar i) σ H d := fun H1 s _ q => ⟨v, e, q _ H1 (Same.refl H1) (Dp.same s _ _ h)⟩
theorem evds_nil : EvDs K tNil σ H [] := fun H1 _ _ q => q [] H1 (Same.refl H1) .nil
theorem evds_cons (h : EvD K te σ H d) (hr : EvDs K ta σ H ds) : EvDs K (tCons te ta) σ H (d :: ds) := fun H1 s1 _ q =>
  h H1 s1 _ fun v H2 s2 dv => hr H2 (s1.trans s2) _ fun vs H3 s3 dvs => q _ H3 (s2.trans s3) (.cons (Dp.same s3 _ _ dv) dvs)
theorem evd_tup (h : EvDs K ta σ H ds) (hl : ds.length ≤ 100000) : EvD K (tTup ta) σ H (.tuple ds) := fun H1 s1 _ q =>
  h H1 s1 _ fun vs H2 s2 dvs => ⟨Nat.le_trans (by rw [DpAll.length dvs]; exact hl) (by decide), fun p np => q _ _ (s2.trans (same_upd np)) (.tup (SqT.of upd_same) (DpAll.same (same_upd np) _ _ dvs))⟩
theorem evd_lst (h : EvDs K ta σ H ds) (hl : ds.length ≤ 100000) : EvD K (tLst ta) σ H (.list ds) := fun H1 s1 _ q =>
  h H1 s1 _ fun vs H2 s2 dvs => ⟨Nat.le_trans (by rw [DpAll.length dvs]; exact hl) (by decide), fun p np => q _ _ (s2.trans (same_upd np)) (.lst (SqL.of upd_same) (DpAll.same (same_upd np) _ _ dvs))⟩
theorem evd_use (h : EvD K te σ H d) (q : ∀ v H2, Same H H2 → Dp K H2 v d → Q v H2) : te σ H Q := h H (Same.refl H) Q q
theorem evl_use (h : EvDs K ta σ H ds) (hl : ds.length ≤ 100000) (q : ∀ p H2 vs, Same H H2 → H p = none → H2 p = some (.lst vs) → DpAll K H2 vs ds → Q (.ref p) H2) : tLst ta σ H Q :=
  h H (Same.refl H) _ fun vs H2 s2 dvs => ⟨Nat.le_trans (by rw [DpAll.length dvs]; exact hl) (by decide), fun p np => q p _ vs (s2.trans (same_upd np)) (s2.free np) upd_same (DpAll.same (same_upd np) _ _ dvs)⟩
theorem DpAll.mem : ∀ {vs : List V} {ds : List PyData} {v : V}, DpAll K H vs ds → v ∈ vs → ∃ d ∈ ds, Dp K H v d
  | _, _, _, .nil, h => by cases h
  | _, _, v, .cons (d := d) h t, hm => by
    rcases List.mem_cons.mp hm with rfl | hm
    · exact ⟨d, List.mem_cons_self, h⟩
    · obtain ⟨e, he, h2⟩ := DpAll.mem t hm
      exact ⟨e, List.mem_cons_of_mem _ he, h2⟩
end
/-! ### [e for a, b in enumerate(xs)] -/
theorem wipe2 (σ : L2.St) (i j : Nat) (u v : Option V) : wipe (((wipe σ [i, j]).set i u).set j v) [i, j] = wipe σ [i, j] := by
  show ((((((σ.set j none).set i none).set i u).set j v).set j none).set i none) = (σ.set j none).set i none
  apply List.ext_getElem?
  intro k
  simp only [List.getElem?_set, List.length_set]
  by_cases h1 : i = k
  · simp [h1]
  · by_cases h2 : j = k
    · simp [h1, h2]
    · simp [h1, h2]
section
variable {R : Nat → V → Hp → Prop} {i j n2 : Nat} {σ : L2.St} {el : TE} {H : Hp} {Q : VK} {K : PySem.W.Frag} {a : Addr} {xs : List V}
theorem lc_e (hn2 : n2 = 2) (hx : SqL K H a xs) (hn : xs.length ≤ sizeLine) (hR : ∀ m y H1 H2, Tk H1 H2 → R m y H1 → R m y H2)
    (hs : ∀ (m : Nat) x H1 (k : VK), xs[m]? = some x → Same H H1 → (∀ y H2, Same H1 H2 → R m y H2 → k y H2) → el (((wipe σ [i, j]).set i (some (.int (m : Nat)))).set j (some x)) H1 k)
    (hq : ∀ D H2 ys, H D = none → Same H H2 → H2 D = some (.lst ys) → ys.length = xs.length → (∀ m y, ys[m]? = some y → R m y H2) → Q (.ref D) H2) :
    LcG (Ite K a) (gTup K n2 (gCons (gName i) (gCons (gName j) gNil))) tYes el [i, j] σ H Q := by
  subst hn2
  intro D hD
  let Pv : Nat → Hp → Prop := fun m H1 => Same H H1 ∧ ∃ ys, H1 D = some (.lst ys) ∧ ys.length = m ∧ ∀ k y, ys[k]? = some y → R k y H1
  refine ⟨fun m c H1 => c = xs.length - m ∧ m ≤ xs.length ∧ Pv m H1, ⟨xs.length, by simp, Nat.zero_le _, same_upd hD, [], upd_same, rfl, fun k y e => by simp at e⟩, ?_⟩
  rintro m c H1 ⟨rfl, hm, sm, ys, eD, el1, eR⟩
  by_cases hlt : m < xs.length
  · refine .inr ⟨⟨xs, xs[m], sm.seq hx, by simp [hlt]⟩, Pv (m + 1), fun H' p' => ⟨xs.length - (m + 1), by omega, rfl, hlt, p'⟩, fun v H2 yl => ?_⟩
    obtain ⟨T, x, rfl, nT, rfl, f1⟩ := yl
    have hx1 := f1 xs (sm.seq hx)
    have s2 : Same H1 (upd H1 T (.tup [.int (m : Nat), x])) := same_upd nT
    refine ⟨T, _, rfl, SqT.of upd_same, rfl, _, _, rfl, _, _, rfl, rfl, wipe2 σ i j _ _, ?_⟩
    show el (((wipe σ [i, j]).set i (some (.int (m : Nat)))).set j (some x)) _ _
    refine hs m x _ _ hx1 (sm.trans s2) fun y H3 s3 r3 => ?_
    have eD3 : H3 D = some (.lst ys) := s3 D _ (s2 D _ eD)
    have tD : Tk H3 (upd H3 D (.lst (ys ++ [y]))) := Tk.upd fun u e => by rw [eD3] at e; cases e; exact fun f => f
    have hl : ys.length < sizeLine := by rw [el1]; omega
    refine ⟨ys, eD3, hl, Same.mut (sm.trans (s2.trans s3)) hD, ys ++ [y], upd_same, by rw [List.length_append, el1]; rfl, fun k y' e => ?_⟩
    by_cases hk : k < ys.length
    · rw [List.getElem?_append_left hk] at e
      exact hR k y' _ _ ((Tk.of (s2.trans s3)).trans tD) (eR k y' e)
    · have hk2 : k = m := by
        have : k < (ys ++ [y]).length := (List.getElem?_eq_some_iff.mp e).1
        rw [List.length_append, List.length_singleton] at this
        omega
      subst hk2
      rw [List.getElem?_append_right (by omega), el1, Nat.sub_self] at e
      simp at e
      subst e
      exact hR k y _ _ tD r3
  · have e : m = xs.length := by omega
    subst e
    exact .inl ⟨⟨xs, sm.seq hx, Nat.le_refl _⟩, hq D H1 ys hD sm eD el1 eR⟩
end
end HM

namespace K1
open PySem PySem.Spec PyProof.Rows L2 HM
def tooGreat : Int := 1000000000000000000000000000000000000000000000000000000000000000000000000000000000000000000000000000000000000000000000000000000000000000000000000000000000000000000000000000000000000000000000000000000000000000000000000000000000000000000000000000000000000000000000000000000000000000000000000000000000000
def topS (i : Nat) : Stmt := PySem.Challenge.pw_hornmill_k01_terms_told.main.body.getD i (.Pass ⟨0, 0, 0, 0⟩)
abbrev s_is_int : Stmt := topS 7
theorem sc_is_int : FnScope ["thing"] ["thing"] (defScope s_is_int) := ⟨rfl, rfl, rfl, by decide +kernel, rfl, by decide +kernel, by decide +kernel⟩
abbrev s_is_variable : Stmt := topS 8
theorem sc_is_variable : FnScope ["thing"] ["thing"] (defScope s_is_variable) := ⟨rfl, rfl, rfl, by decide +kernel, rfl, by decide +kernel, by decide +kernel⟩
abbrev s_is_any_number : Stmt := topS 9
theorem sc_is_any_number : FnScope ["thing"] ["thing"] (defScope s_is_any_number) := ⟨rfl, rfl, rfl, by decide +kernel, rfl, by decide +kernel, by decide +kernel⟩
abbrev s_is_any_atom : Stmt := topS 10
theorem sc_is_any_atom : FnScope ["thing", "sign"] ["thing"] (defScope s_is_any_atom) := ⟨rfl, rfl, rfl, by decide +kernel, rfl, by decide +kernel, by decide +kernel⟩
abbrev s_is_compound : Stmt := topS 11
theorem sc_is_compound : FnScope ["term"] ["term"] (defScope s_is_compound) := ⟨rfl, rfl, rfl, by decide +kernel, rfl, by decide +kernel, by decide +kernel⟩
abbrev s_is_term : Stmt := topS 12
theorem sc_is_term : FnScope ["thing", "waiting", "part"] ["thing"] (defScope s_is_term) := ⟨rfl, rfl, rfl, by decide +kernel, rfl, by decide +kernel, by decide +kernel⟩
abbrev s_check_terms : Stmt := topS 13
theorem sc_check_terms : FnScope ["things", "thing"] ["things"] (defScope s_check_terms) := ⟨rfl, rfl, rfl, by decide +kernel, rfl, by decide +kernel, by decide +kernel⟩
abbrev s_parts_of : Stmt := topS 14
theorem sc_parts_of : FnScope ["term", "found", "waiting", "part"] ["term"] (defScope s_parts_of) := ⟨rfl, rfl, rfl, by decide +kernel, rfl, by decide +kernel, by decide +kernel⟩
abbrev s_size_of : Stmt := topS 15
theorem sc_size_of : FnScope ["term"] ["term"] (defScope s_size_of) := ⟨rfl, rfl, rfl, by decide +kernel, rfl, by decide +kernel, by decide +kernel⟩
abbrev s_depth_of : Stmt := topS 16
theorem sc_depth_of : FnScope ["term", "depth", "level", "below", "part"] ["term"] (defScope s_depth_of) := ⟨rfl, rfl, rfl, by decide +kernel, rfl, by decide +kernel, by decide +kernel⟩
abbrev s_numbers_in : Stmt := topS 17
theorem sc_numbers_in : FnScope ["terms", "found", "term", "part"] ["terms"] (defScope s_numbers_in) := ⟨rfl, rfl, rfl, by decide +kernel, rfl, by decide +kernel, by decide +kernel⟩
abbrev s_variables_of : Stmt := topS 18
theorem sc_variables_of : FnScope ["term"] ["term"] (defScope s_variables_of) := ⟨rfl, rfl, rfl, by decide +kernel, rfl, by decide +kernel, by decide +kernel⟩
abbrev s_replaced : Stmt := topS 19
theorem sc_replaced : FnScope ["term", "table", "done", "waiting", "part", "is_ready", "many", "made", "argument"] ["term", "table"] (defScope s_replaced) := ⟨rfl, rfl, rfl, by decide +kernel, rfl, by decide +kernel, by decide +kernel⟩
abbrev s_renumbering : Stmt := topS 20
theorem sc_renumbering : FnScope ["terms", "first", "table", "at", "number"] ["terms", "first"] (defScope s_renumbering) := ⟨rfl, rfl, rfl, by decide +kernel, rfl, by decide +kernel, by decide +kernel⟩
abbrev s_renumbered : Stmt := topS 21
theorem sc_renumbered : FnScope ["term"] ["term"] (defScope s_renumbered) := ⟨rfl, rfl, rfl, by decide +kernel, rfl, by decide +kernel, by decide +kernel⟩
abbrev s__law_cell_at : Stmt := topS 23
theorem sc__law_cell_at : FnScope ["_law_script", "_law_k"] ["_law_script", "_law_k"] (defScope s__law_cell_at) := ⟨rfl, rfl, rfl, by decide +kernel, rfl, by decide +kernel, by decide +kernel⟩
abbrev s__law_well : Stmt := topS 24
theorem sc__law_well : FnScope ["_law_cell"] ["_law_cell"] (defScope s__law_well) := ⟨rfl, rfl, rfl, by decide +kernel, rfl, by decide +kernel, by decide +kernel⟩
abbrev s__law_draw : Stmt := topS 25
theorem sc__law_draw : FnScope ["_law_well_here", "_law_many", "_law_digit", "_law_mixed"] ["_law_well_here", "_law_many"] (defScope s__law_draw) := ⟨rfl, rfl, rfl, by decide +kernel, rfl, by decide +kernel, by decide +kernel⟩
abbrev s__law_one : Stmt := topS 26
theorem sc__law_one : FnScope ["_law_well_here", "_law_some"] ["_law_well_here", "_law_some"] (defScope s__law_one) := ⟨rfl, rfl, rfl, by decide +kernel, rfl, by decide +kernel, by decide +kernel⟩
abbrev s__law_leaf : Stmt := topS 27
theorem sc__law_leaf : FnScope ["_law_well_here", "_law_many", "_law_way", "_law_great"] ["_law_well_here", "_law_many"] (defScope s__law_leaf) := ⟨rfl, rfl, rfl, by decide +kernel, rfl, by decide +kernel, by decide +kernel⟩
abbrev s__law_term : Stmt := topS 28
theorem sc__law_term : FnScope ["_law_well_here", "_law_deep", "_law_many", "_law_some", "_law_name", "_law_arity", "_law_k"] ["_law_well_here", "_law_deep", "_law_many"] (defScope s__law_term) := ⟨rfl, rfl, rfl, by decide +kernel, rfl, by decide +kernel, by decide +kernel⟩
abbrev s__law_is_variable : Stmt := topS 29
theorem sc__law_is_variable : FnScope ["_law_term_here"] ["_law_term_here"] (defScope s__law_is_variable) := ⟨rfl, rfl, rfl, by decide +kernel, rfl, by decide +kernel, by decide +kernel⟩
abbrev s__law_is_compound : Stmt := topS 30
theorem sc__law_is_compound : FnScope ["_law_term_here"] ["_law_term_here"] (defScope s__law_is_compound) := ⟨rfl, rfl, rfl, by decide +kernel, rfl, by decide +kernel, by decide +kernel⟩
abbrev s__law_parts : Stmt := topS 31
theorem sc__law_parts : FnScope ["_law_term_here", "_law_found", "_law_part"] ["_law_term_here"] (defScope s__law_parts) := ⟨rfl, rfl, rfl, by decide +kernel, rfl, by decide +kernel, by decide +kernel⟩
abbrev s__law_numbers : Stmt := topS 32
theorem sc__law_numbers : FnScope ["_law_term_here", "_law_found", "_law_part"] ["_law_term_here"] (defScope s__law_numbers) := ⟨rfl, rfl, rfl, by decide +kernel, rfl, by decide +kernel, by decide +kernel⟩
abbrev s__law_put : Stmt := topS 33
theorem sc__law_put : FnScope ["_law_term_here", "_law_table", "_law_part"] ["_law_term_here", "_law_table"] (defScope s__law_put) := ⟨rfl, rfl, rfl, by decide +kernel, rfl, by decide +kernel, by decide +kernel⟩
abbrev s__law_anew : Stmt := topS 34
theorem sc__law_anew : FnScope ["_law_term_here", "_law_first", "_law_at", "_law_number"] ["_law_term_here", "_law_first"] (defScope s__law_anew) := ⟨rfl, rfl, rfl, by decide +kernel, rfl, by decide +kernel, by decide +kernel⟩
abbrev s__law_depth : Stmt := topS 35
theorem sc__law_depth : FnScope ["_law_term_here", "_law_part"] ["_law_term_here"] (defScope s__law_depth) := ⟨rfl, rfl, rfl, by decide +kernel, rfl, by decide +kernel, by decide +kernel⟩
abbrev s__law_list_right : Stmt := topS 36
theorem sc__law_list_right : FnScope ["_law_well_here", "_law_many", "_law_spread", "_law_rest", "_law_found", "_law_back", "_law_due", "_law_k", "_law_number"] ["_law_well_here"] (defScope s__law_list_right) := ⟨rfl, rfl, rfl, by decide +kernel, rfl, by decide +kernel, by decide +kernel⟩
abbrev s__law_right : Stmt := topS 37
theorem sc__law_right : FnScope ["_law_well_here", "_law_spread", "_law_term_here", "_law_due", "_law_k"] ["_law_well_here"] (defScope s__law_right) := ⟨rfl, rfl, rfl, by decide +kernel, rfl, by decide +kernel, by decide +kernel⟩
abbrev s_law : Stmt := topS 38
theorem sc_law : FnScope ["_law_script", "_law_k"] ["_law_script"] (defScope s_law) := ⟨rfl, rfl, rfl, by decide +kernel, rfl, by decide +kernel, by decide +kernel⟩
structure Bf (K : PySem.W.Frag) (mg : Str → Option Value) : Prop where
  b_isinstance : mg "isinstance" = none
  b_int : mg "int" = none
  b_bool : mg "bool" = none
  b_tuple : mg "tuple" = none
  b_len : mg "len" = none
  b_abs : mg "abs" = none
  b_all : mg "all" = none
  b_str : mg "str" = none
  b_ord : mg "ord" = none
  b_list : mg "list" = none
  b_enumerate : mg "enumerate" = none
  b_range : mg "range" = none
  b_dict : mg "dict" = none
  b_max : mg "max" = none
  b_min : mg "min" = none
  g_MOST_SIGNS : ∃ t, mg "MOST_SIGNS" = some (.int 40 t)
  g_MOST_ARGUMENTS : ∃ t, mg "MOST_ARGUMENTS" = some (.int 8 t)
  g_TOO_GREAT : ∃ t, mg "TOO_GREAT" = some (.int tooGreat t)
local macro_rules | `(tactic| walk_at "rd") => `(tactic| (dsimp only [tSeq, tNext, tRet, tRetN, tAsg, gName, gTup, gCons, gNil, gSub, tDrop, tIfS, tVar, tC, tOp, tUn, tTest, tB, tAnd, tOr, tNot, tAndV, tOrV, tNotV, tIf, tCB, tCons, tNil, tTup, tLst, tCall, tPar, tPar3, tAug, tSl, tPart, tNoPart, tBM, tBM0, tRevT, tRevL, tChain, sDPut, tDGet, tDGet1, tDGet2, tDNewK, tDNewT, tDIn, tDNotIn, tYes, wipe, cxOf, Cx.nox, Cx.wish, L2.start, rI0, rI, rU, ipI, List.length_cons, List.length_nil, List.map_cons, List.map_nil, List.replicate, List.cons_append, List.nil_append, List.append_nil, List.getElem?_cons_zero, List.getElem?_cons_succ, List.set_cons_zero, List.set_cons_succ, Nat.reduceAdd, Nat.reduceSub]; try simp only [List.map_cons, List.map_nil, List.append_nil, List.cons_append, List.nil_append, List.getElem?_cons_zero, List.getElem?_cons_succ, List.set_cons_zero, List.set_cons_succ, rIntI_eq, rIntB_eq, rAbs_eq, Option.some.injEq, V.int.injEq, V.bl.injEq, V.str.injEq, V.ref.injEq, exists_eq_left', exists_and_left, exists_eq', true_and, and_true, if_true, if_false, Bool.false_eq_true]))
local macro_rules | `(tactic| walk_at "r0") => `(tactic| (dsimp only [tSeq, tNext, tRet, tRetN, tAsg, gName, gTup, gCons, gNil, gSub, tDrop, tIfS, tVar, tC, tOp, tUn, tTest, tB, tAnd, tOr, tNot, tAndV, tOrV, tNotV, tIf, tCB, tCons, tNil, tCall, tPar, tPar3, tAug, tSl, tPart, tNoPart, tBM, tBM0, tRevT, tRevL, tChain, sDPut, tDGet, tDGet1, tDGet2, tDNewK, tDNewT, tDIn, tDNotIn, tYes, wipe, cxOf, Cx.nox, Cx.wish, L2.start, rI0, rI, rU, ipI, List.length_cons, List.length_nil, List.map_cons, List.map_nil, List.replicate, List.cons_append, List.nil_append, List.append_nil, List.getElem?_cons_zero, List.getElem?_cons_succ, List.set_cons_zero, List.set_cons_succ, Nat.reduceAdd, Nat.reduceSub]; try simp only [List.map_cons, List.map_nil, List.append_nil, List.cons_append, List.nil_append, List.getElem?_cons_zero, List.getElem?_cons_succ, List.set_cons_zero, List.set_cons_succ, rIntI_eq, rIntB_eq, rAbs_eq, Option.some.injEq, V.int.injEq, V.bl.injEq, V.str.injEq, V.ref.injEq, exists_eq_left', exists_and_left, exists_eq', true_and, and_true, if_true, if_false, Bool.false_eq_true]))
local macro_rules | `(tactic| walk_at "evd") => `(tactic| repeat (first | exact evds_nil | exact evd_int | exact evd_str | exact evd_bl | exact evd_non | exact evd_neg | apply evds_cons | apply evd_tup | apply evd_lst | (simp only [List.length_cons, List.length_nil]; omega)))
section
variable {P : Program} {w : World} {K : PySem.W.Frag} {mg : Str → Option Value} {base : Heap}
def isIntD : PyData → Bool | .int _ => true | _ => false
def sp_is_int (K : PySem.W.Frag) : Sp := fun vs H Q _ => ∃ v d, vs = [v] ∧ Dp K H v d ∧ Q (.bl (isIntD d)) H
theorem ok_is_int (B : Bf K mg) (G : Gd K mg "is_int" s_is_int) : Okf P w K mg base "is_int" 1 ["thing"] [] (sp_is_int K) := by
  refine okf_mk G sc_is_int (fun _ _ _ _ _ _ us hl => match us, hl with | [_], _ => rfl) (fun vs H Q E h => ?_) (fun cdv A outer s H vs Q E hr h => ?_)
  · obtain ⟨v, d, rfl, _⟩ := h
    rfl
  · obtain ⟨v, d, rfl, hd, q⟩ := h
    refine ⟨_, (pss_one (ps_ret (pe_and (pe_callB call_isi (by rfl) B.b_isinstance (by decide +kernel) (pa_cons (pv 0) (pa_cons (pe_bltn (v := .ty "int") (by rfl) B.b_int (by decide +kernel) rfl) pa_nil))) (pe_one (pe_not (pe_callB call_isi (by rfl) B.b_isinstance (by decide +kernel) (pa_cons (pv 0) (pa_cons (pe_bltn (v := .ty "bool") (by rfl) B.b_bool (by decide +kernel) rfl) pa_nil)))))))), ?_⟩
    walk_at "rd"
    refine isi_int hd ⟨_, rfl, ?_⟩
    refine ite2 (fun e => isi_bool hd ⟨_, rfl, ?_⟩) (fun e => ?_)
    · cases d <;> first | exact q | cases e
    · cases d <;> first | exact q | exact absurd rfl e
def isCompD : PyData → Bool | .tuple (_ :: _ :: _) => true | _ => false
def sp_is_compound (K : PySem.W.Frag) : Sp := fun vs H Q _ => ∃ v d, vs = [v] ∧ Dp K H v d ∧ Q (.bl (isCompD d)) H
theorem ok_is_compound (B : Bf K mg) (G : Gd K mg "is_compound" s_is_compound) : Okf P w K mg base "is_compound" 1 ["term"] [] (sp_is_compound K) := by
  refine okf_mk G sc_is_compound (fun _ _ _ _ _ _ us hl => match us, hl with | [_], _ => rfl) (fun vs H Q E h => ?_) (fun cdv A outer s H vs Q E hr h => ?_)
  · obtain ⟨v, d, rfl, _⟩ := h
    rfl
  · obtain ⟨v, d, rfl, hd, q⟩ := h
    refine ⟨_, (pss_one (ps_ret (pe_and (pe_callB call_isi (by rfl) B.b_isinstance (by decide +kernel) (pa_cons (pv 0) (pa_cons (pe_bltn (v := .ty "tuple") (by rfl) B.b_tuple (by decide +kernel) rfl) pa_nil))) (pe_one (pe_cmpR op_gt (pe_callB call_lenQ (by rfl) B.b_len (by decide +kernel) (pa_cons (pv 0) pa_nil)) pe_int (nomark _)))))), ?_⟩
    walk_at "rd"
    refine isi_tuple hd ⟨_, rfl, ite2 (fun e => ?_) (fun e => ?_)⟩
    · cases hd with
      | tup hs ha =>
        refine lenT hs ⟨_, rfl, q_bl ?_ q⟩
        cases ha with
        | nil => rfl
        | cons h1 h2 =>
          cases h2 with
          | nil => rfl
          | cons h3 h4 =>
            simp only [List.length_cons, isCompD, decide_eq_true_eq]
            omega
      | _ => cases e
    · cases d <;> first | exact q | exact absurd rfl e
def isVarD : PyData → Bool | .tuple [.int k] => decide (0 ≤ k) | _ => false
theorem isVarD_two (d e : PyData) (ds : List PyData) : isVarD (.tuple (d :: e :: ds)) = false := by cases d <;> rfl
def sp_is_variable (K : PySem.W.Frag) : Sp := fun vs H Q _ => ∃ v d, vs = [v] ∧ Dp K H v d ∧ Q (.bl (isVarD d)) H
theorem ok_is_variable (B : Bf K mg) (G : Gd K mg "is_variable" s_is_variable) (O_is_int : Okf P w K mg base "is_int" 1 ["thing"] [] (sp_is_int K)) : Okf P w K mg base "is_variable" 2 ["thing"] [] (sp_is_variable K) := by
  refine okf_mk G sc_is_variable (fun _ _ _ _ _ _ us hl => match us, hl with | [_], _ => rfl) (fun vs H Q E h => ?_) (fun cdv A outer s H vs Q E hr h => ?_)
  · obtain ⟨v, d, rfl, _⟩ := h
    rfl
  · obtain ⟨v, d, rfl, hd, q⟩ := h
    refine ⟨_, (pss_one (ps_ret (pe_and (pe_callB call_isi (by rfl) B.b_isinstance (by decide +kernel) (pa_cons (pv 0) (pa_cons (pe_bltn (v := .ty "tuple") (by rfl) B.b_tuple (by decide +kernel) rfl) pa_nil))) (pe_and (pe_cmpR op_eq (pe_callB call_lenQ (by rfl) B.b_len (by decide +kernel) (pa_cons (pv 0) pa_nil)) pe_int (nomark _)) (pe_and (pe_callO O_is_int (hr.mono (by decide)) (by rfl) (pa_cons (pe_ix (show IxR _ (rIxT K) from ix_tup) (pv 0) pe_int (fun _ _ => rfl)) pa_nil)) (pe_one (pe_cmpR op_ge (pe_ix (show IxR _ (rIxT K) from ix_tup) (pv 0) pe_int (fun _ _ => rfl)) pe_int (nomark _)))))))), ?_⟩
    walk_at "rd"
    refine isi_tuple hd ⟨_, rfl, ite2 (fun e => ?_) (fun e => ?_)⟩
    · cases hd with
      | tup hs ha =>
        refine lenT hs (eqI ⟨_, rfl, ?_⟩)
        cases ha with
        | nil => exact q
        | cons h1 h2 =>
          cases h2 with
          | nil =>
            refine iteT (ixT0 hs ⟨_, _, rfl, h1, _, rfl, ite2 (fun e1 => ?_) (fun e1 => ?_)⟩)
            · cases h1 with
              | int i => exact ixT0 hs ⟨_, rfl, q⟩
              | _ => cases e1
            · cases h1 with
              | int i => exact absurd rfl e1
              | _ => exact q
          | cons h3 h4 =>
            refine ite2 (fun e1 => ?_) (fun e1 => q_bl (isVarD_two _ _ _).symm q)
            simp only [List.length_cons, decide_eq_true_eq] at e1
            omega
      | _ => cases e
    · cases d <;> first | exact q | exact absurd rfl e
def isNumD : PyData → Bool | .int i => decide (-tooGreat < i ∧ i < tooGreat) | _ => false
def sp_is_any_number (K : PySem.W.Frag) : Sp := fun vs H Q _ => ∃ v d, vs = [v] ∧ Dp K H v d ∧ Q (.bl (isNumD d)) H
theorem ok_is_any_number (B : Bf K mg) (G : Gd K mg "is_any_number" s_is_any_number) (O_is_int : Okf P w K mg base "is_int" 1 ["thing"] [] (sp_is_int K)) : Okf P w K mg base "is_any_number" 2 ["thing"] [] (sp_is_any_number K) := by
  refine okf_mk G sc_is_any_number (fun _ _ _ _ _ _ us hl => match us, hl with | [_], _ => rfl) (fun vs H Q E h => ?_) (fun cdv A outer s H vs Q E hr h => ?_)
  · obtain ⟨v, d, rfl, _⟩ := h
    rfl
  · obtain ⟨v, d, rfl, hd, q⟩ := h
    refine ⟨_, (pss_one (ps_ret (pe_and (pe_callO O_is_int (hr.mono (by decide)) (by rfl) (pa_cons (pv 0) pa_nil)) (pe_one (pe_cmpR op_lt (pe_callB call_absQ (by rfl) B.b_abs (by decide +kernel) (pa_cons (pv 0) pa_nil)) (pe_globI rfl B.g_TOO_GREAT) (nomark _)))))), ?_⟩
    walk_at "rd"
    refine ⟨_, _, rfl, hd, _, rfl, ite2 (fun e => ?_) (fun e => ?_)⟩
    · cases hd with
      | int i =>
        refine ⟨_, rfl, _, rfl, q_bl ?_ q⟩
        simp only [isNumD, decide_eq_decide]
        split <;> (constructor <;> intro h <;> (try constructor) <;> omega)
      | _ => cases e
    · cases hd with
      | int i => exact absurd rfl e
      | _ => exact q
def signOk (c : Nat) : Bool := decide (32 ≤ c ∧ c ≤ 126 ∧ c ≠ 37)
def atomOk (x : Str) : Bool := decide (x.length ≤ 40) && x.cps.toList.all signOk
def isAtmD : PyData → Bool | .str x => atomOk x | _ => false
def lenOkD : PyData → Prop | .str x => x.length ≤ sizeLine | _ => True
theorem list_of_get {α : Type} {ys zs : List α} (hl : ys.length = zs.length) (h : ∀ (j : Nat) y, ys[j]? = some y → zs[j]? = some y) : ys = zs := by
  apply List.ext_getElem?
  intro j
  cases e : ys[j]? with
  | some y => exact (h j y e).symm
  | none =>
    rw [List.getElem?_eq_none_iff] at e
    exact (List.getElem?_eq_none (by omega)).symm
theorem cmp1 (a b : Nat) : ([a] : List Nat) < [b] ↔ a < b := by
  constructor
  · intro h
    cases h with
    | cons h => cases h
    | rel h => exact h
  · intro h
    exact .rel h
def sp_is_any_atom (K : PySem.W.Frag) : Sp := fun vs H Q _ => ∃ v d, vs = [v] ∧ Dp K H v d ∧ lenOkD d ∧ ∀ H', Same H H' → Q (.bl (isAtmD d)) H'
theorem ok_is_any_atom (B : Bf K mg) (G : Gd K mg "is_any_atom" s_is_any_atom) : Okf P w K mg base "is_any_atom" 1 ["thing"] [] (sp_is_any_atom K) := by
  refine okf_mk G sc_is_any_atom (fun _ _ _ _ _ _ us hl => match us, hl with | [_], _ => rfl) (fun vs H Q E h => ?_) (fun cdv A outer s H vs Q E hr h => ?_)
  · obtain ⟨v, d, rfl, _⟩ := h
    rfl
  · obtain ⟨v, d, rfl, hd, hl, q⟩ := h
    refine ⟨_, (pss_cons (ps_if (PW.pt (pw_or (pt_not (pt_val (pe_callB call_isi (by rfl) B.b_isinstance (by decide +kernel) (pa_cons (pv 0) (pa_cons (pe_bltn (v := .ty "str") (by rfl) B.b_str (by decide +kernel) rfl) pa_nil))))) (pw_or1 (pt_cmpR op_gt (pe_callB call_lenS (by rfl) B.b_len (by decide +kernel) (pa_cons (pv 0) pa_nil)) (pe_globI rfl B.g_MOST_SIGNS) (nomark _)))))
        (pss_one (ps_ret pe_bl))
        pss_nil)
      (pss_one (ps_ret (pe_callB (cr_all rfl) (by rfl) B.b_all (by decide +kernel) (pa_cons (pe_lc (own := [("sign", 1)]) (g := gName 1) (tt := tYes) rfl sc_is_any_atom.nd (pi_str (pv 0)) (blkOk_by (own := [("sign", 1)]) (N := ["thing", "sign"]) (sc := defScope s_is_any_atom) (by decide +kernel)) (fun _ _ _ _ _ => (pg_name (i := 1) sc_is_any_atom.nd rfl (Or.inl rfl))) (fun _ _ _ _ _ => pts_nil) (fun _ _ _ _ _ => (pe_and (pe_chain op_le_str op_le_str pe_str (pv 1) pe_str) (pe_one (pe_cmpR op_ne (pe_callB call_ord (by rfl) B.b_ord (by decide +kernel) (pa_cons (pv 1) pa_nil)) pe_int (nomark _)))))) pa_nil))))), ?_⟩
    walk_at "rd"
    refine isi_str hd ⟨_, rfl, ?_⟩
    cases hd with
    | str x =>
      refine iteF ⟨x, rfl, hl, _, rfl, ite2 (fun e => ?_) (fun e => ?_)⟩
      · refine q_bl ?_ (q H (Same.refl H))
        have e1 : 40 < (x.length : Int) := by simpa using e
        have e' : 40 < x.length := by omega
        simp only [isAtmD, atomOk, show decide (x.length ≤ 40) = false from by simp; omega, Bool.false_and]
      · have e1 : (x.length : Int) ≤ 40 := by simpa using e
        have e' : x.length ≤ 40 := by omega
        refine tlc_of ⟨_, rfl, x, rfl, lc_str (R := fun j y _ => ∃ c, x.cps[j]? = some c ∧ y = .bl (signOk c)) hl (fun _ _ _ _ _ h => h) (fun j c H1 k hc hs kk => ?_) (fun D H2 ys hD hs e2 l r => ?_)⟩
        · walk_at "rd"
          have e3 : (Str.ofString " ").cps.toList = [32] := by decide +kernel
          have e4 : (Str.ofString "~").cps.toList = [126] := by decide +kernel
          rw [e3, e4]
          have key : ∀ b, b = signOk c → k (.bl b) H1 := fun b hb => kk _ _ (Same.refl H1) ⟨c, hc, by rw [hb]⟩
          refine ite2 (fun h1 => ite2 (fun h2 => ⟨_, rfl, rfl, neI (key _ ?_)⟩) (fun h2 => key _ ?_)) (fun h1 => key _ ?_)
          · simp only [Bool.not_eq_true', decide_eq_false_iff_not, cmp1] at h1 h2
            show (!decide ((c : Int) = 37)) = decide (32 ≤ c ∧ c ≤ 126 ∧ c ≠ 37)
            by_cases hc37 : c = 37
            · subst hc37; rfl
            · rw [decide_eq_false (by omega), decide_eq_true (show 32 ≤ c ∧ c ≤ 126 ∧ c ≠ 37 by omega)]; rfl
          · simp only [Bool.not_eq_true', decide_eq_false_iff_not, cmp1, Classical.not_not] at h2
            simp only [signOk]
            exact (decide_eq_false (by omega)).symm
          · simp only [Bool.not_eq_true', decide_eq_false_iff_not, cmp1, Classical.not_not] at h1
            simp only [signOk]
            exact (decide_eq_false (by omega)).symm
        · have ey : ys = (x.cps.toList.map signOk).map V.bl := list_of_get (by simpa using l) fun j y hy => by
            obtain ⟨c, h1, rfl⟩ := r j y hy
            simp [h1]
          refine ⟨D, x.cps.toList.map signOk, rfl, SqL.of (by rw [e2, ey]), q_bl ?_ (q H2 hs)⟩
          simp [isAtmD, atomOk, e', List.all_map]
    | _ => exact iteT (q H (Same.refl H))
/-! ### is_term -/
mutual
def isTerm : PyData → Bool
  | .int i => isNumD (.int i)
  | .str x => atomOk x
  | .tuple [] => false
  | .tuple [d] => isVarD (.tuple [d])
  | .tuple (f :: a :: as) => decide (as.length < 8) && isAtmD f && isTerm a && isTerms as
  | _ => false
def isTerms : List PyData → Bool
  | [] => true
  | d :: ds => isTerm d && isTerms ds
end
mutual
def szD : PyData → Nat
  | .tuple ds => 1 + szDs ds
  | _ => 1
def szDs : List PyData → Nat
  | [] => 0
  | d :: ds => szD d + szDs ds
end
mutual
/-- texts and tuples within the lines -/
def smD : PyData → Prop
  | .str x => x.length ≤ 1000
  | .tuple ds => ds.length ≤ 1000 ∧ smDs ds
  | _ => True
def smDs : List PyData → Prop
  | [] => True
  | d :: ds => smD d ∧ smDs ds
end
theorem szD_pos (d : PyData) : 0 < szD d := by cases d <;> simp [szD] <;> omega
theorem szDs_append : ∀ (a b : List PyData), szDs (a ++ b) = szDs a + szDs b
  | [], b => by simp [szDs]
  | d :: a, b => by rw [List.cons_append]; simp only [szDs]; rw [szDs_append a b]; omega
theorem isTerms_append : ∀ (a b : List PyData), isTerms (a ++ b) = (isTerms a && isTerms b)
  | [], b => by simp [isTerms]
  | d :: a, b => by rw [List.cons_append]; simp only [isTerms]; rw [isTerms_append a b, Bool.and_assoc]
theorem smDs_append : ∀ {a b : List PyData}, smDs (a ++ b) ↔ smDs a ∧ smDs b
  | [], b => by simp [smDs]
  | d :: a, b => by rw [List.cons_append]; simp only [smDs]; rw [smDs_append (a := a), and_assoc]
theorem smDs_length : ∀ {a : List PyData}, a.length ≤ szDs a
  | [] => Nat.le_refl _
  | d :: a => by have := smDs_length (a := a); have := szD_pos d; simp only [List.length_cons, szDs]; omega
theorem lenOk_of {d : PyData} (h : smD d) : lenOkD d := by
  cases d with
  | str x => exact Nat.le_trans (show x.length ≤ 1000 from h) (by decide)
  | _ => exact trivial
theorem isTerm_leaf (d : PyData) (h : isCompD d = false) : isTerm d = (isVarD d || isNumD d || isAtmD d) := by
  cases d with
  | tuple ds =>
    cases ds with
    | nil => rfl
    | cons a r =>
      cases r with
      | nil => simp [isTerm, isNumD, isAtmD]
      | cons b r => cases h
  | _ => simp [isTerm, isVarD, isNumD, isAtmD]
def sp_is_term (K : PySem.W.Frag) : Sp := fun vs H Q _ => ∃ v d, vs = [v] ∧ Dp K H v d ∧ smD d ∧ szD d ≤ 100000 ∧ ∀ H', Same H H' → Q (.bl (isTerm d)) H'
theorem ok_is_term (B : Bf K mg) (G : Gd K mg "is_term" s_is_term) (O_is_compound : Okf P w K mg base "is_compound" 1 ["term"] [] (sp_is_compound K)) (O_is_any_atom : Okf P w K mg base "is_any_atom" 1 ["thing"] [] (sp_is_any_atom K))
    (O_is_variable : Okf P w K mg base "is_variable" 2 ["thing"] [] (sp_is_variable K)) (O_is_any_number : Okf P w K mg base "is_any_number" 2 ["thing"] [] (sp_is_any_number K)) : Okf P w K mg base "is_term" 3 ["thing"] [] (sp_is_term K) := by
  refine okf_mk G sc_is_term (fun _ _ _ _ _ _ us hl => match us, hl with | [_], _ => rfl) (fun vs H Q E h => ?_) (fun cdv A outer s H vs Q E hr h => ?_)
  · obtain ⟨v, d, rfl, _⟩ := h
    rfl
  · obtain ⟨v, d, rfl, hd, hm, hz, q⟩ := h
    refine ⟨_, (pss_cons (ps_set (i := 1) sc_is_term.nd rfl (Or.inl rfl) (pe_lst (pa_cons (pv 0) pa_nil)))
      (pss_cons (ps_while PassesOwn.never (pt_cmpR (op_neNil hr.units0) (pv 1) (pe_lst pa_nil) (nomark _))
      (pss_cons (ps_set (i := 2) sc_is_term.nd rfl (Or.inl rfl) (pe_bm0 PySem.F.plainAttrs_list PySem.F.slot_list_pop PySem.F.type_list_pop mt_pop (pv 1)))
      (pss_one (ps_if (pt_val (pe_callO O_is_compound (hr.mono (by decide)) (by rfl) (pa_cons (pv 2) pa_nil)))
        (pss_cons (ps_if (PW.pt (pw_or (pt_cmpR op_gt (pe_callB call_lenQ (by rfl) B.b_len (by decide +kernel) (pa_cons (pv 2) pa_nil)) (pe_op op_add (pe_globI rfl B.g_MOST_ARGUMENTS) pe_int) (nomark _)) (pw_or1 (pt_not (pt_val (pe_callO O_is_any_atom (hr.mono (by decide)) (by rfl) (pa_cons (pe_ix (show IxR _ (rIxT K) from ix_tup) (pv 2) pe_int (fun _ _ => rfl)) pa_nil)))))))
        (pss_one (ps_ret pe_bl))
        pss_nil)
      (pss_one (ps_expr (pe_bm PySem.F.plainAttrs_list PySem.F.slot_list_extend PySem.F.type_list_extend mt_extendT (pv 1) (pa_cons (pe_slice sl_tupA (pv 2) (po_some pe_int) po_none) pa_nil)))))
        (pss_one (ps_if (PW.pt (pw_and (pt_not (pt_val (pe_callO O_is_variable (hr.mono (by decide)) (by rfl) (pa_cons (pv 2) pa_nil)))) (pw_and (pt_not (pt_val (pe_callO O_is_any_number (hr.mono (by decide)) (by rfl) (pa_cons (pv 2) pa_nil)))) (pw_and1 (pt_not (pt_val (pe_callO O_is_any_atom (hr.mono (by decide)) (by rfl) (pa_cons (pv 2) pa_nil))))))))
        (pss_one (ps_ret pe_bl))
        pss_nil))))))
      (pss_one (ps_ret pe_bl)))), ?_⟩
    walk_at "rd"
    refine ⟨(by show 1 ≤ sizeLine; decide), fun p np => ?_⟩
    refine twhile_of (fun m σ H1 => ∃ ws ds z, σ = [some v, some (.ref p), z] ∧ Same H H1 ∧ H1 p = some (.lst ws) ∧ DpAll K H ws ds ∧ smDs ds ∧ szDs ds ≤ 100000 ∧ m = szDs ds ∧ isTerms ds = isTerm d) (m := szD d)
      ⟨[v], [d], none, rfl, same_upd np, upd_same, .cons hd .nil, ⟨hm, trivial⟩, by simp [szDs]; exact hz, by simp [szDs], by simp [isTerms]⟩ ?_
    rintro m σ H1 ⟨ws, ds, z, rfl, sm, ep, dp, hm1, hz1, rfl, ht⟩
    walk_at "rd"
    refine ⟨Nat.zero_le _, fun b nb => neNilR ep nb ⟨_, rfl, ?_⟩⟩
    have ep1 : upd H1 b (.lst []) p = some (.lst ws) := by rw [upd_ne (ne_of_none ep nb)]; exact ep
    have s1 : Same H (upd H1 b (.lst [])) := sm.trans (same_upd nb)
    generalize upd H1 b (.lst []) = H2 at ep1 s1 ⊢
    rcases concat_or ds with rfl | ⟨ds, d0, rfl⟩
    · cases dp
      refine iteF (q_bl ?_ (q H2 s1))
      rw [← ht]; rfl
    · obtain ⟨ws, v0, rfl, dq, d0p⟩ := DpAll.snoc dp
      clear dp
      rw [show (!(ws ++ [v0]).isEmpty) = true by simp]
      obtain ⟨hm2, hm3, _⟩ := smDs_append.mp hm1
      rw [szDs_append] at hz1
      have hz2 : szDs ds + szD d0 ≤ 100000 := by simpa [szDs] using hz1
      have hz3 : szDs (ds ++ [d0]) = szDs ds + szD d0 := by rw [szDs_append]; simp [szDs]
      have ht2 : (isTerms ds && isTerm d0) = isTerm d := by rw [← ht, isTerms_append]; simp [isTerms]
      have hlen : ws.length ≤ 100000 := by have := DpAll.length dq; have := smDs_length (a := ds); omega
      have hpos := szD_pos d0
      refine iteT ⟨_, fun σ' H' h => h, tyL ep1, popR ep1 ?_⟩
      have t3 : Same H (upd H2 p (.lst ws)) := Same.mut s1 np
      have e3 : upd H2 p (.lst ws) p = some (.lst ws) := upd_same
      generalize upd H2 p (.lst ws) = H3 at t3 e3 ⊢
      have d3 : Dp K H3 v0 d0 := Dp.same t3 _ _ d0p
      have no : isTerm d0 = false → ∀ H', Same H H' → Q (.bl false) H' := fun e H' s' => q_bl (by rw [← ht2, e, Bool.and_false]) (q H' s')
      rw [hz3]
      refine ⟨_, d0, rfl, d3, _, rfl, ite2 (fun c => ?_) (fun c => ?_)⟩
      · cases d0p with
        | @tup a xs es hs ha =>
          cases ha with
          | nil => cases c
          | @cons f xs df es h1 h2 =>
            cases h2 with
            | nil => cases c
            | @cons u xs du es h3 h4 =>
              have hl4 := DpAll.length h4
              have hs3 := Same.sqT t3 hs
              have hsm : smD df ∧ smD du ∧ smDs es := by simpa [smD, smDs] using hm3.2
              have hsz : szD (.tuple (df :: du :: es)) = 1 + (szD df + (szD du + szDs es)) := by simp [szD, szDs]
              have := szD_pos df
              have := smDs_length (a := es)
              refine lenT hs3 ⟨_, rfl, ite2 (fun c1 => ?_) (fun c1 => ?_)⟩
              · refine no ?_ H3 t3
                have c2 : 8 < es.length + 1 := by simp at c1; omega
                simp only [isTerm, show decide (es.length < 8) = false from by simp; omega, Bool.false_and]
              · have c2 : es.length < 8 := by simp at c1; omega
                refine ixT0 hs3 ⟨_, df, rfl, Dp.same t3 _ _ h1, lenOk_of hsm.1, fun H4 s4 => ⟨_, rfl, ite2 (fun c3 => ?_) (fun c3 => ?_)⟩⟩
                · refine no ?_ H4 (t3.trans s4)
                  have c4 : isAtmD df = false := by simpa using c3
                  simp [isTerm, c4]
                · have c4 : isAtmD df = true := by simpa using c3
                  have e4 : H4 p = some (.lst ws) := s4 _ _ e3
                  refine ⟨tyL e4, slT1 (Same.sqT (t3.trans s4) hs) fun p1 n1 => extT (by rw [upd_ne (ne_of_none e4 n1)]; exact e4) upd_same ?_ ?_⟩
                  · show ws.length + (xs.length + 1) ≤ sizeLine
                    exact Nat.le_trans (show _ ≤ 200000 by omega) (by decide)
                  · refine ⟨szDs (ds ++ du :: es), ?_, ws ++ u :: xs, ds ++ du :: es, _, rfl, Same.mut ((t3.trans s4).trans (same_upd n1)) np, upd_same, DpAll.append dq (.cons h3 h4), smDs_append.mpr ⟨hm2, hsm.2⟩, ?_, rfl, ?_⟩
                    · rw [szDs_append, hsz]; simp only [szDs]; omega
                    · rw [szDs_append]; simp only [szDs]; omega
                    · rw [isTerms_append, ← ht2]
                      simp [isTerm, isTerms, c4, c2]
        | _ => cases c
      · have leaf := isTerm_leaf d0 (by simpa using c)
        have nx : isTerm d0 = true → ∀ H', Same H3 H' → ∃ m', m' < szDs ds + szD d0 ∧ ∃ ws ds z, [some v, some (.ref p), some v0] = [some v, some (.ref p), z] ∧ Same H H' ∧ H' p = some (.lst ws) ∧ DpAll K H ws ds ∧ smDs ds ∧ szDs ds ≤ 100000 ∧ m' = szDs ds ∧ isTerms ds = isTerm d :=
          fun e H' s' => ⟨szDs ds, by omega, ws, ds, some v0, rfl, t3.trans s', s' _ _ e3, dq, hm2, by omega, rfl, by rw [← ht2, e, Bool.and_true]⟩
        refine ⟨_, d0, rfl, d3, _, rfl, ite2 (fun c1 => ⟨_, d0, rfl, d3, _, rfl, ite2 (fun c2 => ⟨_, d0, rfl, d3, lenOk_of hm3, fun H4 s4 => ⟨_, rfl, ite2 (fun c3 => ?_) (fun c3 => ?_)⟩⟩) (fun c2 => ?_)⟩) (fun c1 => ?_)⟩
        · exact no (by rw [leaf]; simp at c1 c2 c3; simp [c1, c2, c3]) _ (t3.trans s4)
        · exact nx (by rw [leaf]; simp at c3; simp [c3]) _ s4
        · exact nx (by rw [leaf]; simp at c2; simp [c2]) _ (Same.refl _)
        · exact nx (by rw [leaf]; simp at c1; simp [c1]) _ (Same.refl _)
end
end K1

namespace K1
open PySem PySem.Spec PyProof.Rows L2 HM
local macro_rules | `(tactic| walk_at "rd") => `(tactic| (dsimp only [tSeq, tNext, tRet, tRetN, tAsg, gName, gTup, gCons, gNil, gSub, tDrop, tIfS, tVar, tC, tOp, tUn, tTest, tB, tAnd, tOr, tNot, tAndV, tOrV, tNotV, tIf, tCB, tCons, tNil, tTup, tLst, tCall, tPar, tPar3, tAug, tSl, tPart, tNoPart, tBM, tBM0, tRevT, tRevL, tChain, sDPut, tDGet, tDGet1, tDGet2, tDNewK, tDNewT, tDIn, tDNotIn, tYes, wipe, cxOf, Cx.nox, Cx.wish, L2.start, rI0, rI, rU, ipI, List.length_cons, List.length_nil, List.map_cons, List.map_nil, List.replicate, List.cons_append, List.nil_append, List.append_nil, List.getElem?_cons_zero, List.getElem?_cons_succ, List.set_cons_zero, List.set_cons_succ, Nat.reduceAdd, Nat.reduceSub]; try simp only [List.map_cons, List.map_nil, List.append_nil, List.cons_append, List.nil_append, List.getElem?_cons_zero, List.getElem?_cons_succ, List.set_cons_zero, List.set_cons_succ, rIntI_eq, rIntB_eq, rAbs_eq, Option.some.injEq, V.int.injEq, V.bl.injEq, V.str.injEq, V.ref.injEq, exists_eq_left', exists_and_left, exists_eq', true_and, and_true, if_true, if_false, Bool.false_eq_true]))
local macro_rules | `(tactic| walk_at "r0") => `(tactic| (dsimp only [tSeq, tNext, tRet, tRetN, tAsg, gName, gTup, gCons, gNil, gSub, tDrop, tIfS, tVar, tC, tOp, tUn, tTest, tB, tAnd, tOr, tNot, tAndV, tOrV, tNotV, tIf, tCB, tCons, tNil, tCall, tPar, tPar3, tAug, tSl, tPart, tNoPart, tBM, tBM0, tRevT, tRevL, tChain, sDPut, tDGet, tDGet1, tDGet2, tDNewK, tDNewT, tDIn, tDNotIn, tYes, wipe, cxOf, Cx.nox, Cx.wish, L2.start, rI0, rI, rU, ipI, List.length_cons, List.length_nil, List.map_cons, List.map_nil, List.replicate, List.cons_append, List.nil_append, List.append_nil, List.getElem?_cons_zero, List.getElem?_cons_succ, List.set_cons_zero, List.set_cons_succ, Nat.reduceAdd, Nat.reduceSub]; try simp only [List.map_cons, List.map_nil, List.append_nil, List.cons_append, List.nil_append, List.getElem?_cons_zero, List.getElem?_cons_succ, List.set_cons_zero, List.set_cons_succ, rIntI_eq, rIntB_eq, rAbs_eq, Option.some.injEq, V.int.injEq, V.bl.injEq, V.str.injEq, V.ref.injEq, exists_eq_left', exists_and_left, exists_eq', true_and, and_true, if_true, if_false, Bool.false_eq_true]))
local macro_rules | `(tactic| walk_at "evd") => `(tactic| repeat (first | exact evds_nil | exact evd_int | exact evd_str | exact evd_bl | exact evd_non | exact evd_neg | apply evds_cons | apply evd_tup | apply evd_lst | (simp only [List.length_cons, List.length_nil]; omega)))
/-! ### terms -/
inductive Tm where
  | var (k : Nat) | num (i : Int) | atm (x : Str) | cmp (f : Str) (as : List Tm)
mutual
def toD : Tm → PyData
  | .var k => .tuple [.int k]
  | .num i => .int i
  | .atm x => .str x
  | .cmp f as => .tuple (.str f :: toDs as)
def toDs : List Tm → List PyData
  | [] => []
  | t :: ts => toD t :: toDs ts
end
mutual
def wf : Tm → Prop
  | .var _ => True
  | .num i => -tooGreat < i ∧ i < tooGreat
  | .atm x => atomOk x = true
  | .cmp f as => atomOk f = true ∧ as ≠ [] ∧ as.length ≤ 8 ∧ wfs as
def wfs : List Tm → Prop
  | [] => True
  | t :: ts => wf t ∧ wfs ts
end
mutual
def parts : Tm → List Tm
  | .cmp f as => .cmp f as :: partsL as
  | t => [t]
def partsL : List Tm → List Tm
  | [] => []
  | t :: ts => parts t ++ partsL ts
end
mutual
def depth : Tm → Nat
  | .cmp _ as => 1 + depthL as
  | _ => 1
def depthL : List Tm → Nat
  | [] => 0
  | t :: ts => max (depth t) (depthL ts)
end
theorem toDs_append : ∀ (a b : List Tm), toDs (a ++ b) = toDs a ++ toDs b
  | [], b => rfl
  | t :: a, b => by simp only [List.cons_append, toDs, toDs_append a b]
theorem toDs_length : ∀ (a : List Tm), (toDs a).length = a.length
  | [] => rfl
  | t :: a => by simp only [List.length_cons, toDs, toDs_length a]
theorem toDs_reverse : ∀ (a : List Tm), toDs a.reverse = (toDs a).reverse
  | [] => rfl
  | t :: a => by rw [List.reverse_cons, toDs_append, toDs_reverse a]; simp [toDs]
theorem wfs_append : ∀ {a b : List Tm}, wfs (a ++ b) ↔ wfs a ∧ wfs b
  | [], b => by simp [wfs]
  | t :: a, b => by rw [List.cons_append]; simp only [wfs]; rw [wfs_append (a := a), and_assoc]
theorem wfs_reverse : ∀ {a : List Tm}, wfs a → wfs a.reverse
  | [], _ => trivial
  | t :: a, h => by rw [List.reverse_cons]; exact wfs_append.mpr ⟨wfs_reverse h.2, h.1, trivial⟩
theorem partsL_append : ∀ (a b : List Tm), partsL (a ++ b) = partsL a ++ partsL b
  | [], b => rfl
  | t :: a, b => by simp only [List.cons_append, partsL, partsL_append a b, List.append_assoc]
theorem atomOk_len {x : Str} (h : atomOk x = true) : x.length ≤ 40 := by
  unfold atomOk at h
  simp at h
  exact h.1
theorem toDs_get : ∀ {a : List Tm} {i : Nat} {t : Tm}, a[i]? = some t → (toDs a)[i]? = some (toD t)
  | [], i, t, h => by simp at h
  | x :: a, 0, t, h => by simp at h; subst h; rfl
  | x :: a, i + 1, t, h => by simpa [toDs] using toDs_get (a := a) (i := i) (t := t) (by simpa using h)
mutual
theorem wf_isTerm : ∀ (t : Tm), wf t → isTerm (toD t) = true
  | .var k, _ => by simp [toD, isTerm, isVarD]
  | .num i, h => by simp [toD, isTerm, isNumD]; exact h
  | .atm x, h => by simp only [toD, isTerm]; exact h
  | .cmp f as, h => by
    obtain ⟨h1, h2, h3, h4⟩ := h
    cases as with
    | nil => exact absurd rfl h2
    | cons a as =>
      have q := wfs_isTerms (a :: as) h4
      simp only [toD, toDs, isTerm, isAtmD, h1, toDs_length]
      simp only [toDs, isTerms] at q
      rw [Bool.and_eq_true] at q
      rw [List.length_cons] at h3
      simp [q.1, q.2]
      omega
theorem wfs_isTerms : ∀ (ts : List Tm), wfs ts → isTerms (toDs ts) = true
  | [], _ => rfl
  | t :: ts, h => by simp only [toDs, isTerms, wf_isTerm t h.1, wfs_isTerms ts h.2, Bool.and_self]
end
mutual
theorem wf_sm : ∀ (t : Tm), wf t → smD (toD t)
  | .var k, _ => by simp [toD, smD, smDs]
  | .num i, h => by simp [toD, smD]
  | .atm x, h => by simp only [toD, smD]; exact Nat.le_trans (atomOk_len h) (by decide)
  | .cmp f as, h => by
    obtain ⟨h1, h2, h3, h4⟩ := h
    refine ⟨?_, Nat.le_trans (atomOk_len h1) (by decide), wfs_sm as h4⟩
    rw [List.length_cons, toDs_length]
    omega
theorem wfs_sm : ∀ (ts : List Tm), wfs ts → smDs (toDs ts)
  | [], _ => trivial
  | t :: ts, h => ⟨wf_sm t h.1, wfs_sm ts h.2⟩
end
mutual
theorem sz_toD : ∀ (t : Tm), szD (toD t) ≤ 2 * (parts t).length
  | .var k => by simp [toD, szD, szDs, parts]
  | .num i => by simp [toD, szD, parts]
  | .atm x => by simp [toD, szD, parts]
  | .cmp f as => by
    have := sz_toDs as
    simp [toD, szD, szDs, parts]
    omega
theorem sz_toDs : ∀ (ts : List Tm), szDs (toDs ts) ≤ 2 * (partsL ts).length
  | [] => Nat.le_refl _
  | t :: ts => by
    have h1 := sz_toD t
    have h2 := sz_toDs ts
    simp [toDs, szDs, partsL]
    omega
end
mutual
theorem noL_toD : ∀ (t : Tm), noL (toD t) = true
  | .var k => rfl
  | .num i => rfl
  | .atm x => rfl
  | .cmp f as => by simp [toD, noL, noLs, noLs_toDs as]
theorem noLs_toDs : ∀ (ts : List Tm), noLs (toDs ts) = true
  | [] => rfl
  | t :: ts => by simp [toDs, noLs, noL_toD t, noLs_toDs ts]
end
abbrev Den (K : PySem.W.Frag) (H : Hp) (v : V) (t : Tm) : Prop := Dp K H v (toD t)
abbrev Dens (K : PySem.W.Frag) (H : Hp) (vs : List V) (ts : List Tm) : Prop := DpAll K H vs (toDs ts)
theorem parts_pos (t : Tm) : 0 < (parts t).length := by cases t <;> simp [parts]
theorem partsL_len : ∀ (ts : List Tm), ts.length ≤ (partsL ts).length
  | [] => Nat.le_refl _
  | t :: ts => by have := partsL_len ts; have := parts_pos t; simp [partsL]; omega
def isCmp : Tm → Bool | .cmp _ _ => true | _ => false
def isVar : Tm → Bool | .var _ => true | _ => false
theorem isComp_toD {t : Tm} (h : wf t) : isCompD (toD t) = isCmp t := by
  cases t with
  | cmp f as =>
    obtain ⟨_, h2, _⟩ := h
    cases as with
    | nil => exact absurd rfl h2
    | cons a as => rfl
  | _ => rfl
theorem isVar_toD {t : Tm} (h : wf t) : isVarD (toD t) = isVar t := by
  cases t with
  | cmp f as =>
    obtain ⟨_, h2, _⟩ := h
    cases as with
    | nil => exact absurd rfl h2
    | cons a as => rfl
  | var k => simp [toD, isVarD, isVar]
  | _ => rfl
section
variable {K : PySem.W.Frag} {H : Hp} {v : V} {ts : List Tm} {vs : List V}
theorem den_cmp {f : Str} {as : List Tm} (h : Den K H v (.cmp f as)) : ∃ a us, v = .ref a ∧ SqT K H a (.str f :: us) ∧ Dens K H us as := by
  cases h with
  | tup hs ha =>
    cases ha with
    | cons h1 h2 => cases h1; exact ⟨_, _, rfl, hs, h2⟩
theorem den_var {k : Nat} (h : Den K H v (.var k)) : ∃ a, v = .ref a ∧ SqT K H a [.int k] := by
  cases h with
  | tup hs ha =>
    cases ha with
    | cons h1 h2 => cases h1; cases h2; exact ⟨_, rfl, hs⟩
theorem den_num {i : Int} (h : Den K H v (.num i)) : v = .int i := by cases h; rfl
theorem den_atm {x : Str} (h : Den K H v (.atm x)) : v = .str x := by cases h; rfl
theorem mk_cmp {f : Str} {as : List Tm} {a : Addr} {us : List V} (hs : SqT K H a (.str f :: us)) (h : Dens K H us as) : Den K H (.ref a) (.cmp f as) := .tup hs (.cons (.str f) h)
theorem mk_var {k : Nat} {a : Addr} (hs : SqT K H a [.int k]) : Den K H (.ref a) (.var k) := .tup hs (.cons (.int k) .nil)
theorem dens_snoc {t : Tm} (h : Dens K H vs (ts ++ [t])) : ∃ us v, vs = us ++ [v] ∧ Dens K H us ts ∧ Den K H v t := by
  have h : DpAll K H vs (toDs (ts ++ [t])) := h
  rw [toDs_append] at h
  exact DpAll.snoc h
theorem dens_len (h : Dens K H vs ts) : vs.length = ts.length := (DpAll.length h).trans (toDs_length ts)
theorem dens_app {us : List V} {rs : List Tm} (h : Dens K H vs ts) (h2 : Dens K H us rs) : Dens K H (vs ++ us) (ts ++ rs) := by
  show DpAll K H _ (toDs (ts ++ rs))
  rw [toDs_append]
  exact DpAll.append h h2
theorem dens_rev (h : Dens K H vs ts) : Dens K H vs.reverse ts.reverse := by
  show DpAll K H _ (toDs ts.reverse)
  rw [toDs_reverse]
  exact DpAll.reverse h
end
section
variable {P : Program} {w : World} {K : PySem.W.Frag} {mg : Str → Option Value} {base : Heap}
/-! ### check_terms, where all are terms -/
def sp_check_terms (K : PySem.W.Frag) : Sp := fun vs H Q _ => ∃ a us ds, vs = [.ref a] ∧ SqL K H a us ∧ DpAll K H us ds ∧ smDs ds ∧ szDs ds ≤ 100000 ∧ isTerms ds = true ∧ ∀ H', Same H H' → Q .non H'
theorem isTerms_get : ∀ {ds : List PyData} {i : Nat} {d : PyData}, isTerms ds = true → ds[i]? = some d → isTerm d = true
  | [], i, d, _, h => by simp at h
  | x :: ds, 0, d, h, e => by simp at e; subst e; simp [isTerms] at h; exact h.1
  | x :: ds, i + 1, d, h, e => by simp [isTerms] at h; exact isTerms_get (ds := ds) h.2 (by simpa using e)
theorem smDs_get : ∀ {ds : List PyData} {i : Nat} {d : PyData}, smDs ds → ds[i]? = some d → smD d
  | [], i, d, _, h => by simp at h
  | x :: ds, 0, d, h, e => by simp at e; subst e; exact h.1
  | x :: ds, i + 1, d, h, e => smDs_get (ds := ds) h.2 (by simpa using e)
theorem szDs_get : ∀ {ds : List PyData} {i : Nat} {d : PyData}, ds[i]? = some d → szD d ≤ szDs ds
  | [], i, d, h => by simp at h
  | x :: ds, 0, d, e => by simp at e; subst e; simp [szDs]
  | x :: ds, i + 1, d, e => by have := szDs_get (ds := ds) (i := i) (d := d) (by simpa using e); simp [szDs]; omega
theorem ok_check_terms (B : Bf K mg) (G : Gd K mg "check_terms" s_check_terms) (O_is_term : Okf P w K mg base "is_term" 3 ["thing"] [] (sp_is_term K)) : Okf P w K mg base "check_terms" 4 ["things"] [] (sp_check_terms K) := by
  refine okf_mk G sc_check_terms (fun _ _ _ _ _ _ us hl => match us, hl with | [_], _ => rfl) (fun vs H Q E h => ?_) (fun cdv A outer s H vs Q E hr h => ?_)
  · obtain ⟨a, us, ds, rfl, _⟩ := h
    rfl
  · obtain ⟨a, us, ds, rfl, hs, hd, hm, hz, ht, q⟩ := h
    refine ⟨_, (pss_one (ps_for PassesOwn.never rfl (pi_list (pv 0)) (pg_name (i := 1) sc_check_terms.nd rfl (Or.inl rfl))
      (pss_one (ps_if (pt_not (pt_val (pe_callO O_is_term (hr.mono (by decide)) (by rfl) (pa_cons (pv 1) pa_nil))))
        (pss_one ps_never)
        pss_nil)))), ?_⟩
    refine tfor_of ⟨_, rfl, a, rfl, ⟨_, hs⟩, for_l (xs := us) (fun i σ H1 => ∃ z, σ = [some (.ref a), z] ∧ Same H H1) ⟨none, rfl, Same.refl H⟩ (fun i σ H1 _ ⟨z, _, s1⟩ => s1.seq hs) ?_ ?_⟩
    · rintro i x σ H1 hi ⟨z, rfl, s1⟩
      have hi2 : i < ds.length := by rw [← DpAll.length hd]; exact (List.getElem?_eq_some_iff.mp hi).1
      obtain ⟨x', e1, hx⟩ := DpAll.get hd (List.getElem?_eq_getElem hi2)
      rw [hi] at e1
      cases e1
      walk_at "rd"
      refine ⟨_, ds[i], rfl, Dp.same s1 _ _ hx, smDs_get hm (List.getElem?_eq_getElem hi2), Nat.le_trans (szDs_get (List.getElem?_eq_getElem hi2)) hz, fun H2 s2 => ⟨_, rfl, ?_⟩⟩
      rw [isTerms_get ht (List.getElem?_eq_getElem hi2)]
      exact iteF ⟨some x, rfl, s1.trans s2⟩
    · rintro σ H1 ⟨z, rfl, s1⟩
      exact q H1 s1
/-! ### parts_of -/
def sp_parts_of (K : PySem.W.Frag) : Sp := fun vs H Q _ => ∃ v t, vs = [v] ∧ Den K H v t ∧ wf t ∧ (parts t).length ≤ 50000 ∧ ∀ H' p us, Same H H' → H p = none → H' p = some (.lst us) → Dens K H us (parts t) → Q (.ref p) H'
theorem ok_parts_of (B : Bf K mg) (G : Gd K mg "parts_of" s_parts_of) (O_is_compound : Okf P w K mg base "is_compound" 1 ["term"] [] (sp_is_compound K)) : Okf P w K mg base "parts_of" 2 ["term"] [] (sp_parts_of K) := by
  refine okf_mk G sc_parts_of (fun _ _ _ _ _ _ us hl => match us, hl with | [_], _ => rfl) (fun vs H Q E h => ?_) (fun cdv A outer s H vs Q E hr h => ?_)
  · obtain ⟨v, t, rfl, _⟩ := h
    rfl
  · obtain ⟨v, t, rfl, hd, hw, hz, q⟩ := h
    refine ⟨_, (pss_cons (ps_par (by rfl) sc_parts_of.nd (i := 1) (j := 2) rfl rfl (by decide) rfl rfl (pa_cons (pe_lst pa_nil) (pa_cons (pe_lst (pa_cons (pv 0) pa_nil)) pa_nil)) (by rfl))
      (pss_cons (ps_while PassesOwn.never (pt_cmpR (op_neNil hr.units0) (pv 2) (pe_lst pa_nil) (nomark _))
      (pss_cons (ps_set (i := 3) sc_parts_of.nd rfl (Or.inl rfl) (pe_bm0 PySem.F.plainAttrs_list PySem.F.slot_list_pop PySem.F.type_list_pop mt_pop (pv 2)))
      (pss_cons (ps_expr (pe_bm PySem.F.plainAttrs_list PySem.F.slot_list_append PySem.F.type_list_append mt_append (pv 1) (pa_cons (pv 3) pa_nil)))
      (pss_one (ps_if (pt_val (pe_callO O_is_compound (hr.mono (by decide)) (by rfl) (pa_cons (pv 3) pa_nil)))
        (pss_one (ps_expr (pe_bm PySem.F.plainAttrs_list PySem.F.slot_list_extend PySem.F.type_list_extend mt_extendT (pv 2) (pa_cons (pe_revT (pv 3)) pa_nil))))
        pss_nil)))))
      (pss_one (ps_ret (pv 1))))), ?_⟩
    walk_at "rd"
    refine ⟨Nat.zero_le _, fun f nf => ⟨(by show 1 ≤ sizeLine; decide), fun p np => ⟨_, _, rfl, ?_⟩⟩⟩
    have ef : upd (upd H f (.lst [])) p (.lst [v]) f = some (.lst []) := by rw [upd_ne (ne_of_none upd_same np)]; exact upd_same
    have np' : H p = none := (same_upd nf).free np
    have npf : p ≠ f := fun z => by rw [z, upd_same] at np; cases np
    refine twhile_of (fun m σ H1 => ∃ us ws dn wt z, σ = [some v, some (.ref f), some (.ref p), z] ∧ Same H H1 ∧ H1 f = some (.lst us) ∧ H1 p = some (.lst ws) ∧ Dens K H us dn ∧ Dens K H ws wt ∧ wfs wt ∧ m = (partsL wt.reverse).length ∧ dn ++ partsL wt.reverse = parts t) (m := (parts t).length)
      ⟨[], [v], [], [t], none, rfl, (same_upd nf).trans (same_upd np), ef, upd_same, .nil, .cons hd .nil, ⟨hw, trivial⟩, by simp [partsL], by simp [partsL]⟩ ?_
    rintro m σ H1 ⟨us, ws, dn, wt, z, rfl, sm, ef1, ep1, du, dw, hws, rfl, he⟩
    walk_at "rd"
    refine ⟨Nat.zero_le _, fun b nb => neNilR ep1 nb ⟨_, rfl, ?_⟩⟩
    have ep2 : upd H1 b (.lst []) p = some (.lst ws) := by rw [upd_ne (ne_of_none ep1 nb)]; exact ep1
    have ef2 : upd H1 b (.lst []) f = some (.lst us) := by rw [upd_ne (ne_of_none ef1 nb)]; exact ef1
    have s1 : Same H (upd H1 b (.lst [])) := sm.trans (same_upd nb)
    generalize upd H1 b (.lst []) = H2 at ep2 ef2 s1 ⊢
    rcases concat_or wt with rfl | ⟨wt, t0, rfl⟩
    · cases dw
      refine iteF (q H2 f us s1 nf ef2 ?_)
      simp [partsL] at he
      rw [← he]
      exact du
    · obtain ⟨ws, v0, rfl, dq, d0⟩ := dens_snoc dw
      clear dw
      have hws2 := wfs_append.mp hws
      have hw0 : wf t0 := hws2.2.1
      rw [show (!(ws ++ [v0]).isEmpty) = true by simp]
      have hrev : partsL (wt ++ [t0]).reverse = parts t0 ++ partsL wt.reverse := by rw [List.reverse_append]; rfl
      rw [hrev] at he
      have hlen := congrArg List.length he
      rw [List.length_append, List.length_append] at hlen
      have hl1 := dens_len du
      have hl2 := dens_len dq
      have hl3 := partsL_len wt.reverse
      rw [List.length_reverse] at hl3
      have hp0 := parts_pos t0
      rw [hrev, List.length_append]
      refine iteT ⟨_, fun σ' H' h => h, tyL ep2, popR ep2 ?_⟩
      have t3 : Same H (upd H2 p (.lst ws)) := Same.mut s1 np'
      have ep3 : upd H2 p (.lst ws) p = some (.lst ws) := upd_same
      have ef3 : upd H2 p (.lst ws) f = some (.lst us) := by rw [upd_ne npf.symm]; exact ef2
      generalize upd H2 p (.lst ws) = H3 at t3 ep3 ef3 ⊢
      refine ⟨tyL ef3, appR ef3 (Nat.lt_of_le_of_lt (show us.length ≤ 50000 by omega) (by decide)) ?_⟩
      have t4 : Same H (upd H3 f (.lst (us ++ [v0]))) := Same.mut t3 nf
      have ef4 : upd H3 f (.lst (us ++ [v0])) f = some (.lst (us ++ [v0])) := upd_same
      have ep4 : upd H3 f (.lst (us ++ [v0])) p = some (.lst ws) := by rw [upd_ne npf]; exact ep3
      generalize upd H3 f (.lst (us ++ [v0])) = H4 at t4 ef4 ep4 ⊢
      have du4 : Dens K H (us ++ [v0]) (dn ++ [t0]) := dens_app du (.cons d0 .nil)
      refine ⟨_, _, rfl, Dp.same t4 _ _ d0, _, rfl, ?_⟩
      rw [isComp_toD hw0]
      cases t0 with
      | cmp g as =>
        refine iteT ?_
        obtain ⟨a, xs, rfl, hs, hxs⟩ := den_cmp d0
        have hlx := dens_len hxs
        have hla : as.length ≤ 8 := hw0.2.2.1
        refine ⟨tyL ep4, a, rfl, _, _, Same.sqT t4 hs, fun p1 n1 => extT (by rw [upd_ne (ne_of_none ep4 n1)]; exact ep4) upd_same ?_ ?_⟩
        · rw [List.length_reverse]
          exact Nat.le_trans (show _ ≤ 100000 by omega) (by decide)
        · refine ⟨_, ?_, us ++ [.ref a], ws ++ xs.reverse, dn ++ [.cmp g as], wt ++ as.reverse, _, rfl, Same.mut (t4.trans (same_upd n1)) np', ?_, upd_same, du4, dens_app dq (dens_rev hxs), wfs_append.mpr ⟨hws2.1, ?_⟩, rfl, ?_⟩
          · rw [List.reverse_append, List.reverse_reverse, partsL_append, List.length_append]
            simp only [parts, List.length_cons]
            omega
          · rw [upd_ne npf.symm, upd_ne (ne_of_none ef4 n1)]
            exact ef4
          · exact wfs_reverse hw0.2.2.2
          · rw [List.reverse_append, List.reverse_reverse, partsL_append, ← he]
            simp [parts]
      | _ =>
        refine iteF ⟨_, ?_, us ++ [v0], ws, dn ++ [_], wt, _, rfl, t4, ef4, ep4, du4, dq, hws2.1, rfl, ?_⟩
        · simp only [parts, List.length_cons, List.length_nil]
          omega
        · rw [← he]
          simp [parts]
end
end K1

namespace K1
open PySem PySem.Spec PyProof.Rows L2 HM
local macro_rules | `(tactic| walk_at "rd") => `(tactic| (dsimp only [tSeq, tNext, tRet, tRetN, tAsg, gName, gTup, gCons, gNil, gSub, tDrop, tIfS, tVar, tC, tOp, tUn, tTest, tB, tAnd, tOr, tNot, tAndV, tOrV, tNotV, tIf, tCB, tCons, tNil, tTup, tLst, tCall, tPar, tPar3, tAug, tSl, tPart, tNoPart, tBM, tBM0, tRevT, tRevL, tChain, sDPut, tDGet, tDGet1, tDGet2, tDNewK, tDNewT, tDIn, tDNotIn, tYes, wipe, cxOf, Cx.nox, Cx.wish, L2.start, rI0, rI, rU, ipI, List.length_cons, List.length_nil, List.map_cons, List.map_nil, List.replicate, List.cons_append, List.nil_append, List.append_nil, List.getElem?_cons_zero, List.getElem?_cons_succ, List.set_cons_zero, List.set_cons_succ, Nat.reduceAdd, Nat.reduceSub]; try simp only [List.map_cons, List.map_nil, List.append_nil, List.cons_append, List.nil_append, List.getElem?_cons_zero, List.getElem?_cons_succ, List.set_cons_zero, List.set_cons_succ, rIntI_eq, rIntB_eq, rAbs_eq, Option.some.injEq, V.int.injEq, V.bl.injEq, V.str.injEq, V.ref.injEq, exists_eq_left', exists_and_left, exists_eq', true_and, and_true, if_true, if_false, Bool.false_eq_true]))
local macro_rules | `(tactic| walk_at "r0") => `(tactic| (dsimp only [tSeq, tNext, tRet, tRetN, tAsg, gName, gTup, gCons, gNil, gSub, tDrop, tIfS, tVar, tC, tOp, tUn, tTest, tB, tAnd, tOr, tNot, tAndV, tOrV, tNotV, tIf, tCB, tCons, tNil, tCall, tPar, tPar3, tAug, tSl, tPart, tNoPart, tBM, tBM0, tRevT, tRevL, tChain, sDPut, tDGet, tDGet1, tDGet2, tDNewK, tDNewT, tDIn, tDNotIn, tYes, wipe, cxOf, Cx.nox, Cx.wish, L2.start, rI0, rI, rU, ipI, List.length_cons, List.length_nil, List.map_cons, List.map_nil, List.replicate, List.cons_append, List.nil_append, List.append_nil, List.getElem?_cons_zero, List.getElem?_cons_succ, List.set_cons_zero, List.set_cons_succ, Nat.reduceAdd, Nat.reduceSub]; try simp only [List.map_cons, List.map_nil, List.append_nil, List.cons_append, List.nil_append, List.getElem?_cons_zero, List.getElem?_cons_succ, List.set_cons_zero, List.set_cons_succ, rIntI_eq, rIntB_eq, rAbs_eq, Option.some.injEq, V.int.injEq, V.bl.injEq, V.str.injEq, V.ref.injEq, exists_eq_left', exists_and_left, exists_eq', true_and, and_true, if_true, if_false, Bool.false_eq_true]))
local macro_rules | `(tactic| walk_at "evd") => `(tactic| repeat (first | exact evds_nil | exact evd_int | exact evd_str | exact evd_bl | exact evd_non | exact evd_neg | apply evds_cons | apply evd_tup | apply evd_lst | (simp only [List.length_cons, List.length_nil]; omega)))
def kids : Tm → List Tm | .cmp _ as => as | _ => []
def kidsL : List Tm → List Tm
  | [] => []
  | t :: ts => kids t ++ kidsL ts
theorem kidsL_append : ∀ (a b : List Tm), kidsL (a ++ b) = kidsL a ++ kidsL b
  | [], b => rfl
  | t :: a, b => by simp only [List.cons_append, kidsL, kidsL_append a b, List.append_assoc]
theorem depth_kids (t : Tm) : depth t = 1 + depthL (kids t) := by cases t <;> rfl
theorem depthL_append : ∀ (a b : List Tm), depthL (a ++ b) = max (depthL a) (depthL b)
  | [], b => by simp [depthL]
  | t :: a, b => by rw [List.cons_append]; simp only [depthL]; rw [depthL_append a b]; omega
theorem depthL_kids : ∀ (ts : List Tm), ts ≠ [] → depthL ts = 1 + depthL (kidsL ts)
  | [], h => absurd rfl h
  | [t], _ => by simp [depthL, kidsL, depth_kids]
  | t :: u :: ts, _ => by
    have ih := depthL_kids (u :: ts) (by simp)
    show max (depth t) (depthL (u :: ts)) = 1 + depthL (kids t ++ kidsL (u :: ts))
    rw [depthL_append, ih, depth_kids]
    omega
theorem parts_kids (t : Tm) : (parts t).length = 1 + (partsL (kids t)).length := by
  cases t <;> simp [parts, kids, partsL]
  omega
theorem partsL_kids : ∀ (ts : List Tm), (partsL ts).length = ts.length + (partsL (kidsL ts)).length
  | [] => rfl
  | t :: ts => by
    have ih := partsL_kids ts
    simp only [partsL, kidsL, partsL_append, List.length_append, List.length_cons, parts_kids, ih]
    omega
theorem wfs_kidsL : ∀ {ts : List Tm}, wfs ts → wfs (kidsL ts)
  | [], _ => trivial
  | t :: ts, h => wfs_append.mpr ⟨by cases t with | cmp f as => exact h.1.2.2.2 | _ => exact trivial, wfs_kidsL h.2⟩
theorem wfs_get : ∀ {ts : List Tm} {i : Nat} {t : Tm}, wfs ts → ts[i]? = some t → wf t
  | [], i, d, _, h => by simp at h
  | x :: ds, 0, d, h, e => by simp at e; subst e; exact h.1
  | x :: ds, i + 1, d, h, e => wfs_get (ts := ds) h.2 (by simpa using e)
theorem take_succ {α : Type} {l : List α} {i : Nat} {x : α} (h : l[i]? = some x) : l.take (i + 1) = l.take i ++ [x] := by
  rw [List.take_add_one, h]; rfl
theorem dens_get {K : PySem.W.Frag} {H : Hp} {us : List V} {ts : List Tm} {i : Nat} {x : V} (h : Dens K H us ts) (e : us[i]? = some x) : ∃ t, ts[i]? = some t ∧ Den K H x t := by
  have hi : i < us.length := (List.getElem?_eq_some_iff.mp e).1
  have hi2 : i < ts.length := by rw [← dens_len h]; exact hi
  obtain ⟨v, h1, h2⟩ := DpAll.get h (toDs_get (List.getElem?_eq_getElem hi2))
  rw [e] at h1
  cases h1
  exact ⟨_, List.getElem?_eq_getElem hi2, h2⟩
theorem partsL_get : ∀ {ts : List Tm} {i : Nat} {t : Tm}, ts[i]? = some t → (parts t).length ≤ (partsL ts).length
  | [], i, t, h => by simp at h
  | x :: ts, 0, t, e => by simp at e; subst e; simp [partsL]
  | x :: ts, i + 1, t, e => by have := partsL_get (ts := ts) (i := i) (t := t) (by simpa using e); simp [partsL]; omega
section
variable {P : Program} {w : World} {K : PySem.W.Frag} {mg : Str → Option Value} {base : Heap}
/-- one term laid into a list and checked -/
theorem chk1 {v : V} {t : Tm} {H : Hp} {Q : VK} {E : XK} (hd : Den K H v t) (hw : wf t) (hz : (parts t).length ≤ 50000) {p : Addr} (np : H p = none) (q : ∀ H', Same H H' → Q .non H') : sp_check_terms K [.ref p] (upd H p (.lst [v])) Q E :=
  ⟨p, [v], [toD t], rfl, SqL.of upd_same, .cons (Dp.same (same_upd np) _ _ hd) .nil, ⟨wf_sm t hw, trivial⟩, by have := sz_toD t; simp [szDs]; omega, by simp [isTerms, wf_isTerm t hw], fun H' s' => q H' ((same_upd np).trans s')⟩
def sp_size_of (K : PySem.W.Frag) : Sp := fun vs H Q _ => ∃ v t, vs = [v] ∧ Den K H v t ∧ wf t ∧ (parts t).length ≤ 50000 ∧ ∀ H', Same H H' → Q (.int (parts t).length) H'
theorem ok_size_of (B : Bf K mg) (G : Gd K mg "size_of" s_size_of) (O_check_terms : Okf P w K mg base "check_terms" 4 ["things"] [] (sp_check_terms K)) (O_parts_of : Okf P w K mg base "parts_of" 2 ["term"] [] (sp_parts_of K)) : Okf P w K mg base "size_of" 5 ["term"] [] (sp_size_of K) := by
  refine okf_mk G sc_size_of (fun _ _ _ _ _ _ us hl => match us, hl with | [_], _ => rfl) (fun vs H Q E h => ?_) (fun cdv A outer s H vs Q E hr h => ?_)
  · obtain ⟨v, t, rfl, _⟩ := h
    rfl
  · obtain ⟨v, t, rfl, hd, hw, hz, q⟩ := h
    refine ⟨_, (pss_cons (ps_expr (pe_callO O_check_terms (hr.mono (by decide)) (by rfl) (pa_cons (pe_lst (pa_cons (pv 0) pa_nil)) pa_nil)))
      (pss_one (ps_ret (pe_callB call_lenQ (by rfl) B.b_len (by decide +kernel) (pa_cons (pe_callO O_parts_of (hr.mono (by decide)) (by rfl) (pa_cons (pv 0) pa_nil)) pa_nil))))), ?_⟩
    walk_at "rd"
    refine ⟨(by show 1 ≤ sizeLine; decide), fun p np => chk1 hd hw hz np fun H1 s1 => ⟨v, t, rfl, Dp.same s1 _ _ hd, hw, hz, fun H2 p2 us s2 n2 e2 d2 => lenL (SqL.of e2) (q_int ?_ (q H2 (s1.trans s2)))⟩⟩
    rw [dens_len d2]
def sp_depth_of (K : PySem.W.Frag) : Sp := fun vs H Q _ => ∃ v t, vs = [v] ∧ Den K H v t ∧ wf t ∧ (parts t).length ≤ 50000 ∧ ∀ H', Same H H' → Q (.int (depth t)) H'
theorem ok_depth_of (B : Bf K mg) (G : Gd K mg "depth_of" s_depth_of) (O_check_terms : Okf P w K mg base "check_terms" 4 ["things"] [] (sp_check_terms K)) (O_is_compound : Okf P w K mg base "is_compound" 1 ["term"] [] (sp_is_compound K)) : Okf P w K mg base "depth_of" 5 ["term"] [] (sp_depth_of K) := by
  refine okf_mk G sc_depth_of (fun _ _ _ _ _ _ us hl => match us, hl with | [_], _ => rfl) (fun vs H Q E h => ?_) (fun cdv A outer s H vs Q E hr h => ?_)
  · obtain ⟨v, t, rfl, _⟩ := h
    rfl
  · obtain ⟨v, t, rfl, hd, hw, hz, q⟩ := h
    refine ⟨_, (pss_cons (ps_expr (pe_callO O_check_terms (hr.mono (by decide)) (by rfl) (pa_cons (pe_lst (pa_cons (pv 0) pa_nil)) pa_nil)))
      (pss_cons (ps_par (by rfl) sc_depth_of.nd (i := 1) (j := 2) rfl rfl (by decide) rfl rfl (pa_cons pe_int (pa_cons (pe_lst (pa_cons (pv 0) pa_nil)) pa_nil)) (by rfl))
      (pss_cons (ps_while PassesOwn.never (pt_cmpR (op_neNil hr.units0) (pv 2) (pe_lst pa_nil) (nomark _))
      (pss_cons (ps_aug (i := 1) sc_depth_of.nd rfl (Or.inl rfl) pe_int ip_add)
      (pss_cons (ps_set (i := 3) sc_depth_of.nd rfl (Or.inl rfl) (pe_lst pa_nil))
      (pss_cons (ps_for PassesOwn.never rfl (pi_list (pv 2)) (pg_name (i := 4) sc_depth_of.nd rfl (Or.inl rfl))
      (pss_one (ps_if (pt_val (pe_callO O_is_compound (hr.mono (by decide)) (by rfl) (pa_cons (pv 4) pa_nil)))
        (pss_one (ps_expr (pe_bm PySem.F.plainAttrs_list PySem.F.slot_list_extend PySem.F.type_list_extend mt_extendT (pv 3) (pa_cons (pe_slice sl_tupA (pv 4) (po_some pe_int) po_none) pa_nil))))
        pss_nil)))
      (pss_one (ps_set (i := 2) sc_depth_of.nd rfl (Or.inl rfl) (pv 3)))))))
      (pss_one (ps_ret (pv 1)))))), ?_⟩
    walk_at "rd"
    refine ⟨(by show 1 ≤ sizeLine; decide), fun p np => chk1 hd hw hz np fun H1 s1 => ?_⟩
    refine ⟨(by show 1 ≤ sizeLine; decide), fun p2 n2 => ⟨_, _, rfl, ?_⟩⟩
    refine twhile_of (fun m σ H1 => ∃ (n : Nat) (lv : Addr) (us : List V) (ts : List Tm) (z3 z4 : Option V), σ = [some v, some (.int n), some (.ref lv), z3, z4] ∧ Same H H1 ∧ H lv = none ∧ H1 lv = some (.lst us) ∧ Dens K H us ts ∧ wfs ts ∧ (partsL ts).length ≤ 50000 ∧ m = depthL ts ∧ n + depthL ts = depth t) (m := depth t)
      ⟨0, p2, [v], [t], none, none, rfl, s1.trans (same_upd n2), s1.free n2, upd_same, .cons hd .nil, ⟨hw, trivial⟩, by simpa [partsL] using hz, by simp [depthL], by simp [depthL]⟩ ?_
    clear s1 n2 np p p2
    rintro m σ H1 ⟨n, lv, us, ts, z3, z4, rfl, s1, nl, el, du, hws, hzs, rfl, he⟩
    walk_at "rd"
    refine ⟨Nat.zero_le _, fun b nb => neNilR el nb ⟨_, rfl, ?_⟩⟩
    have el2 : upd H1 b (.lst []) lv = some (.lst us) := by rw [upd_ne (ne_of_none el nb)]; exact el
    have s2 : Same H (upd H1 b (.lst [])) := s1.trans (same_upd nb)
    generalize upd H1 b (.lst []) = H2 at el2 s2 ⊢
    cases ts with
    | nil =>
      cases du
      refine iteF (q_int ?_ (q H2 s2))
      simp [depthL] at he
      rw [he]
    | cons t0 tr =>
      have hne : us.isEmpty = false := by cases du; rfl
      rw [hne]
      refine iteT ⟨_, fun σ' H' h => h, Nat.zero_le _, fun bl nbl => ?_⟩
      have s3 : Same H (upd H2 bl (.lst [])) := s2.trans (same_upd nbl)
      have el3 : upd H2 bl (.lst []) lv = some (.lst us) := by rw [upd_ne (ne_of_none el2 nbl)]; exact el2
      have nlb : lv ≠ bl := ne_of_none el2 nbl
      have eb3 : upd H2 bl (.lst []) bl = some (.lst []) := upd_same
      have nbH : H bl = none := s2.free nbl
      generalize upd H2 bl (.lst []) = H3 at s3 el3 eb3 ⊢
      have hk := depthL_kids (t0 :: tr) (by simp)
      have hpk := partsL_kids (t0 :: tr)
      generalize htr : t0 :: tr = ts at *
      have hlen := dens_len du
      refine tfor_of ⟨_, rfl, lv, rfl, ⟨_, SqL.of el3⟩, for_l (xs := us) (fun i σ H4 => ∃ bs z4, σ = [some v, some (.int (n + 1)), some (.ref lv), some (.ref bl), z4] ∧ Same H H4 ∧ H4 lv = some (.lst us) ∧ H4 bl = some (.lst bs) ∧ Dens K H bs (kidsL (ts.take i)))
        ⟨[], z4, rfl, s3, el3, eb3, by rw [List.take_zero]; exact .nil⟩ (fun i σ H4 _ ⟨_, _, _, _, e, _⟩ => SqL.of e) ?_ ?_⟩
      · rintro i x σ H4 hi ⟨bs, z, rfl, s4, el4, eb4, db⟩
        obtain ⟨tt, hti, dx⟩ := dens_get du hi
        have hwt := wfs_get hws hti
        have hbl := dens_len db
        have htk : ts.take (i + 1) = ts.take i ++ [tt] := take_succ hti
        have hpt : (partsL (kidsL ts)).length = (partsL (kidsL (ts.take i))).length + (partsL (kidsL (ts.drop i))).length := by
          rw [← List.length_append, ← partsL_append, ← kidsL_append, List.take_append_drop]
        have hpl := partsL_len (kidsL (ts.take i))
        walk_at "rd"
        refine ⟨_, _, rfl, Dp.same s4 _ _ dx, _, rfl, ?_⟩
        rw [isComp_toD hwt]
        cases tt with
        | cmp f as =>
          obtain ⟨a, xs, rfl, hs, hxs⟩ := den_cmp dx
          have hlx := dens_len hxs
          have hla : as.length ≤ 8 := hwt.2.2.1
          refine iteT ⟨tyL eb4, slT1 (Same.sqT s4 hs) fun p1 n1 => extT (by rw [upd_ne (ne_of_none eb4 n1)]; exact eb4) upd_same ?_ ?_⟩
          · exact Nat.le_trans (show _ ≤ 100000 by omega) (by decide)
          · refine ⟨bs ++ xs, _, rfl, Same.mut (s4.trans (same_upd n1)) nbH, ?_, upd_same, ?_⟩
            · rw [upd_ne nlb, upd_ne (ne_of_none el4 n1)]
              exact el4
            · rw [htk, kidsL_append]
              exact dens_app db (by simpa [kidsL, kids] using hxs)
        | _ =>
          refine iteF ⟨bs, _, rfl, s4, el4, eb4, ?_⟩
          rw [htk, kidsL_append]
          simpa [kidsL, kids] using db
      · rintro σ H4 ⟨bs, z, rfl, s4, el4, eb4, db⟩
        rw [hlen, List.take_length] at db
        walk_at "rd"
        refine ⟨depthL (kidsL ts), by omega, n + 1, bl, bs, kidsL ts, _, _, rfl, s4, nbH, eb4, db, wfs_kidsL hws, by omega, rfl, by omega⟩
/-! ### the variables -/
def addN (ks : List Nat) (k : Nat) : List Nat := if k ∈ ks then ks else ks ++ [k]
def addV (ks : List Nat) : Tm → List Nat
  | .var k => addN ks k
  | _ => ks
/-- the numbers of the variables, by first occurrence -/
def vars (ps : List Tm) : List Nat := ps.foldl addV []
def keyed (ks : List Nat) : List (Key × V) := ks.map fun (k : Nat) => (Sum.inl (k : Int), V.bl true)
theorem keyed_put (ks : List Nat) (k : Nat) : putK (keyed ks) (Sum.inl (k : Int)) (.bl true) = keyed (addN ks k) := by
  have hany : ((keyed ks).any fun kv => decide (kv.1 = Sum.inl (k : Int))) = decide (k ∈ ks) := by
    induction ks with
    | nil => rfl
    | cons x r ih =>
      show ((keyed (x :: r)).any _) = _
      unfold keyed at ih ⊢
      rw [List.map_cons, List.any_cons, ih]
      by_cases h : x = k
      · subst h; simp
      · have h2 : ¬ ((Sum.inl (x : Int) : Key) = Sum.inl (k : Int)) := fun z => h (by have := Sum.inl.inj z; omega)
        have h3 : ¬ k = x := fun z => h z.symm
        simp [h2, h3]
  unfold putK
  rw [hany]
  unfold addN
  by_cases h : k ∈ ks
  · rw [if_pos (decide_eq_true h), if_pos h]
    have : ∀ l : List (Key × V), (∀ kv ∈ l, kv.2 = V.bl true) → l.map (fun kv => if kv.1 = Sum.inl (k : Int) then (kv.1, V.bl true) else kv) = l := by
      intro l
      induction l with
      | nil => intro _; rfl
      | cons x r ih =>
        intro hl
        rw [List.map_cons, ih fun kv hk => hl kv (List.mem_cons_of_mem _ hk)]
        have hx := hl x List.mem_cons_self
        obtain ⟨x1, x2⟩ := x
        simp only at hx
        subst hx
        split <;> rfl
    exact this _ fun kv hk => by
      unfold keyed at hk
      obtain ⟨a, _, rfl⟩ := List.mem_map.mp hk
      rfl
  · rw [if_neg (by simp [h]), if_neg h]
    unfold keyed
    rw [List.map_append]
    rfl
mutual
theorem wfs_parts : ∀ (t : Tm), wf t → wfs (parts t)
  | .var k, h => ⟨h, trivial⟩
  | .num i, h => ⟨h, trivial⟩
  | .atm x, h => ⟨h, trivial⟩
  | .cmp f as, h => ⟨h, wfs_partsL as h.2.2.2⟩
theorem wfs_partsL : ∀ (ts : List Tm), wfs ts → wfs (partsL ts)
  | [], _ => trivial
  | t :: ts, h => wfs_append.mpr ⟨wfs_parts t h.1, wfs_partsL ts h.2⟩
end
theorem keyed_len (ks : List Nat) : (keyed ks).length = ks.length := by unfold keyed; rw [List.length_map]
theorem addV_len (ks : List Nat) (t : Tm) : (addV ks t).length ≤ ks.length + 1 := by
  cases t <;> simp [addV]
  unfold addN
  split <;> simp
theorem foldl_addV_len : ∀ (ps : List Tm) (ks : List Nat), (ps.foldl addV ks).length ≤ ks.length + ps.length
  | [], ks => by simp
  | t :: ps, ks => by
    have h1 := addV_len ks t
    have h2 := foldl_addV_len ps (addV ks t)
    simp only [List.foldl_cons, List.length_cons]
    omega
def nV (ks : List Nat) : List V := ks.map fun (k : Nat) => V.int (k : Int)
def sp_numbers_in (K : PySem.W.Frag) : Sp := fun vs H Q _ => ∃ a us ts, vs = [.ref a] ∧ SqL K H a us ∧ Dens K H us ts ∧ wfs ts ∧ (partsL ts).length ≤ 50000 ∧ ∀ H' p, Same H H' → H p = none → H' p = some (.lst (nV (vars (partsL ts)))) → Q (.ref p) H'
theorem ok_numbers_in (B : Bf K mg) (G : Gd K mg "numbers_in" s_numbers_in) (O_parts_of : Okf P w K mg base "parts_of" 2 ["term"] [] (sp_parts_of K)) (O_is_variable : Okf P w K mg base "is_variable" 2 ["thing"] [] (sp_is_variable K)) : Okf P w K mg base "numbers_in" 3 ["terms"] [] (sp_numbers_in K) := by
  refine okf_mk G sc_numbers_in (fun _ _ _ _ _ _ us hl => match us, hl with | [_], _ => rfl) (fun vs H Q E h => ?_) (fun cdv A outer s H vs Q E hr h => ?_)
  · obtain ⟨a, us, ts, rfl, _⟩ := h
    rfl
  · obtain ⟨a, us, ts, rfl, hs, du, hws, hz, q⟩ := h
    refine ⟨_, (pss_cons (ps_set (i := 1) sc_numbers_in.nd rfl (Or.inl rfl) pe_dnewK)
      (pss_cons (ps_for PassesOwn.never rfl (pi_list (pv 0)) (pg_name (i := 2) sc_numbers_in.nd rfl (Or.inl rfl))
      (pss_one (ps_for PassesOwn.never rfl (pi_list (pe_callO O_parts_of (hr.mono (by decide)) (by rfl) (pa_cons (pv 2) pa_nil))) (pg_name (i := 3) sc_numbers_in.nd rfl (Or.inl rfl))
      (pss_one (ps_if (pt_val (pe_callO O_is_variable (hr.mono (by decide)) (by rfl) (pa_cons (pv 3) pa_nil)))
        (pss_one (ps_dput (hu_of hr) (pv 1) (pe_ix (show IxR _ (rIxT K) from ix_tup) (pv 3) pe_int (fun _ _ => rfl)) pe_bl rfl))
        pss_nil)))))
      (pss_one (ps_ret (pe_callTy (call_list_dK rfl) (by rfl) B.b_list (by decide +kernel) (pa_cons (pv 1) pa_nil)))))), ?_⟩
    walk_at "rd"
    intro f nf
    have hlen := dens_len du
    refine tfor_of ⟨_, rfl, a, rfl, ⟨_, (same_upd nf).seq hs⟩, for_l (xs := us) (fun i σ H4 => ∃ z2 z3, σ = [some (.ref a), some (.ref f), z2, z3] ∧ Same H H4 ∧ H4 f = some (.dK (keyed (vars (partsL (ts.take i))))))
        ⟨none, none, rfl, same_upd nf, by rw [List.take_zero]; exact upd_same⟩ (fun i σ H4 _ ⟨_, _, _, s4, _⟩ => s4.seq hs) ?_ ?_⟩
    · rintro i x σ H4 hi ⟨z2, z3, rfl, s4, ef⟩
      obtain ⟨tt, hti, dx⟩ := dens_get du hi
      have hwt := wfs_get hws hti
      have htk : ts.take (i + 1) = ts.take i ++ [tt] := take_succ hti
      have hpt := partsL_get hti
      walk_at "rd"
      refine tfor_of ?_
      refine ⟨_, rfl, _, _, rfl, Dp.same s4 _ _ dx, hwt, by omega, fun H5 p us2 s5 n5 e5 d5 => ⟨p, rfl, ⟨_, SqL.of e5⟩, ?_⟩⟩
      have ef5 : H5 f = some (.dK (keyed (vars (partsL (ts.take i))))) := s5 _ _ ef
      have hl5 := dens_len d5
      have npf : p ≠ f := (ne_of_none ef n5).symm
      have hw5 := wfs_parts tt hwt
      refine for_l (xs := us2) (fun j σ H6 => ∃ z3, σ = [some (.ref a), some (.ref f), some x, z3] ∧ Sm (· = f) H5 H6 ∧ Same H H6 ∧ H6 f = some (.dK (keyed (((parts tt).take j).foldl addV (vars (partsL (ts.take i))))))) ⟨z3, rfl, Sm.refl _, s4.trans s5, by rw [List.take_zero]; exact ef5⟩
        (fun j σ H6 _ ⟨_, _, s6, _⟩ => s6.sqL npf (SqL.of e5)) ?_ ?_
      · rintro j y σ H6 hj ⟨z3, rfl, s6, s7, e6⟩
        obtain ⟨ty, hty, dy⟩ := dens_get d5 hj
        have hwy := wfs_get hw5 hty
        have htk2 : (parts tt).take (j + 1) = (parts tt).take j ++ [ty] := take_succ hty
        have tk6 : Tk H4 H6 := (Tk.of s5).trans (Tk.sm s6 fun b o m e => by subst m; rw [ef5] at e; cases e; exact fun f => f)
        have dy6 : Den K H6 y ty := Dp.tk tk6 _ _ (noL_toD ty) dy
        have hkl : (((parts tt).take j).foldl addV (vars (partsL (ts.take i)))).length ≤ 200000 := by
          have h1 := foldl_addV_len ((parts tt).take j) (vars (partsL (ts.take i)))
          have h2 := foldl_addV_len (partsL (ts.take i)) []
          have h3 : ((parts tt).take j).length ≤ (parts tt).length := by rw [List.length_take]; omega
          have h4 : (partsL (ts.take i)).length ≤ (partsL ts).length := by
            have : partsL ts = partsL (ts.take i) ++ partsL (ts.drop i) := by rw [← partsL_append, List.take_append_drop]
            rw [this, List.length_append]
            omega
          have h5 : (vars (partsL (ts.take i))).length ≤ (partsL (ts.take i)).length := by simpa [vars] using h2
          omega
        walk_at "rd"
        refine ⟨_, _, rfl, dy6, _, rfl, ?_⟩
        rw [isVar_toD hwy, htk2, List.foldl_append]
        cases ty with
        | var k =>
          obtain ⟨c, rfl, hc⟩ := den_var dy6
          refine iteT (ixT0 hc ⟨_, DPut.k (k := Sum.inl (k : Int)) e6 (Nat.lt_of_le_of_lt (by rw [keyed_len]; exact hkl) (by decide)), ?_⟩)
          rw [keyed_put]
          exact ⟨_, rfl, s6.at rfl, Same.mut s7 nf, upd_same⟩
        | _ => exact iteF ⟨_, rfl, s6, s7, e6⟩
      · rintro σ H6 ⟨z3, rfl, s6, s7, e6⟩
        rw [hl5, List.take_length] at e6
        refine ⟨_, _, rfl, s7, ?_⟩
        rw [e6, htk, partsL_append]
        simp only [partsL, List.append_nil, vars, List.foldl_append]
    · rintro σ H4 ⟨z2, z3, rfl, s4, ef⟩
      rw [hlen, List.take_length] at ef
      walk_at "rd"
      refine ⟨f, _, rfl, ef, fun p np => q _ p (s4.trans (same_upd np)) (s4.free np) ?_⟩
      rw [upd_same]
      simp only [keyed, nV, List.map_map]
      rfl
def sp_variables_of (K : PySem.W.Frag) : Sp := fun vs H Q _ => ∃ v t, vs = [v] ∧ Den K H v t ∧ wf t ∧ (parts t).length ≤ 50000 ∧ ∀ H' p, Same H H' → H p = none → H' p = some (.lst (nV (vars (parts t)))) → Q (.ref p) H'
theorem ok_variables_of (B : Bf K mg) (G : Gd K mg "variables_of" s_variables_of) (O_check_terms : Okf P w K mg base "check_terms" 4 ["things"] [] (sp_check_terms K)) (O_numbers_in : Okf P w K mg base "numbers_in" 3 ["terms"] [] (sp_numbers_in K)) : Okf P w K mg base "variables_of" 5 ["term"] [] (sp_variables_of K) := by
  refine okf_mk G sc_variables_of (fun _ _ _ _ _ _ us hl => match us, hl with | [_], _ => rfl) (fun vs H Q E h => ?_) (fun cdv A outer s H vs Q E hr h => ?_)
  · obtain ⟨v, t, rfl, _⟩ := h
    rfl
  · obtain ⟨v, t, rfl, hd, hw, hz, q⟩ := h
    refine ⟨_, (pss_cons (ps_expr (pe_callO O_check_terms (hr.mono (by decide)) (by rfl) (pa_cons (pe_lst (pa_cons (pv 0) pa_nil)) pa_nil)))
      (pss_one (ps_ret (pe_callO O_numbers_in (hr.mono (by decide)) (by rfl) (pa_cons (pe_lst (pa_cons (pv 0) pa_nil)) pa_nil))))), ?_⟩
    walk_at "rd"
    refine ⟨(by show 1 ≤ sizeLine; decide), fun p np => chk1 hd hw hz np fun H1 s1 => ⟨(by show 1 ≤ sizeLine; decide), fun p2 n2 => ?_⟩⟩
    have s2 := s1.trans (same_upd (o := .lst [v]) n2)
    refine ⟨p2, [v], [t], rfl, SqL.of upd_same, .cons (Dp.same s2 _ _ hd) .nil, ⟨hw, trivial⟩, by simpa [partsL] using hz, fun H3 p3 s3 n3 e3 => q H3 p3 (s2.trans s3) (s2.free n3) ?_⟩
    rw [e3]
    simp [partsL]
end
end K1

namespace K1
open PySem PySem.Spec PyProof.Rows L2 HM
local macro_rules | `(tactic| walk_at "rd") => `(tactic| (dsimp only [tSeq, tNext, tRet, tRetN, tAsg, gName, gTup, gCons, gNil, gSub, tDrop, tIfS, tVar, tC, tOp, tUn, tTest, tB, tAnd, tOr, tNot, tAndV, tOrV, tNotV, tIf, tCB, tCons, tNil, tTup, tLst, tCall, tPar, tPar3, tAug, tSl, tPart, tNoPart, tBM, tBM0, tRevT, tRevL, tChain, sDPut, tDGet, tDGet1, tDGet2, tDNewK, tDNewT, tDIn, tDNotIn, tYes, wipe, cxOf, Cx.nox, Cx.wish, L2.start, rI0, rI, rU, ipI, List.length_cons, List.length_nil, List.map_cons, List.map_nil, List.replicate, List.cons_append, List.nil_append, List.append_nil, List.getElem?_cons_zero, List.getElem?_cons_succ, List.set_cons_zero, List.set_cons_succ, Nat.reduceAdd, Nat.reduceSub]; try simp only [List.map_cons, List.map_nil, List.append_nil, List.cons_append, List.nil_append, List.getElem?_cons_zero, List.getElem?_cons_succ, List.set_cons_zero, List.set_cons_succ, rIntI_eq, rIntB_eq, rAbs_eq, Option.some.injEq, V.int.injEq, V.bl.injEq, V.str.injEq, V.ref.injEq, exists_eq_left', exists_and_left, exists_eq', true_and, and_true, if_true, if_false, Bool.false_eq_true]))
local macro_rules | `(tactic| walk_at "r0") => `(tactic| (dsimp only [tSeq, tNext, tRet, tRetN, tAsg, gName, gTup, gCons, gNil, gSub, tDrop, tIfS, tVar, tC, tOp, tUn, tTest, tB, tAnd, tOr, tNot, tAndV, tOrV, tNotV, tIf, tCB, tCons, tNil, tCall, tPar, tPar3, tAug, tSl, tPart, tNoPart, tBM, tBM0, tRevT, tRevL, tChain, sDPut, tDGet, tDGet1, tDGet2, tDNewK, tDNewT, tDIn, tDNotIn, tYes, wipe, cxOf, Cx.nox, Cx.wish, L2.start, rI0, rI, rU, ipI, List.length_cons, List.length_nil, List.map_cons, List.map_nil, List.replicate, List.cons_append, List.nil_append, List.append_nil, List.getElem?_cons_zero, List.getElem?_cons_succ, List.set_cons_zero, List.set_cons_succ, Nat.reduceAdd, Nat.reduceSub]; try simp only [List.map_cons, List.map_nil, List.append_nil, List.cons_append, List.nil_append, List.getElem?_cons_zero, List.getElem?_cons_succ, List.set_cons_zero, List.set_cons_succ, rIntI_eq, rIntB_eq, rAbs_eq, Option.some.injEq, V.int.injEq, V.bl.injEq, V.str.injEq, V.ref.injEq, exists_eq_left', exists_and_left, exists_eq', true_and, and_true, if_true, if_false, Bool.false_eq_true]))
local macro_rules | `(tactic| walk_at "evd") => `(tactic| repeat (first | exact evds_nil | exact evd_int | exact evd_str | exact evd_bl | exact evd_non | exact evd_neg | apply evds_cons | apply evd_tup | apply evd_lst | (simp only [List.length_cons, List.length_nil]; omega)))
mutual
def subst (f : Nat → Option Tm) : Tm → Tm
  | .var k => (f k).getD (.var k)
  | .num i => .num i
  | .atm x => .atm x
  | .cmp g as => .cmp g (substL f as)
def substL (f : Nat → Option Tm) : List Tm → List Tm
  | [] => []
  | t :: ts => subst f t :: substL f ts
end
theorem substL_length (f : Nat → Option Tm) : ∀ ts, (substL f ts).length = ts.length
  | [] => rfl
  | t :: ts => by simp [substL, substL_length f ts]
def itD (p : Tm × Bool) : PyData := .tuple [toD p.1, .bool p.2]
/-- what the stack of replaced makes, its top first -/
def fin (f : Nat → Option Tm) : List (Tm × Bool) → List Tm → Option (List Tm)
  | [], dn => some dn
  | (t, false) :: st, dn => fin f st (dn ++ [subst f t])
  | (.cmp g as, true) :: st, dn => if as.length ≤ dn.length then fin f st (dn.take (dn.length - as.length) ++ [.cmp g (dn.drop (dn.length - as.length))]) else none
  | (_, true) :: _, _ => none
theorem fin_pushed (f : Nat → Option Tm) : ∀ (as : List Tm) (st : List (Tm × Bool)) (dn : List Tm), fin f (as.map (·, false) ++ st) dn = fin f st (dn ++ substL f as)
  | [], st, dn => by simp [substL]
  | t :: as, st, dn => by
    rw [List.map_cons, List.cons_append]
    show fin f (as.map (·, false) ++ st) (dn ++ [subst f t]) = _
    rw [fin_pushed f as st]
    simp [substL]
theorem fin_cmp (f : Nat → Option Tm) (g : Str) (as : List Tm) (st : List (Tm × Bool)) (dn : List Tm) : fin f (as.map (·, false) ++ (.cmp g as, true) :: st) dn = fin f ((.cmp g as, false) :: st) dn := by
  rw [fin_pushed]
  show (if as.length ≤ (dn ++ substL f as).length then fin f st ((dn ++ substL f as).take ((dn ++ substL f as).length - as.length) ++ [.cmp g ((dn ++ substL f as).drop ((dn ++ substL f as).length - as.length))]) else none) = fin f st (dn ++ [subst f (.cmp g as)])
  have hl : (dn ++ substL f as).length - as.length = dn.length := by rw [List.length_append, substL_length]; omega
  rw [if_pos (by rw [List.length_append, substL_length]; omega), hl, List.take_left, List.drop_left]
  rfl
theorem noLs_its : ∀ (its : List (Tm × Bool)), noLs (its.map itD) = true
  | [] => rfl
  | x :: its => by rw [List.map_cons]; simp [noLs, itD, noL, noL_toD, noLs_its its]
def wt : List (Tm × Bool) → Nat
  | [] => 0
  | (t, false) :: st => 2 * (parts t).length + wt st
  | (_, true) :: st => 1 + wt st
theorem wt_append : ∀ (a b : List (Tm × Bool)), wt (a ++ b) = wt a + wt b
  | [], b => by simp [wt]
  | (t, false) :: a, b => by rw [List.cons_append]; simp only [wt]; rw [wt_append a b]; omega
  | (t, true) :: a, b => by rw [List.cons_append]; simp only [wt]; rw [wt_append a b]; omega
theorem wt_args : ∀ (as : List Tm), wt (as.map (·, false)) = 2 * (partsL as).length
  | [] => rfl
  | t :: as => by rw [List.map_cons]; simp only [wt, partsL, List.length_append]; rw [wt_args as]; omega
theorem wt_len : ∀ (a : List (Tm × Bool)), a.length ≤ wt a
  | [] => Nat.le_refl _
  | (t, false) :: a => by have := wt_len a; have := parts_pos t; simp only [wt, List.length_cons]; omega
  | (t, true) :: a => by have := wt_len a; simp only [wt, List.length_cons]; omega
theorem wt_reverse : ∀ (a : List (Tm × Bool)), wt a.reverse = wt a
  | [] => rfl
  | (t, false) :: a => by rw [List.reverse_cons, wt_append, wt_reverse a]; simp only [wt]; omega
  | (t, true) :: a => by rw [List.reverse_cons, wt_append, wt_reverse a]; simp only [wt]; omega
/-- cuts with a number from behind -/
theorem sIx_neg (n d k : Nat) (hk : 0 < k) (h : k ≤ n) : HT.sIx n d (some (-(k : Int))) = n - k := by
  unfold HT.sIx
  dsimp only
  split <;> omega
theorem cut_last (xs : List V) (k : Nat) (hk : 0 < k) (h : k ≤ xs.length) : cutV xs (some (-(k : Int))) none = xs.drop (xs.length - k) := by
  unfold cutV
  rw [sIx_neg _ _ _ hk h, HT.sIx_none]
  exact List.take_of_length_le (by rw [List.length_drop]; omega)
theorem cut_first (xs : List V) (k : Nat) (hk : 0 < k) (h : k ≤ xs.length) : cutV xs none (some (-(k : Int))) = xs.take (xs.length - k) := by
  unfold cutV
  rw [sIx_neg _ _ _ hk h, HT.sIx_none]
  rw [Nat.sub_zero, List.drop_zero]
theorem toDs_take : ∀ (k : Nat) (ts : List Tm), toDs (ts.take k) = (toDs ts).take k
  | 0, ts => by simp [toDs]
  | k + 1, [] => by simp [toDs]
  | k + 1, t :: ts => by simp [toDs, toDs_take k ts]
theorem toDs_drop : ∀ (k : Nat) (ts : List Tm), toDs (ts.drop k) = (toDs ts).drop k
  | 0, ts => by simp
  | k + 1, [] => by simp [toDs]
  | k + 1, t :: ts => by simp [toDs, toDs_drop k ts]
theorem DpAll.take {K : PySem.W.Frag} {H : Hp} : ∀ {vs : List V} {ds : List PyData} (k : Nat), DpAll K H vs ds → DpAll K H (vs.take k) (ds.take k)
  | _, _, 0, _ => by simp; exact .nil
  | _, _, k + 1, .nil => by simp; exact .nil
  | _, _, k + 1, .cons h t => .cons h (DpAll.take k t)
theorem DpAll.drop {K : PySem.W.Frag} {H : Hp} : ∀ {vs : List V} {ds : List PyData} (k : Nat), DpAll K H vs ds → DpAll K H (vs.drop k) (ds.drop k)
  | _, _, 0, h => by simpa using h
  | _, _, k + 1, .nil => by simp; exact .nil
  | _, _, k + 1, .cons h t => DpAll.drop k t
theorem dpAll_of {K : PySem.W.Frag} {H : Hp} : ∀ {vs : List V} {ds : List PyData}, vs.length = ds.length → (∀ (j : Nat) v, vs[j]? = some v → ∃ d, ds[j]? = some d ∧ Dp K H v d) → DpAll K H vs ds
  | [], [], _, _ => .nil
  | [], _ :: _, h, _ => by cases h
  | _ :: _, [], h, _ => by cases h
  | v :: vs, d :: ds, h, g => by
    obtain ⟨d', e, hd⟩ := g 0 v rfl
    cases e
    exact .cons hd (dpAll_of (by simpa using h) fun j v hv => by simpa using g (j + 1) v (by simpa using hv))
/-- a dict of numbers that holds what f tells -/
def TabOk (K : PySem.W.Frag) (H : Hp) (kvs : List (Key × V)) (f : Nat → Option Tm) : Prop :=
  ∀ k : Nat, (f k = none ∧ valV kvs (Sum.inl (k : Int)) = none) ∨ ∃ t u, f k = some t ∧ valV kvs (Sum.inl (k : Int)) = some u ∧ Den K H u t
theorem TabOk.tk {K : PySem.W.Frag} {H H' : Hp} {kvs : List (Key × V)} {f : Nat → Option Tm} (h : TabOk K H kvs f) (e : Tk H H') : TabOk K H' kvs f := fun k => by
  rcases h k with h | ⟨t, u, h1, h2, h3⟩
  · exact .inl h
  · exact .inr ⟨t, u, h1, h2, Dp.tk e _ _ (noL_toD t) h3⟩
section
variable {P : Program} {w : World} {K : PySem.W.Frag} {mg : Str → Option Value} {base : Heap}
def sp_replaced (K : PySem.W.Frag) : Sp := fun vs H Q _ => ∃ v t d kvs f, vs = [v, .ref d] ∧ Den K H v t ∧ wf t ∧ (parts t).length ≤ 50000 ∧ H d = some (.dK kvs) ∧ TabOk K H kvs f ∧ ∀ H' u, Same H H' → Den K H' u (subst f t) → Q u H'
theorem ok_replaced (B : Bf K mg) (G : Gd K mg "replaced" s_replaced) (O_is_compound : Okf P w K mg base "is_compound" 1 ["term"] [] (sp_is_compound K)) (O_is_variable : Okf P w K mg base "is_variable" 2 ["thing"] [] (sp_is_variable K)) : Okf P w K mg base "replaced" 3 ["term", "table"] [] (sp_replaced K) := by
  refine okf_mk G sc_replaced (fun _ _ _ _ _ _ us hl => match us, hl with | [_, _], _ => rfl) (fun vs H Q E h => ?_) (fun cdv A outer s H vs Q E hr h => ?_)
  · obtain ⟨v, t, d, kvs, f, rfl, _⟩ := h
    rfl
  · obtain ⟨v, t, d, kvs, f, rfl, hd, hw, hz, hk, hf, q⟩ := h
    refine ⟨_, (pss_cons (ps_par (by rfl) sc_replaced.nd (i := 2) (j := 3) rfl rfl (by decide) rfl rfl (pa_cons (pe_lst pa_nil) (pa_cons (pe_lst (pa_cons (pe_tup (pa_cons (pv 0) (pa_cons pe_bl pa_nil))) pa_nil)) pa_nil)) (by rfl))
      (pss_cons (ps_while PassesOwn.never (pt_cmpR (op_neNil hr.units0) (pv 3) (pe_lst pa_nil) (nomark _))
      (pss_cons (ps_asg (pe_bm0 PySem.F.plainAttrs_list PySem.F.slot_list_pop PySem.F.type_list_pop mt_pop (pv 3)) (pg_tup rfl (pgs_cons (pg_name (i := 4) sc_replaced.nd rfl (Or.inl rfl)) (pgs_cons (pg_name (i := 5) sc_replaced.nd rfl (Or.inl rfl)) pgs_nil))))
      (pss_one (ps_if (pt_val (pv 5))
        (pss_cons (ps_set (i := 6) sc_replaced.nd rfl (Or.inl rfl) (pe_op op_sub (pe_callB call_lenQ (by rfl) B.b_len (by decide +kernel) (pa_cons (pv 4) pa_nil)) pe_int))
      (pss_cons (ps_set (i := 7) sc_replaced.nd rfl (Or.inl rfl) (pe_op op_catA (pe_tup (pa_cons (pe_ix (show IxR _ (rIxT K) from ix_tup) (pv 4) pe_int (fun _ _ => rfl)) pa_nil)) (pe_callTy call_tuple_of (by rfl) B.b_tuple (by decide +kernel) (pa_cons (pe_slice sl_list (pv 2) (po_some (pe_un un_neg (pv 6))) po_none) pa_nil))))
      (pss_cons (ps_set (i := 2) sc_replaced.nd rfl (Or.inl rfl) (pe_slice sl_list (pv 2) po_none (po_some (pe_un un_neg (pv 6)))))
      (pss_one (ps_expr (pe_bm PySem.F.plainAttrs_list PySem.F.slot_list_append PySem.F.type_list_append mt_append (pv 2) (pa_cons (pv 7) pa_nil)))))))
        (pss_one (ps_if (pt_val (pe_callO O_is_compound (hr.mono (by decide)) (by rfl) (pa_cons (pv 4) pa_nil)))
        (pss_cons (ps_expr (pe_bm PySem.F.plainAttrs_list PySem.F.slot_list_append PySem.F.type_list_append mt_append (pv 3) (pa_cons (pe_tup (pa_cons (pv 4) (pa_cons pe_bl pa_nil))) pa_nil)))
      (pss_one (ps_expr (pe_bm PySem.F.plainAttrs_list PySem.F.slot_list_extend PySem.F.type_list_extend mt_extend (pv 3) (pa_cons (pe_lc (own := [("argument", 8)]) (g := gName 8) (tt := tYes) rfl sc_replaced.nd (pi_tup (pe_revT (pv 4))) (blkOk_by (own := [("argument", 8)]) (N := ["term", "table", "done", "waiting", "part", "is_ready", "many", "made", "argument"]) (sc := defScope s_replaced) (by decide +kernel)) (fun _ _ _ _ _ => (pg_name (i := 8) sc_replaced.nd rfl (Or.inl rfl))) (fun _ _ _ _ _ => pts_nil) (fun _ _ _ _ _ => (pe_tup (pa_cons (pv 8) (pa_cons pe_bl pa_nil))))) pa_nil)))))
        (pss_one (ps_expr (pe_bm PySem.F.plainAttrs_list PySem.F.slot_list_append PySem.F.type_list_append mt_append (pv 2) (pa_cons (pe_ifExp (pt_val (pe_callO O_is_variable (hr.mono (by decide)) (by rfl) (pa_cons (pv 4) pa_nil))) (pe_dget2 (hu_of hr) (pv 1) (pe_ix (show IxR _ (rIxT K) from ix_tup) (pv 4) pe_int (fun _ _ => rfl)) (pv 4) ⟨rfl, rfl, rfl, rfl⟩) (pv 4)) pa_nil))))))))))
      (pss_one (ps_ret (pe_ix (show IxR _ (rIxL K) from ix_list) (pv 2) pe_int (fun _ _ => rfl)))))), ?_⟩
    walk_at "rd"
    refine ⟨Nat.zero_le _, fun dl nd => ⟨(by show 2 ≤ sizeLine; decide), fun p1 n1 => ⟨(by show 1 ≤ sizeLine; decide), fun p np => ⟨_, _, rfl, ?_⟩⟩⟩⟩
    have S0 : Same H (upd (upd (upd H dl (.lst [])) p1 (.tup [v, .bl false])) p (.lst [.ref p1])) := ((same_upd nd).trans (same_upd n1)).trans (same_upd np)
    have S1 : Same (upd H dl (.lst [])) (upd (upd (upd H dl (.lst [])) p1 (.tup [v, .bl false])) p (.lst [.ref p1])) := (same_upd n1).trans (same_upd np)
    have npH : H p = none := ((same_upd nd).trans (same_upd n1)).free np
    have ndp : dl ≠ p := ne_of_none ((same_upd n1) _ _ upd_same) np
    have e0 : upd (upd (upd H dl (.lst [])) p1 (.tup [v, .bl false])) p (.lst [.ref p1]) dl = some (.lst []) := S1 _ _ upd_same
    have e1 : SqT K (upd (upd (upd H dl (.lst [])) p1 (.tup [v, .bl false])) p (.lst [.ref p1])) p1 [v, .bl false] := SqT.of ((same_upd np) _ _ upd_same)
    refine twhile_of (fun m σ H1 => ∃ (dl : Addr) (us ws : List V) (dn : List Tm) (its : List (Tm × Bool)) (z4 z5 z6 z7 z8 : Option V), σ = [some v, some (.ref d), some (.ref dl), some (.ref p), z4, z5, z6, z7, z8] ∧ Same H H1 ∧ H dl = none ∧ dl ≠ p ∧ H1 dl = some (.lst us) ∧ H1 p = some (.lst ws) ∧
        Dens K H1 us dn ∧ DpAll K H1 ws (its.map itD) ∧ (∀ x ∈ its, wf x.1) ∧ dn.length + wt its ≤ 100000 ∧ m = wt its ∧ fin f its.reverse dn = some [subst f t]) (m := 2 * (parts t).length)
      ⟨dl, [], [.ref p1], [], [(t, false)], none, none, none, none, none, rfl, S0, nd, ndp, e0, upd_same, .nil, .cons (.tup e1 (.cons (Dp.same S0 _ _ hd) (.cons (.bl false) .nil))) .nil, fun x hx => by simp at hx; subst hx; exact hw, by simp [wt]; omega, by simp [wt], by simp [fin]⟩ ?_
    clear S0 S1 e0 e1 ndp nd dl n1 np p1
    rintro m σ H1 ⟨dl, us, ws, dn, its, z4, z5, z6, z7, z8, rfl, s1, nd, ndp, ed, ep, du, dw, hws, hlen, rfl, he⟩
    walk_at "rd"
    refine ⟨Nat.zero_le _, fun b nb => neNilR ep nb ⟨_, rfl, ?_⟩⟩
    have sb : Same H1 (upd H1 b (.lst [])) := same_upd nb
    have ep2 := sb _ _ ep
    have ed2 := sb _ _ ed
    have s2 := s1.trans sb
    have t2 : Tk H1 (upd H1 b (.lst [])) := Tk.of sb
    generalize upd H1 b (.lst []) = H2 at ep2 ed2 s2 t2 ⊢
    clear sb nb b
    rcases concat_or its with rfl | ⟨its, ⟨t0, b0⟩, rfl⟩
    · cases dw
      simp [fin] at he
      subst he
      cases du with
      | cons d1 d2 =>
        cases d2
        exact iteF (ixL0 (SqL.of ed2) (q H2 _ s2 (Dp.tk t2 _ _ (noL_toD _) d1)))
    · rw [List.map_append] at dw
      obtain ⟨ws, v0, rfl, dq, d0⟩ := DpAll.snoc dw
      clear dw
      rw [show (!(ws ++ [v0]).isEmpty) = true by simp]
      have hw0 : wf t0 := hws (t0, b0) (by simp)
      have hws' : ∀ x ∈ its, wf x.1 := fun x hx => hws x (by simp [hx])
      rw [List.reverse_append] at he
      have he : fin f ((t0, b0) :: its.reverse) dn = some [subst f t] := he
      rw [wt_append] at hlen ⊢
      have hl1 := dens_len du
      have hl2 := DpAll.length dq
      rw [List.length_map] at hl2
      have hl3 := wt_len its
      refine iteT ⟨_, fun σ' H' h => h, tyL ep2, popR ep2 ?_⟩
      have s3 : Same H (upd H2 p (.lst ws)) := Same.mut s2 npH
      have t3 : Tk H1 (upd H2 p (.lst ws)) := t2.trans (Tk.upd fun u e => by rw [ep2] at e; cases e; exact fun f => f)
      have ep3 : upd H2 p (.lst ws) p = some (.lst ws) := upd_same
      have ed3 : upd H2 p (.lst ws) dl = some (.lst us) := by rw [upd_ne ndp]; exact ed2
      generalize upd H2 p (.lst ws) = H3 at s3 t3 ep3 ed3 ⊢
      clear s2 t2 ep2 ed2
      have du3 : Dens K H3 us dn := DpAll.tk t3 _ _ (noLs_toDs dn) du
      have dq3 : DpAll K H3 ws (its.map itD) := DpAll.tk t3 _ _ (noLs_its its) dq
      have d03 : Dp K H3 v0 (itD (t0, b0)) := Dp.tk t3 _ _ (by simp [itD, noL, noLs, noL_toD]) d0
      clear du dq d0
      cases d03 with
      | @tup qa qs _ hq ha =>
        cases ha with
        | cons h1 h2 =>
          rename_i v1 _
          cases h2 with
          | cons h3 h4 =>
            cases h3
            cases h4
            have h1 : Den K H3 v1 t0 := h1
            refine ⟨qa, rfl, _, hq, rfl, _, _, rfl, _, _, rfl, rfl, ?_⟩
            cases b0 with
            | true =>
              refine ⟨true, rfl, iteT ?_⟩
              cases t0 with
              | cmp g as =>
                obtain ⟨a, xs, rfl, hs, hxs⟩ := den_cmp h1
                have hlx := dens_len hxs
                have hla : as ≠ [] := hw0.2.1
                have hpos : 0 < as.length := List.length_pos_iff.mpr hla
                have he : (if as.length ≤ dn.length then fin f its.reverse (dn.take (dn.length - as.length) ++ [.cmp g (dn.drop (dn.length - as.length))]) else none) = some [subst f t] := he
                by_cases hle : as.length ≤ dn.length
                · rw [if_pos hle] at he
                  have hwt : wt [(Tm.cmp g as, true)] = 1 := rfl
                  rw [hwt] at hlen ⊢
                  have ei : -((((V.str g) :: xs).length : Int) - 1) = -(as.length : Int) := by rw [List.length_cons, hlx]; omega
                  refine lenT hs ⟨_, rfl, ixT0 hs ⟨(by show 1 ≤ sizeLine; decide), fun q1 n1 => ?_⟩⟩
                  rw [ei]
                  have S1 : Same H3 (upd H3 q1 (.tup [.str g])) := same_upd n1
                  refine ⟨dl, us, rfl, SqL.of (S1 _ _ ed3), fun q2 n2 => ?_⟩
                  rw [cut_last us _ hpos (by omega)]
                  refine ⟨q2, rfl, _, .inl ⟨SqL.of upd_same, fun q3 n3 => ?_⟩⟩
                  have S2 := S1.trans (same_upd (o := .lst (us.drop (us.length - as.length))) n2)
                  have S3 := S2.trans (same_upd (o := .tup (us.drop (us.length - as.length))) n3)
                  have hne : us.drop (us.length - as.length) ≠ [] := fun z => by
                    have := congrArg List.length z
                    rw [List.length_drop] at this
                    simp at this
                    omega
                  refine ⟨q1, q3, [.str g], us.drop (us.length - as.length), rfl, rfl, SqT.of (((same_upd n2).trans (same_upd n3)) _ _ upd_same), SqT.of upd_same, ?_, (fun z => nomatch z), (fun _ z => absurd z hne), (fun _ _ q4 n4 => ?_)⟩
                  · rw [List.length_drop]
                    exact Nat.le_trans (show _ ≤ 200000 by simp; omega) (by decide)
                  · have S4 := S3.trans (same_upd (o := .tup ([.str g] ++ us.drop (us.length - as.length))) n4)
                    refine ⟨dl, us, rfl, SqL.of (S4 _ _ ed3), fun q5 n5 => ?_⟩
                    rw [cut_first us _ hpos (by omega)]
                    have S5 := S4.trans (same_upd (o := .lst (us.take (us.length - as.length))) n5)
                    have e5 := (same_upd (o := .lst (us.take (us.length - as.length))) n5) _ _ (upd_same (H := _) (a := q4) (o := .tup ([.str g] ++ us.drop (us.length - as.length))))
                    refine ⟨tyL upd_same, appR upd_same ?_ ?_⟩
                    · rw [List.length_take]
                      exact Nat.lt_of_le_of_lt (show _ ≤ 200000 by omega) (by decide)
                    · have T5 := Tk.of S5
                      have n5H : H q5 = none := (s3.trans S4).free n5
                      have n5p : q5 ≠ p := (ne_of_none (S4 _ _ ep3) n5).symm
                      generalize hH5 : upd (upd (upd (upd (upd H3 q1 (.tup [.str g])) q2 (.lst (us.drop (us.length - as.length)))) q3 (.tup (us.drop (us.length - as.length)))) q4 (.tup ([.str g] ++ us.drop (us.length - as.length)))) q5 (.lst (us.take (us.length - as.length))) = H5 at *
                      have e5q : H5 q5 = some (.lst (us.take (us.length - as.length))) := by rw [← hH5]; exact upd_same
                      have T6 : Tk H5 (upd H5 q5 (.lst (us.take (us.length - as.length) ++ [.ref q4]))) := Tk.upd fun u e => by rw [e5q] at e; cases e; exact fun f => f
                      have du5 : Dens K _ us dn := DpAll.tk (T5.trans T6) _ _ (noLs_toDs dn) du3
                      have hdt : Dens K (upd H5 q5 (.lst (us.take (us.length - as.length) ++ [.ref q4]))) (us.take (us.length - as.length)) (dn.take (dn.length - as.length)) := by
                        rw [← hl1]
                        show DpAll K _ _ (toDs _)
                        rw [toDs_take]
                        exact DpAll.take _ du5
                      have hdd : Dens K (upd H5 q5 (.lst (us.take (us.length - as.length) ++ [.ref q4]))) (us.drop (us.length - as.length)) (dn.drop (dn.length - as.length)) := by
                        rw [← hl1]
                        show DpAll K _ _ (toDs _)
                        rw [toDs_drop]
                        exact DpAll.drop _ du5
                      refine ⟨wt its, by omega, q5, _, ws, dn.take (dn.length - as.length) ++ [.cmp g (dn.drop (dn.length - as.length))], its, _, _, _, _, _, rfl, Same.mut (s3.trans S5) n5H, n5H, n5p, upd_same, ?_, dens_app hdt (.cons (mk_cmp (SqT.of (T6 _ _ trivial e5)) hdd) .nil), DpAll.tk (T5.trans T6) _ _ (noLs_its its) dq3, hws', ?_, rfl, he⟩
                      · rw [upd_ne n5p.symm]
                        exact S5 _ _ ep3
                      · rw [List.length_append, List.length_take, List.length_singleton]
                        omega
                · rw [if_neg hle] at he
                  cases he
              | _ => cases he
            | false =>
              refine ⟨false, rfl, iteF ⟨_, _, rfl, h1, _, rfl, ?_⟩⟩
              have hwt : wt [(t0, false)] = 2 * (parts t0).length := rfl
              rw [hwt] at hlen ⊢
              have hp0 := parts_pos t0
              rw [isComp_toD hw0]
              have hfin : fin f its.reverse (dn ++ [subst f t0]) = some [subst f t] := he
              have fin1 : ∀ u, Den K H3 u (subst f t0) → ∀ z, z = [some v, some (V.ref d), some (V.ref dl), some (V.ref p), some v1, some (V.bl false), z6, z7, z8] → rAppend (.ref dl) [u] H3 fun _ H1 => ∃ m', m' < wt its + 2 * (parts t0).length ∧ ∃ (dl : Addr) (us ws : List V) (dn : List Tm) (its : List (Tm × Bool)) (z4 z5 z6 z7 z8 : Option V), z = [some v, some (.ref d), some (.ref dl), some (.ref p), z4, z5, z6, z7, z8] ∧ Same H H1 ∧ H dl = none ∧ dl ≠ p ∧ H1 dl = some (.lst us) ∧ H1 p = some (.lst ws) ∧
                  Dens K H1 us dn ∧ DpAll K H1 ws (its.map itD) ∧ (∀ x ∈ its, wf x.1) ∧ dn.length + wt its ≤ 100000 ∧ m' = wt its ∧ fin f its.reverse dn = some [subst f t] := fun u hu z hz => by
                subst hz
                have T6 : Tk H3 (upd H3 dl (.lst (us ++ [u]))) := Tk.upd fun u e => by rw [ed3] at e; cases e; exact fun f => f
                refine appR ed3 (Nat.lt_of_le_of_lt (show us.length ≤ 200000 by omega) (by decide)) ⟨wt its, by omega, dl, _, ws, dn ++ [subst f t0], its, _, _, _, _, _, rfl, Same.mut s3 nd, nd, ndp, upd_same, ?_, dens_app (DpAll.tk T6 _ _ (noLs_toDs dn) du3) (.cons (Dp.tk T6 _ _ (noL_toD _) hu) .nil), DpAll.tk T6 _ _ (noLs_its its) dq3, hws', ?_, rfl, hfin⟩
                · rw [upd_ne ndp.symm]
                  exact ep3
                · rw [List.length_append, List.length_singleton]
                  omega
              cases t0 with
              | cmp g as =>
                obtain ⟨a, xs, rfl, hs, hxs⟩ := den_cmp h1
                refine iteT ⟨tyL ep3, (by show 2 ≤ sizeLine; decide), fun q1 n1 => appR ((same_upd n1) _ _ ep3) ?_ ?_⟩
                · exact Nat.lt_of_le_of_lt (show ws.length ≤ 200000 by omega) (by decide)
                · have hlx := dens_len hxs
                  have hla : as.length ≤ 8 := hw0.2.2.1
                  have T5 : Tk H3 (upd (upd H3 q1 (.tup [.ref a, .bl true])) p (.lst (ws ++ [.ref q1]))) := (Tk.of (same_upd n1)).trans (Tk.upd fun u e => by rw [(same_upd n1) _ _ ep3] at e; cases e; exact fun f => f)
                  have S5 : Same H (upd (upd H3 q1 (.tup [.ref a, .bl true])) p (.lst (ws ++ [.ref q1]))) := Same.mut (s3.trans (same_upd n1)) npH
                  have e5 : upd (upd H3 q1 (.tup [.ref a, .bl true])) p (.lst (ws ++ [.ref q1])) p = some (.lst (ws ++ [.ref q1])) := upd_same
                  have d5 : upd (upd H3 q1 (.tup [.ref a, .bl true])) p (.lst (ws ++ [.ref q1])) dl = some (.lst us) := by rw [upd_ne ndp, (same_upd n1) _ _ ed3]
                  have q5 : SqT K (upd (upd H3 q1 (.tup [.ref a, .bl true])) p (.lst (ws ++ [.ref q1]))) q1 [.ref a, .bl true] := SqT.of (by rw [upd_ne (ne_of_none ep3 n1).symm]; exact upd_same)
                  generalize upd (upd H3 q1 (.tup [.ref a, .bl true])) p (.lst (ws ++ [.ref q1])) = H5 at T5 S5 e5 d5 q5 ⊢
                  refine ⟨tyL e5, tlc_of ⟨_, rfl, a, _, _, rfl, T5.sqT hs, fun q2 n2 => ⟨q2, rfl, ⟨_, SqT.of upd_same⟩, lc_tup (K := K) (xs := xs.reverse) (R := fun j y H6 => ∃ x q, xs.reverse[j]? = some x ∧ y = .ref q ∧ SqT K H6 q [x, .bl false]) (SqT.of upd_same) ?_ ?_ ?_ ?_⟩⟩⟩
                  · rw [List.length_reverse]
                    exact Nat.le_trans (show _ ≤ 100 by omega) (by decide)
                  · rintro j y H6 H7 tk ⟨x, qq, h5, h6, h7⟩
                    exact ⟨x, qq, h5, h6, tk.sqT h7⟩
                  · intro j x H6 k hx s6 kk
                    exact ⟨_, rfl, (by show 2 ≤ sizeLine; decide), fun q3 n3 => kk _ _ (same_upd n3) ⟨x, q3, hx, rfl, SqT.of upd_same⟩⟩
                  · intro D H6 ys nD s6 eD ly r
                    rw [List.length_reverse] at ly
                    have s56 : Same H5 H6 := (same_upd n2).trans s6
                    have e6 := s56 _ _ e5
                    refine extL e6 eD ?_ ?_
                    · rw [List.length_append, List.length_singleton]
                      exact Nat.le_trans (show _ ≤ 200000 by omega) (by decide)
                    · have T6 : Tk H6 (upd H6 p (.lst (ws ++ [.ref q1] ++ ys))) := Tk.upd fun u e => by rw [e6] at e; cases e; exact fun f => f
                      have T36 : Tk H3 (upd H6 p (.lst (ws ++ [.ref q1] ++ ys))) := (T5.trans (Tk.of s56)).trans T6
                      have dy : DpAll K (upd H6 p (.lst (ws ++ [.ref q1] ++ ys))) ys ((as.reverse.map (·, false)).map itD) := dpAll_of (by rw [List.length_map, List.length_map, List.length_reverse]; omega) fun j y hy => by
                        obtain ⟨x, qq, h5, rfl, h7⟩ := r j y hy
                        obtain ⟨tt, h8, h9⟩ := dens_get (dens_rev hxs) h5
                        exact ⟨itD (tt, false), by rw [List.getElem?_map, List.getElem?_map, h8]; rfl, .tup (T6.sqT h7) (.cons (Dp.tk T36 _ _ (noL_toD _) h9) (.cons (.bl false) .nil))⟩
                      have dc : Dp K (upd H6 p (.lst (ws ++ [.ref q1] ++ ys))) (.ref q1) (itD (.cmp g as, true)) := .tup (((Tk.of s56).trans T6).sqT q5) (.cons (Dp.tk T36 _ _ (noL_toD (.cmp g as)) h1) (.cons (.bl true) .nil))
                      refine ⟨_, ?_, dl, us, ws ++ [.ref q1] ++ ys, dn, its ++ [(.cmp g as, true)] ++ as.reverse.map (·, false), _, _, _, _, _, rfl, Same.mut (S5.trans s56) npH, nd, ndp, ?_, upd_same, DpAll.tk T36 _ _ (noLs_toDs dn) du3, ?_, ?_, ?_, rfl, ?_⟩
                      · rw [wt_append, wt_append, List.map_reverse, wt_reverse, wt_args]
                        simp only [wt, parts, List.length_cons]
                        omega
                      · rw [upd_ne ndp]
                        exact s56 _ _ d5
                      · rw [List.map_append, List.map_append]
                        exact DpAll.append (DpAll.append (DpAll.tk T36 _ _ (noLs_its its) dq3) (.cons dc .nil)) dy
                      · intro x hx
                        rcases List.mem_append.mp hx with hx | hx
                        · rcases List.mem_append.mp hx with hx | hx
                          · exact hws' x hx
                          · simp at hx
                            subst hx
                            exact hw0
                        · obtain ⟨y, hy, rfl⟩ := List.mem_map.mp hx
                          obtain ⟨i, hi⟩ := List.getElem?_of_mem hy
                          exact wfs_get (wfs_reverse hw0.2.2.2) hi
                      · rw [wt_append, wt_append, List.map_reverse, wt_reverse, wt_args]
                        simp only [wt, parts, List.length_cons] at hlen ⊢
                        omega
                      · rw [List.reverse_append, List.reverse_append, List.map_reverse, List.reverse_reverse]
                        show fin f (as.map (·, false) ++ (.cmp g as, true) :: its.reverse) dn = _
                        rw [fin_cmp]
                        exact he
              | var k =>
                obtain ⟨a, rfl, hs⟩ := den_var h1
                refine iteF ⟨tyL ed3, _, _, rfl, h1, _, rfl, ?_⟩
                rw [isVar_toD hw0]
                have ek : H3 d = some (.dK kvs) := s3 _ _ hk
                refine iteT ⟨.inl ⟨kvs, .inl ek⟩, ixT0 hs ⟨_, DGet.k (k := Sum.inl (k : Int)) ek, fin1 _ ?_ _ rfl⟩⟩
                rcases hf k with ⟨h5, h6⟩ | ⟨tt, u, h5, h6, h7⟩
                · rw [h6]
                  simp only [subst, h5, Option.getD_none]
                  exact h1
                · rw [h6]
                  simp only [subst, h5, Option.getD_some]
                  exact Dp.same s3 _ _ h7
              | num i => exact iteF ⟨tyL ed3, _, _, rfl, h1, _, rfl, iteF (fin1 _ h1 _ rfl)⟩
              | atm x => exact iteF ⟨tyL ed3, _, _, rfl, h1, _, rfl, iteF (fin1 _ h1 _ rfl)⟩
end
end K1

namespace K1
open PySem PySem.Spec PyProof.Rows L2 HM
local macro_rules | `(tactic| walk_at "rd") => `(tactic| (dsimp only [tSeq, tNext, tRet, tRetN, tAsg, gName, gTup, gCons, gNil, gSub, tDrop, tIfS, tVar, tC, tOp, tUn, tTest, tB, tAnd, tOr, tNot, tAndV, tOrV, tNotV, tIf, tCB, tCons, tNil, tTup, tLst, tCall, tPar, tPar3, tAug, tSl, tPart, tNoPart, tBM, tBM0, tRevT, tRevL, tChain, sDPut, tDGet, tDGet1, tDGet2, tDNewK, tDNewT, tDIn, tDNotIn, tYes, wipe, cxOf, Cx.nox, Cx.wish, L2.start, rI0, rI, rU, ipI, List.length_cons, List.length_nil, List.map_cons, List.map_nil, List.replicate, List.cons_append, List.nil_append, List.append_nil, List.getElem?_cons_zero, List.getElem?_cons_succ, List.set_cons_zero, List.set_cons_succ, Nat.reduceAdd, Nat.reduceSub]; try simp only [List.map_cons, List.map_nil, List.append_nil, List.cons_append, List.nil_append, List.getElem?_cons_zero, List.getElem?_cons_succ, List.set_cons_zero, List.set_cons_succ, rIntI_eq, rIntB_eq, rAbs_eq, Option.some.injEq, V.int.injEq, V.bl.injEq, V.str.injEq, V.ref.injEq, exists_eq_left', exists_and_left, exists_eq', true_and, and_true, if_true, if_false, Bool.false_eq_true]))
local macro_rules | `(tactic| walk_at "r0") => `(tactic| (dsimp only [tSeq, tNext, tRet, tRetN, tAsg, gName, gTup, gCons, gNil, gSub, tDrop, tIfS, tVar, tC, tOp, tUn, tTest, tB, tAnd, tOr, tNot, tAndV, tOrV, tNotV, tIf, tCB, tCons, tNil, tCall, tPar, tPar3, tAug, tSl, tPart, tNoPart, tBM, tBM0, tRevT, tRevL, tChain, sDPut, tDGet, tDGet1, tDGet2, tDNewK, tDNewT, tDIn, tDNotIn, tYes, wipe, cxOf, Cx.nox, Cx.wish, L2.start, rI0, rI, rU, ipI, List.length_cons, List.length_nil, List.map_cons, List.map_nil, List.replicate, List.cons_append, List.nil_append, List.append_nil, List.getElem?_cons_zero, List.getElem?_cons_succ, List.set_cons_zero, List.set_cons_succ, Nat.reduceAdd, Nat.reduceSub]; try simp only [List.map_cons, List.map_nil, List.append_nil, List.cons_append, List.nil_append, List.getElem?_cons_zero, List.getElem?_cons_succ, List.set_cons_zero, List.set_cons_succ, rIntI_eq, rIntB_eq, rAbs_eq, Option.some.injEq, V.int.injEq, V.bl.injEq, V.str.injEq, V.ref.injEq, exists_eq_left', exists_and_left, exists_eq', true_and, and_true, if_true, if_false, Bool.false_eq_true]))
local macro_rules | `(tactic| walk_at "evd") => `(tactic| repeat (first | exact evds_nil | exact evd_int | exact evd_str | exact evd_bl | exact evd_non | exact evd_neg | apply evds_cons | apply evd_tup | apply evd_lst | (simp only [List.length_cons, List.length_nil]; omega)))
/-- the numbering of some numbers from one on -/
def rn (ks : List Nat) (first : Nat) (k : Nat) : Option Tm := if k ∈ ks then some (.var (first + ks.idxOf k)) else none
theorem addN_nodup {ks : List Nat} {k : Nat} (h : ks.Nodup) : (addN ks k).Nodup := by
  unfold addN
  split
  · exact h
  · rename_i hk
    rw [List.nodup_append]
    refine ⟨h, by simp, fun a ha b hb => ?_⟩
    simp at hb
    subst hb
    exact fun z => hk (z ▸ ha)
theorem addV_nodup {ks : List Nat} (t : Tm) (h : ks.Nodup) : (addV ks t).Nodup := by
  cases t <;> simp only [addV] <;> first | exact addN_nodup h | exact h
theorem foldl_nodup : ∀ (ps : List Tm) {ks : List Nat}, ks.Nodup → (ps.foldl addV ks).Nodup
  | [], _, h => h
  | t :: ps, _, h => foldl_nodup ps (addV_nodup t h)
theorem vars_nodup (ps : List Tm) : (vars ps).Nodup := foldl_nodup ps (by simp)
theorem rn_snoc {ks : List Nat} {k first : Nat} (hk : k ∉ ks) (j : Nat) : rn (ks ++ [k]) first j = if j = k then some (.var (first + ks.length)) else rn ks first j := by
  unfold rn
  by_cases h : j = k
  · subst h
    simp [List.idxOf_append, hk]
  · rw [if_neg h]
    by_cases h2 : j ∈ ks
    · simp [h2, List.idxOf_append]
    · simp [h2, h]
section
variable {P : Program} {w : World} {K : PySem.W.Frag} {mg : Str → Option Value} {base : Heap}
def sp_renumbering (K : PySem.W.Frag) : Sp := fun vs H Q _ => ∃ (a : Addr) (us : List V) (ts : List Tm) (first : Nat), vs = [.ref a, .int first] ∧ SqL K H a us ∧ Dens K H us ts ∧ wfs ts ∧ (partsL ts).length ≤ 50000 ∧ ∀ H' p kvs, Same H H' → H p = none → H' p = some (.dK kvs) → TabOk K H' kvs (rn (vars (partsL ts)) first) → Q (.ref p) H'
theorem ok_renumbering (B : Bf K mg) (G : GdD K mg "renumbering" s_renumbering [.int 0]) (O_numbers_in : Okf P w K mg base "numbers_in" 3 ["terms"] [] (sp_numbers_in K)) : Okf P w K mg base "renumbering" 4 ["terms", "first"] [.int 0] (sp_renumbering K) := by
  refine okfD_mk 1 0 G sc_renumbering (by simp) rfl (fun T kV doc pm an cdv ct us its hu hi => ?_) (fun vs H Q E h => ?_) (fun cdv A outer s H vs Q E hr h => ?_)
  · match us, its, hu, hi with
    | [u], [i], _, _ => exact ⟨_, rfl, rfl⟩
  · obtain ⟨a, us, ts, first, rfl, _⟩ := h
    rfl
  · obtain ⟨a, us, ts, first, rfl, hs, du, hws, hz, q⟩ := h
    refine ⟨_, (pss_cons (ps_set (i := 2) sc_renumbering.nd rfl (Or.inl rfl) pe_dnewK)
      (pss_cons (ps_for PassesOwn.never rfl (pi_enum (by rfl) B.b_enumerate (pa_cons (pe_callO O_numbers_in (hr.mono (by decide)) (by rfl) (pa_cons (pv 0) pa_nil)) pa_nil)) (pg_tup rfl (pgs_cons (pg_name (i := 3) sc_renumbering.nd rfl (Or.inl rfl)) (pgs_cons (pg_name (i := 4) sc_renumbering.nd rfl (Or.inl rfl)) pgs_nil)))
      (pss_one (ps_dput (hu_of hr) (pv 2) (pv 4) (pe_tup (pa_cons (pe_op op_add (pv 1) (pv 3)) pa_nil)) rfl)))
      (pss_one (ps_ret (pv 2))))), ?_⟩
    walk_at "rd"
    intro p np
    refine tfor_of ⟨_, rfl, a, us, ts, rfl, (same_upd np).seq hs, DpAll.same (same_upd np) _ _ du, hws, hz, fun H1 pl s1 n1 e1 => ⟨pl, _, rfl, SqL.of e1, ?_⟩⟩
    have s2 := (same_upd (o := .dK []) np).trans s1
    have ep : H1 p = some (.dK []) := s1 _ _ upd_same
    have hnd := vars_nodup (partsL ts)
    have hvl : (vars (partsL ts)).length ≤ 50000 := by
      have := foldl_addV_len (partsL ts) []
      simp only [List.length_nil, Nat.zero_add] at this
      unfold vars
      omega
    generalize vars (partsL ts) = ks at *
    have npl : pl ≠ p := (ne_of_none upd_same n1).symm
    refine for_e (xs := nV ks) (fun i σ H3 => ∃ kvs z3 z4, σ = [some (.ref a), some (.int first), some (.ref p), z3, z4] ∧ Same H H3 ∧ H3 pl = some (.lst (nV ks)) ∧ H3 p = some (.dK kvs) ∧ kvs.length ≤ i ∧ TabOk K H3 kvs (rn (ks.take i) first))
      ⟨[], none, none, rfl, s2, e1, ep, Nat.le_refl _, fun k => .inl ⟨by simp [rn], rfl⟩⟩ (fun i σ H3 _ ⟨_, _, _, _, _, e3, _⟩ => SqL.of e3) ?_ ?_
    · rintro i x σ H3 T hx ⟨kvs, z3, z4, rfl, s3, e3, ep3, hkl, tab⟩ nT
      have hi : i < ks.length := by
        have := (List.getElem?_eq_some_iff.mp hx).1
        simpa [nV] using this
      have hx2 : x = .int ((ks[i] : Nat) : Int) := by
        have : (nV ks)[i]? = some (.int ((ks[i] : Nat) : Int)) := by simp [nV, hi]
        rw [this] at hx
        exact (Option.some.inj hx).symm
      subst hx2
      walk_at "rd"
      refine ⟨_, SqT.of upd_same, rfl, _, _, rfl, _, _, rfl, rfl, ?_⟩
      refine ⟨_, rfl, (by show 1 ≤ sizeLine; decide), fun q1 n1 => ?_⟩
      have S1 := (same_upd (o := .tup [.int (i : Nat), .int ((ks[i] : Nat) : Int)]) nT).trans (same_upd (o := .tup [.int ((first : Int) + (i : Nat))]) n1)
      have e4 : upd (upd H3 T (.tup [.int (i : Nat), .int ((ks[i] : Nat) : Int)])) q1 (.tup [.int ((first : Int) + (i : Nat))]) q1 = some (.tup [.int ((first : Int) + (i : Nat))]) := upd_same
      generalize upd (upd H3 T (.tup [.int (i : Nat), .int ((ks[i] : Nat) : Int)])) q1 (.tup [.int ((first : Int) + (i : Nat))]) = H4 at S1 e4 ⊢
      have ep4 := S1 _ _ ep3
      refine ⟨_, DPut.k (k := Sum.inl ((ks[i] : Nat) : Int)) ep4 (Nat.lt_of_le_of_lt (show kvs.length ≤ 50000 by omega) (by decide)), ?_⟩
      have T5 : Tk H4 (upd H4 p (.dK (putK kvs (Sum.inl ((ks[i] : Nat) : Int)) (.ref q1)))) := Tk.upd fun u e => by rw [ep4] at e; cases e; exact fun f => f
      refine ⟨_, _, _, rfl, Same.mut (s3.trans S1) np, ?_, upd_same, ?_, fun k => ?_⟩
      · rw [upd_ne npl]
        exact S1 _ _ e3
      · have := length_putK kvs (Sum.inl ((ks[i] : Nat) : Int) : Key) (.ref q1)
        omega
      · have htk : ks.take (i + 1) = ks.take i ++ [ks[i]] := take_succ (List.getElem?_eq_getElem hi)
        have hni : ks[i] ∉ ks.take i := fun hm => by
          obtain ⟨j, hj, e⟩ := List.mem_take_iff_getElem.mp hm
          have := (List.getElem_inj hnd).mp e
          omega
        rw [htk, rn_snoc hni, valV_put]
        by_cases hk : k = ks[i]
        · refine .inr ⟨_, _, if_pos hk, if_pos (by rw [hk]), ?_⟩
          refine mk_var (SqT.of (T5 _ _ trivial ?_))
          rw [e4]
          have hl : (ks.take i).length = i := by rw [List.length_take]; omega
          rw [hl]
          simp
        · rw [if_neg hk, if_neg (fun z => hk (by have := Sum.inl.inj z; omega))]
          exact (tab.tk ((Tk.of S1).trans T5)) k
    · rintro σ H3 ⟨kvs, z3, z4, rfl, s3, e3, ep3, hkl, tab⟩
      rw [show (nV ks).length = ks.length by simp [nV], List.take_length] at tab
      walk_at "rd"
      exact q H3 p kvs s3 np ep3 tab
def sp_renumbered (K : PySem.W.Frag) : Sp := fun vs H Q _ => ∃ v t, vs = [v] ∧ Den K H v t ∧ wf t ∧ (parts t).length ≤ 50000 ∧ ∀ H' u, Same H H' → Den K H' u (subst (rn (vars (parts t)) 0) t) → Q u H'
theorem ok_renumbered (B : Bf K mg) (G : Gd K mg "renumbered" s_renumbered) (O_check_terms : Okf P w K mg base "check_terms" 4 ["things"] [] (sp_check_terms K)) (O_replaced : Okf P w K mg base "replaced" 3 ["term", "table"] [] (sp_replaced K)) (O_renumbering : Okf P w K mg base "renumbering" 4 ["terms", "first"] [.int 0] (sp_renumbering K)) : Okf P w K mg base "renumbered" 5 ["term"] [] (sp_renumbered K) := by
  refine okf_mk G sc_renumbered (fun _ _ _ _ _ _ us hl => match us, hl with | [_], _ => rfl) (fun vs H Q E h => ?_) (fun cdv A outer s H vs Q E hr h => ?_)
  · obtain ⟨v, t, rfl, _⟩ := h
    rfl
  · obtain ⟨v, t, rfl, hd, hw, hz, q⟩ := h
    refine ⟨_, (pss_cons (ps_expr (pe_callO O_check_terms (hr.mono (by decide)) (by rfl) (pa_cons (pe_lst (pa_cons (pv 0) pa_nil)) pa_nil)))
      (pss_one (ps_ret (pe_callO O_replaced (hr.mono (by decide)) (by rfl) (pa_cons (pv 0) (pa_cons (pe_callO O_renumbering (hr.mono (by decide)) (by rfl) (pa_cons (pe_lst (pa_cons (pv 0) pa_nil)) pa_nil)) pa_nil)))))), ?_⟩
    walk_at "rd"
    refine ⟨(by show 1 ≤ sizeLine; decide), fun p np => chk1 hd hw hz np fun H1 s1 => ⟨(by show 1 ≤ sizeLine; decide), fun p2 n2 => ?_⟩⟩
    have s2 := s1.trans (same_upd (o := .lst [v]) n2)
    refine ⟨p2, [v], [t], 0, rfl, SqL.of upd_same, .cons (Dp.same s2 _ _ hd) .nil, ⟨hw, trivial⟩, by simpa [partsL] using hz, fun H3 p3 kvs s3 n3 e3 tab => ?_⟩
    have s4 := s2.trans s3
    simp only [partsL, List.append_nil] at tab
    exact ⟨v, t, p3, kvs, _, rfl, Dp.same s4 _ _ hd, hw, hz, e3, tab, fun H5 u s5 d5 => q H5 u (s4.trans s5) d5⟩
end
end K1

namespace K1
open PySem PySem.Spec PyProof.Rows L2 HM
local macro_rules | `(tactic| walk_at "rd") => `(tactic| (dsimp only [tSeq, tNext, tRet, tRetN, tAsg, gName, gTup, gCons, gNil, gSub, tDrop, tIfS, tVar, tC, tOp, tUn, tTest, tB, tAnd, tOr, tNot, tAndV, tOrV, tNotV, tIf, tCB, tCons, tNil, tTup, tLst, tCall, tPar, tPar3, tAug, tSl, tPart, tNoPart, tBM, tBM0, tRevT, tRevL, tChain, sDPut, tDGet, tDGet1, tDGet2, tDNewK, tDNewT, tDIn, tDNotIn, tYes, wipe, cxOf, Cx.nox, Cx.wish, L2.start, rI0, rI, rU, ipI, List.length_cons, List.length_nil, List.map_cons, List.map_nil, List.replicate, List.cons_append, List.nil_append, List.append_nil, List.getElem?_cons_zero, List.getElem?_cons_succ, List.set_cons_zero, List.set_cons_succ, Nat.reduceAdd, Nat.reduceSub]; try simp only [List.map_cons, List.map_nil, List.append_nil, List.cons_append, List.nil_append, List.getElem?_cons_zero, List.getElem?_cons_succ, List.set_cons_zero, List.set_cons_succ, rIntI_eq, rIntB_eq, rAbs_eq, Option.some.injEq, V.int.injEq, V.bl.injEq, V.str.injEq, V.ref.injEq, exists_eq_left', exists_and_left, exists_eq', true_and, and_true, if_true, if_false, Bool.false_eq_true]))
local macro_rules | `(tactic| walk_at "r0") => `(tactic| (dsimp only [tSeq, tNext, tRet, tRetN, tAsg, gName, gTup, gCons, gNil, gSub, tDrop, tIfS, tVar, tC, tOp, tUn, tTest, tB, tAnd, tOr, tNot, tAndV, tOrV, tNotV, tIf, tCB, tCons, tNil, tCall, tPar, tPar3, tAug, tSl, tPart, tNoPart, tBM, tBM0, tRevT, tRevL, tChain, sDPut, tDGet, tDGet1, tDGet2, tDNewK, tDNewT, tDIn, tDNotIn, tYes, wipe, cxOf, Cx.nox, Cx.wish, L2.start, rI0, rI, rU, ipI, List.length_cons, List.length_nil, List.map_cons, List.map_nil, List.replicate, List.cons_append, List.nil_append, List.append_nil, List.getElem?_cons_zero, List.getElem?_cons_succ, List.set_cons_zero, List.set_cons_succ, Nat.reduceAdd, Nat.reduceSub]; try simp only [List.map_cons, List.map_nil, List.append_nil, List.cons_append, List.nil_append, List.getElem?_cons_zero, List.getElem?_cons_succ, List.set_cons_zero, List.set_cons_succ, rIntI_eq, rIntB_eq, rAbs_eq, Option.some.injEq, V.int.injEq, V.bl.injEq, V.str.injEq, V.ref.injEq, exists_eq_left', exists_and_left, exists_eq', true_and, and_true, if_true, if_false, Bool.false_eq_true]))
local macro_rules | `(tactic| walk_at "evd") => `(tactic| repeat (first | exact evds_nil | exact evd_int | exact evd_str | exact evd_bl | exact evd_non | exact evd_neg | apply evds_cons | apply evd_tup | apply evd_lst | (simp only [List.length_cons, List.length_nil]; omega)))
def Well (H : Hp) (w : Addr) : Prop := ∃ x y z : Int, H w = some (.lst [.int x, .int y, .int z])
abbrev Mw (w : Addr) : Addr → Prop := fun b => b = w
theorem Well.same {H H' : Hp} {w : Addr} (h : Well H w) (s : Same H H') : Well H' w := by
  obtain ⟨x, y, z, e⟩ := h
  exact ⟨x, y, z, s _ _ e⟩
theorem Well.upd {H : Hp} {w p : Addr} {o : HO} (h : Well H w) (n : H p = none) : Well (upd H p o) w := h.same (same_upd n)
theorem Well.tk {H H' : Hp} {w : Addr} (h : Well H w) (s : Sm (Mw w) H H') : Tk H H' := Tk.sm s fun b o m e => by
  obtain ⟨x, y, z, e2⟩ := h
  rw [show b = w from m, e2] at e
  cases e
  exact fun f => f
theorem Sm.new2 {M : Addr → Prop} {H H' : Hp} {D : Addr} {o : HO} (a : Sm M H H') (n : H' D = none) : Sm M H (upd H' D o) := fun b u nb e => by
  rw [upd_ne (ne_of_none (a b u nb e) n)]
  exact a b u nb e
theorem cmulB (b : Bool) (i : Int) : CMul i (if b = true then 1 else 0) := by cases b <;> exact .inr ⟨by decide, by decide⟩
theorem tg_big : (1000000000000 : Int) < tooGreat := by decide +kernel
section
variable {P : Program} {w : World} {K : PySem.W.Frag} {mg : Str → Option Value} {base : Heap}
def sp_cell_at (K : PySem.W.Frag) : Sp := fun vs H Q _ => ∃ (a : Addr) (ns : List Int) (k : Nat), vs = [.ref a, .int k] ∧ SqL K H a (ns.map V.int) ∧ ∀ i, Q (.int i) H
theorem ok_cell_at (B : Bf K mg) (G : Gd K mg "_law_cell_at" s__law_cell_at) : Okf P w K mg base "_law_cell_at" 1 ["_law_script", "_law_k"] [] (sp_cell_at K) := by
  refine okf_mk G sc__law_cell_at (fun _ _ _ _ _ _ us hl => match us, hl with | [_, _], _ => rfl) (fun vs H Q E h => ?_) (fun cdv A outer s H vs Q E hr h => ?_)
  · obtain ⟨a, ns, k, rfl, _⟩ := h
    rfl
  · obtain ⟨a, ns, k, rfl, hs, q⟩ := h
    refine ⟨_, (pss_one (ps_ret (pe_ifExp (pt_cmpR op_lt (pv 1) (pe_callB call_lenQ (by rfl) B.b_len (by decide +kernel) (pa_cons (pv 0) pa_nil)) (nomark _)) (pe_ix (show IxR _ (rIxL K) from ix_list) (pv 0) (pv 1) (fun _ _ => rfl)) pe_int))), ?_⟩
    walk_at "rd"
    refine lenL hs ⟨_, rfl, ite2 (fun e => ?_) (fun e => q 0)⟩
    have e' : k < ns.length := by simpa using e
    exact ixLn (n := k) hs (by simp [e']; rfl) rfl (q _)
def sp_well (K : PySem.W.Frag) : Sp := fun vs H Q _ => ∃ i : Int, vs = [.int i] ∧ ∀ H' p, Same H H' → H p = none → Well H' p → Q (.ref p) H'
theorem ok_well (B : Bf K mg) (G : Gd K mg "_law_well" s__law_well) : Okf P w K mg base "_law_well" 1 ["_law_cell"] [] (sp_well K) := by
  refine okf_mk G sc__law_well (fun _ _ _ _ _ _ us hl => match us, hl with | [_], _ => rfl) (fun vs H Q E h => ?_) (fun cdv A outer s H vs Q E hr h => ?_)
  · obtain ⟨i, rfl, _⟩ := h
    rfl
  · obtain ⟨i, rfl, q⟩ := h
    refine ⟨_, (pss_cons (ps_set (i := 0) sc__law_well.nd rfl (Or.inl rfl) (pe_callB call_absQ (by rfl) B.b_abs (by decide +kernel) (pa_cons (pv 0) pa_nil)))
      (pss_one (ps_ret (pe_lst (pa_cons (pe_op op_mul (pv 0) (pe_callTy call_intB (by rfl) B.b_int (by decide +kernel) (pa_cons (pe_cmpR op_ge (pv 0) (pe_op op_pow pe_int pe_int) (nomark _)) pa_nil))) (pa_cons (pe_op op_add (pe_op op_mod (pe_callTy call_intI (by rfl) B.b_int (by decide +kernel) (pa_cons (pv 0) pa_nil)) pe_int) pe_int) (pa_cons pe_int pa_nil))))))), ?_⟩
    walk_at "rd"
    exact ⟨⟨by decide, by decide, by decide⟩, cmulB _ _, by decide, by decide, fun p np => q _ p (same_upd np) np ⟨_, _, _, upd_same⟩⟩
theorem set0 {H : Hp} {wl : Addr} {x y z v : V} {Q : Hp → Prop} (e : H wl = some (.lst [x, y, z])) (q : Q (upd H wl (.lst [v, y, z]))) : rSetL (.ref wl) (.int 0) v H Q := ⟨wl, _, 0, 0, rfl, rfl, e, rfl, q⟩
theorem set2 {H : Hp} {wl : Addr} {x y z v : V} {Q : Hp → Prop} (e : H wl = some (.lst [x, y, z])) (q : Q (upd H wl (.lst [x, y, v]))) : rSetL (.ref wl) (.int 2) v H Q := ⟨wl, _, 2, 2, rfl, rfl, e, rfl, q⟩
theorem cmulL {i j : Int} (h : 0 ≤ i) (h2 : i < 2147483647) : CMul i j := .inl ⟨by omega, by omega⟩
theorem cdiv {i j : Int} (h : 0 < j) (h2 : j < 1073741824) : CDiv i j := ⟨h, h2⟩
def sp_draw (K : PySem.W.Frag) : Sp := fun vs H Q _ => ∃ (wl : Addr) (n : Int), vs = [.ref wl, .int n] ∧ Well H wl ∧ 0 < n ∧ n < 1073741824 ∧ ∀ H' i, 0 ≤ i → i < n → Sm (Mw wl) H H' → Well H' wl → Q (.int i) H'
theorem ok_draw (B : Bf K mg) (G : Gd K mg "_law_draw" s__law_draw) : Okf P w K mg base "_law_draw" 1 ["_law_well_here", "_law_many"] [] (sp_draw K) := by
  refine okf_mk G sc__law_draw (fun _ _ _ _ _ _ us hl => match us, hl with | [_, _], _ => rfl) (fun vs H Q E h => ?_) (fun cdv A outer s H vs Q E hr h => ?_)
  · obtain ⟨a, n, rfl, _⟩ := h
    rfl
  · obtain ⟨wl, n, rfl, ⟨x, y, z, ew⟩, h0, h1, q⟩ := h
    refine ⟨_, (pss_cons (ps_if (pt_cmpR op_gt (pe_ix (show IxR _ (rIxL K) from ix_list) (pv 0) pe_int (fun _ _ => rfl)) pe_int (nomark _))
        (pss_cons (ps_set (i := 2) sc__law_draw.nd rfl (Or.inl rfl) (pe_op op_mod (pe_callTy call_intI (by rfl) B.b_int (by decide +kernel) (pa_cons (pe_ix (show IxR _ (rIxL K) from ix_list) (pv 0) pe_int (fun _ _ => rfl)) pa_nil)) (pv 1)))
      (pss_cons (ps_asg (pe_op op_fdiv (pe_ix (show IxR _ (rIxL K) from ix_list) (pv 0) pe_int (fun _ _ => rfl)) (pv 1)) (pg_sub (pv 0) pe_int set_list))
      (pss_one (ps_ret (pv 2)))))
        pss_nil)
      (pss_cons (ps_asg (pe_op op_add (pe_ix (show IxR _ (rIxL K) from ix_list) (pv 0) pe_int (fun _ _ => rfl)) pe_int) (pg_sub (pv 0) pe_int set_list))
      (pss_cons (ps_set (i := 3) sc__law_draw.nd rfl (Or.inl rfl) (pe_op op_mod (pe_callTy call_intI (by rfl) B.b_int (by decide +kernel) (pa_cons (pe_op op_mul (pe_op op_add (pe_ix (show IxR _ (rIxL K) from ix_list) (pv 0) pe_int (fun _ _ => rfl)) (pe_op op_mul pe_int (pe_ix (show IxR _ (rIxL K) from ix_list) (pv 0) pe_int (fun _ _ => rfl)))) pe_int) pa_nil)) pe_int))
      (pss_cons (ps_set (i := 3) sc__law_draw.nd rfl (Or.inl rfl) (pe_op op_mod (pe_callTy call_intI (by rfl) B.b_int (by decide +kernel) (pa_cons (pe_op op_mul (pv 3) (pe_op op_add (pe_op op_add (pe_op op_fdiv (pv 3) pe_int) pe_int) (pe_ix (show IxR _ (rIxL K) from ix_list) (pv 0) pe_int (fun _ _ => rfl)))) pa_nil)) pe_int))
      (pss_one (ps_ret (pe_op op_mod (pe_callTy call_intI (by rfl) B.b_int (by decide +kernel) (pa_cons (pe_op op_fdiv (pe_op op_mod (pe_callTy call_intI (by rfl) B.b_int (by decide +kernel) (pa_cons (pe_op op_mul (pv 3) (pe_op op_add (pe_op op_fdiv (pv 3) pe_int) pe_int)) pa_nil)) pe_int) pe_int) pa_nil)) (pv 1)))))))), ?_⟩
    walk_at "rd"
    refine ixL0 (SqL.of ew) ⟨_, rfl, ite2 (fun c => ?_) (fun c => ?_)⟩
    · refine ixL0 (SqL.of ew) ⟨_, rfl, _, rfl, h0, ixL0 (SqL.of ew) ⟨_, rfl, ⟨h0, h1⟩, set0 ew ?_⟩⟩
      exact q _ _ (Int.emod_nonneg _ (by omega)) (Int.emod_lt_of_pos _ h0) ((Sm.refl H).at rfl) ⟨_, _, _, upd_same⟩
    · refine ixL2 (SqL.of ew) ⟨_, rfl, set2 ew ?_⟩
      have e2 : upd H wl (.lst [.int x, .int y, .int (z + 1)]) wl = some (.lst [.int x, .int y, .int (z + 1)]) := upd_same
      refine ixL1 (SqL.of e2) (ixL2 (SqL.of e2) ⟨_, rfl, .inl ⟨by decide, by decide⟩, _, rfl, .inr ⟨by decide, by decide⟩, by decide, cdiv (by decide) (by decide), ixL2 (SqL.of e2) ⟨_, rfl, cmulL (Int.emod_nonneg _ (by decide)) (Int.emod_lt_of_pos _ (by decide)), by decide, cdiv (by decide) (by decide), ?_⟩⟩)
      refine ⟨cmulL (Int.emod_nonneg _ (by decide)) (Int.lt_trans (Int.emod_lt_of_pos _ (by decide)) (by decide)), by decide, cdiv (by decide) (by decide), h0, ?_⟩
      exact q _ _ (Int.emod_nonneg _ (by omega)) (Int.emod_lt_of_pos _ h0) ((Sm.refl H).at rfl) ⟨_, _, _, upd_same⟩
def sp_one (K : PySem.W.Frag) : Sp := fun vs H Q _ => ∃ (wl a : Addr) (xs : List V), vs = [.ref wl, .ref a] ∧ Well H wl ∧ SqL K H a xs ∧ a ≠ wl ∧ xs ≠ [] ∧ xs.length ≤ 100000 ∧ ∀ H' x, x ∈ xs → Sm (Mw wl) H H' → Well H' wl → Q x H'
theorem ok_one (B : Bf K mg) (G : Gd K mg "_law_one" s__law_one) (O__law_draw : Okf P w K mg base "_law_draw" 1 ["_law_well_here", "_law_many"] [] (sp_draw K)) : Okf P w K mg base "_law_one" 2 ["_law_well_here", "_law_some"] [] (sp_one K) := by
  refine okf_mk G sc__law_one (fun _ _ _ _ _ _ us hl => match us, hl with | [_, _], _ => rfl) (fun vs H Q E h => ?_) (fun cdv A outer s H vs Q E hr h => ?_)
  · obtain ⟨wl, a, xs, rfl, _⟩ := h
    rfl
  · obtain ⟨wl, a, xs, rfl, hw, hs, na, hne, hz, q⟩ := h
    refine ⟨_, (pss_one (ps_ret (pe_ix (show IxR _ (rIxL K) from ix_list) (pv 1) (pe_callO O__law_draw (hr.mono (by decide)) (by rfl) (pa_cons (pv 0) (pa_cons (pe_callB call_lenQ (by rfl) B.b_len (by decide +kernel) (pa_cons (pv 1) pa_nil)) pa_nil))) (fun _ _ => rfl)))), ?_⟩
    walk_at "rd"
    have hp : 0 < xs.length := List.length_pos_iff.mpr hne
    refine lenL hs ⟨wl, _, rfl, hw, by omega, by omega, fun H1 i h0 h1 s1 w1 => ?_⟩
    have hi : i.toNat < xs.length := by omega
    exact ixLn (n := i.toNat) (s1.sqL na hs) (List.getElem?_eq_getElem hi) (by omega) (q H1 _ (List.getElem_mem hi) s1 w1)
/-- some term, of at most n parts -/
def sp_leaf (K : PySem.W.Frag) : Sp := fun vs H Q _ => ∃ (wl : Addr) (n : Int), vs = [.ref wl, .int n] ∧ Well H wl ∧ 0 < n ∧ n < 1073741824 ∧ ∀ H' v t, wf t → (parts t).length = 1 → Den K H' v t → Sm (Mw wl) H H' → Well H' wl → Q v H'
theorem ok_leaf (B : Bf K mg) (G : Gd K mg "_law_leaf" s__law_leaf) (O__law_draw : Okf P w K mg base "_law_draw" 1 ["_law_well_here", "_law_many"] [] (sp_draw K)) (O__law_one : Okf P w K mg base "_law_one" 2 ["_law_well_here", "_law_some"] [] (sp_one K)) : Okf P w K mg base "_law_leaf" 3 ["_law_well_here", "_law_many"] [] (sp_leaf K) := by
  refine okf_mk G sc__law_leaf (fun _ _ _ _ _ _ us hl => match us, hl with | [_, _], _ => rfl) (fun vs H Q E h => ?_) (fun cdv A outer s H vs Q E hr h => ?_)
  · obtain ⟨wl, n, rfl, _⟩ := h
    rfl
  · obtain ⟨wl, n, rfl, hw, h0, h1, q⟩ := h
    refine ⟨_, (pss_cons (ps_set (i := 2) sc__law_leaf.nd rfl (Or.inl rfl) (pe_callO O__law_draw (hr.mono (by decide)) (by rfl) (pa_cons (pv 0) (pa_cons pe_int pa_nil))))
      (pss_cons (ps_if (PW.pt (pw_and (pt_cmpR op_lt (pv 2) pe_int (nomark _)) (pw_and1 (pt_cmpR op_gt (pv 1) pe_int (nomark _)))))
        (pss_one (ps_ret (pe_tup (pa_cons (pe_callO O__law_draw (hr.mono (by decide)) (by rfl) (pa_cons (pv 0) (pa_cons (pv 1) pa_nil))) pa_nil))))
        pss_nil)
      (pss_cons (ps_if (pt_cmpR op_eq (pv 2) pe_int (nomark _))
        (pss_cons (ps_set (i := 3) sc__law_leaf.nd rfl (Or.inl rfl) (pe_op op_sub (pe_op op_mulW (pe_op op_powW (pe_op op_pow pe_int pe_int) pe_int) (pe_op op_pow pe_int pe_int)) pe_int))
      (pss_one (ps_ret (pe_callO O__law_one (hr.mono (by decide)) (by rfl) (pa_cons (pv 0) (pa_cons (pe_lst (pa_cons pe_int (pa_cons pe_int (pa_cons pe_int (pa_cons (pe_un un_neg pe_int) (pa_cons (pv 3) (pa_cons (pe_op op_sub (pe_callO O__law_draw (hr.mono (by decide)) (by rfl) (pa_cons (pv 0) (pa_cons (pe_op op_pow pe_int pe_int) pa_nil))) (pe_op op_mul pe_int (pe_op op_pow pe_int pe_int))) pa_nil))))))) pa_nil))))))
        pss_nil)
      (pss_one (ps_ret (pe_callO O__law_one (hr.mono (by decide)) (by rfl) (pa_cons (pv 0) (pa_cons (pe_lst (pa_cons pe_str (pa_cons pe_str (pa_cons pe_str (pa_cons pe_str (pa_cons pe_str (pa_cons pe_str (pa_cons pe_str (pa_cons (pe_op op_mulS pe_str pe_int) pa_nil))))))))) pa_nil)))))))), ?_⟩
    walk_at "rd"
    refine ⟨wl, 7, rfl, hw, by decide, by decide, fun H1 i g0 g1 s1 w1 => ⟨_, rfl, ite2 (fun c => ?_) (fun c => eqI ⟨_, rfl, ite2 (fun c2 => ?_) (fun c2 => ?_)⟩)⟩⟩
    · rw [decide_eq_true h0]
      refine iteT ⟨wl, n, rfl, w1, h0, h1, fun H2 j k0 k1 s2 w2 => ⟨by decide, fun p np => q _ _ (.var j.toNat) trivial rfl (mk_var (SqT.of ?_)) (Sm.new2 (s1.trans s2) np) (w2.upd np)⟩⟩
      rw [upd_same, Int.toNat_of_nonneg k0]
    · refine ⟨⟨by decide, by decide, by decide⟩, ⟨by decide, by decide +kernel⟩, ⟨by decide, by decide, by decide⟩, (by unfold CMulW; decide +kernel), ⟨by decide, by decide, by decide⟩, ?_⟩
      refine ⟨wl, _, rfl, w1, by decide, by decide, fun H2 j k0 k1 s2 w2 => ⟨⟨by decide, by decide, by decide⟩, .inl ⟨by decide, by decide⟩, _, rfl, by decide, fun p np => ?_⟩⟩
      have wp : wl ≠ p := by obtain ⟨_, _, _, e⟩ := w2; exact ne_of_none e np
      refine ⟨wl, p, _, rfl, w2.upd np, SqL.of upd_same, wp.symm, by simp, by simp, fun H3 x hx s3 w3 => ?_⟩
      have sm : Sm (Mw wl) H H3 := (Sm.new2 (s1.trans s2) np).trans s3
      have num : ∀ z : Int, -tooGreat < z → z < tooGreat → Q (.int z) H3 := fun z a b => q H3 (.int z) (.num z) ⟨a, b⟩ rfl (.int z) sm w3
      have tb := tg_big
      have e9 : (10 : Int) ^ Int.toNat 9 = 1000000000 := by decide
      have e8 : (10 : Int) ^ Int.toNat 8 = 100000000 := by decide
      simp only [List.mem_cons, List.not_mem_nil, or_false] at hx
      rcases hx with rfl | rfl | rfl | rfl | rfl | rfl
      · exact num _ (by omega) (by omega)
      · exact num _ (by omega) (by omega)
      · exact num _ (by omega) (by omega)
      · exact num _ (by omega) (by omega)
      · exact num _ (by decide +kernel) (by decide +kernel)
      · rw [e8]
        rw [e9] at k1
        exact num _ (by omega) (by omega)
    · refine ⟨_, _, rfl, rfl, by decide, by decide, by decide, by decide, fun p np => ?_⟩
      have wp : wl ≠ p := by obtain ⟨_, _, _, e⟩ := w1; exact ne_of_none e np
      refine ⟨wl, p, _, rfl, w1.upd np, SqL.of upd_same, wp.symm, by simp, by simp, fun H3 x hx s3 w3 => ?_⟩
      have sm : Sm (Mw wl) H H3 := (Sm.new2 s1 np).trans s3
      have atm : ∀ z : Str, atomOk z = true → Q (.str z) H3 := fun z a => q H3 (.str z) (.atm z) a rfl (.str z) sm w3
      simp only [List.mem_cons, List.not_mem_nil, or_false] at hx
      rcases hx with rfl | rfl | rfl | rfl | rfl | rfl | rfl | rfl
      all_goals exact atm _ (by decide +kernel)
/-- a drawn term -/
def tsz : Nat → Nat
  | 0 => 1
  | 1 => 1
  | 2 => 9
  | n + 3 => 1 + 2 * tsz (n + 2)
theorem tsz_pos : ∀ n, 1 ≤ tsz n
  | 0 => Nat.le_refl _
  | 1 => Nat.le_refl _
  | 2 => by decide
  | n + 3 => by simp only [tsz]; omega
theorem depth_one {t : Tm} (h : (parts t).length = 1) : depth t = 1 := by
  cases t with
  | cmp f as =>
    simp only [parts, List.length_cons] at h
    have := partsL_len as
    cases as with
    | nil => rfl
    | cons a r => rw [List.length_cons] at this; omega
  | _ => rfl
theorem terms_of {K : PySem.W.Frag} {H : Hp} {C : Tm → Prop} : ∀ {ys : List V}, (∀ (j : Nat) y, ys[j]? = some y → ∃ t, C t ∧ Den K H y t) → ∃ ts, Dens K H ys ts ∧ ∀ t ∈ ts, C t
  | [], _ => ⟨[], .nil, fun t h => by cases h⟩
  | y :: ys, h => by
    obtain ⟨t, c, d⟩ := h 0 y rfl
    obtain ⟨ts, ds, cs⟩ := terms_of (ys := ys) fun j y hy => h (j + 1) y (by simpa using hy)
    refine ⟨t :: ts, .cons d ds, fun u hu => ?_⟩
    rcases List.mem_cons.mp hu with rfl | hu
    · exact c
    · exact cs u hu
theorem wfs_of : ∀ {ts : List Tm}, (∀ t ∈ ts, wf t) → wfs ts
  | [], _ => trivial
  | t :: ts, h => ⟨h t List.mem_cons_self, wfs_of fun u hu => h u (List.mem_cons_of_mem _ hu)⟩
theorem partsL_le {n : Nat} : ∀ {ts : List Tm}, (∀ t ∈ ts, (parts t).length ≤ n) → (partsL ts).length ≤ ts.length * n
  | [], _ => by simp [partsL]
  | t :: ts, h => by
    have h1 := h t List.mem_cons_self
    have h2 := partsL_le (ts := ts) fun u hu => h u (List.mem_cons_of_mem _ hu)
    simp only [partsL, List.length_append, List.length_cons, Nat.add_mul, Nat.one_mul]
    omega
theorem depthL_le {n : Nat} : ∀ {ts : List Tm}, (∀ t ∈ ts, depth t ≤ n) → depthL ts ≤ n
  | [], _ => by simp [depthL]
  | t :: ts, h => by
    have h1 := h t List.mem_cons_self
    have h2 := depthL_le (ts := ts) fun u hu => h u (List.mem_cons_of_mem _ hu)
    simp only [depthL]
    omega
def okFa (e : Nat) (d : PyData) : Prop := ∃ (f : Str) (a : Nat), d = .tuple [.str f, .int a] ∧ atomOk f = true ∧ 1 ≤ a ∧ a ≤ 8 ∧ (e ≠ 2 → a ≤ 2)
theorem okFa_mk {e : Nat} {f : Str} {a : Nat} {i : Int} (hi : i = (a : Int)) (hf : atomOk f = true) (h1 : 1 ≤ a) (h2 : a ≤ 8) (h3 : e = 2 ∨ a ≤ 2) : okFa e (.tuple [.str f, .int i]) := ⟨f, a, by rw [hi], hf, h1, h2, fun z => by rcases h3 with h | h; exact absurd h z; exact h⟩
def sp_term (K : PySem.W.Frag) (d : Nat) : Sp := fun vs H Q _ => ∃ (wl : Addr) (n : Int), 1 ≤ d ∧ vs = [.ref wl, .int d, .int n] ∧ Well H wl ∧ 0 < n ∧ n < 1073741824 ∧ ∀ H' v t, wf t → (parts t).length ≤ tsz d → depth t ≤ d → Den K H' v t → Sm (Mw wl) H H' → Well H' wl → Q v H'
theorem ok_term (B : Bf K mg) (G : Gd K mg "_law_term" s__law_term) (O__law_draw : Okf P w K mg base "_law_draw" 1 ["_law_well_here", "_law_many"] [] (sp_draw K)) (O__law_one : Okf P w K mg base "_law_one" 2 ["_law_well_here", "_law_some"] [] (sp_one K)) (O__law_leaf : Okf P w K mg base "_law_leaf" 3 ["_law_well_here", "_law_many"] [] (sp_leaf K)) :
    ∀ d, Okf P w K mg base "_law_term" (3 + d) ["_law_well_here", "_law_deep", "_law_many"] [] (sp_term K d) := by
  intro d
  induction d with
  | zero =>
    refine okf_mk G sc__law_term (fun _ _ _ _ _ _ us hl => match us, hl with | [_, _, _], _ => rfl) (fun vs H Q E h => ?_) (fun cdv A outer s H vs Q E hr h => ?_)
    · obtain ⟨wl, n, h, _⟩ := h
      omega
    · obtain ⟨wl, n, h, _⟩ := h
      omega
  | succ d O__law_term =>
    show Okf P w K mg base "_law_term" ((3 + d) + 1) _ _ _
    refine okf_mk G sc__law_term (fun _ _ _ _ _ _ us hl => match us, hl with | [_, _, _], _ => rfl) (fun vs H Q E h => ?_) (fun cdv A outer s H vs Q E hr h => ?_)
    · obtain ⟨wl, n, _, rfl, _⟩ := h
      rfl
    · obtain ⟨wl, n, _, rfl, hw, h0, h1, q⟩ := h
      have hrr := hr
      refine ⟨_, (pss_cons (ps_if (PW.pt (pw_or (pt_cmpR op_le (pv 1) pe_int (nomark _)) (pw_or1 (pt_cmpR op_eq (pe_callO O__law_draw (hr.mono (by omega)) (by rfl) (pa_cons (pv 0) (pa_cons pe_int pa_nil))) pe_int (nomark _)))))
        (pss_one (ps_ret (pe_callO O__law_leaf (hr.mono (by omega)) (by rfl) (pa_cons (pv 0) (pa_cons (pv 2) pa_nil)))))
        pss_nil)
      (pss_cons (ps_set (i := 3) sc__law_term.nd rfl (Or.inl rfl) (pe_lst (pa_cons (pe_tup (pa_cons pe_str (pa_cons pe_int pa_nil))) (pa_cons (pe_tup (pa_cons pe_str (pa_cons pe_int pa_nil))) (pa_cons (pe_tup (pa_cons pe_str (pa_cons pe_int pa_nil))) (pa_cons (pe_tup (pa_cons pe_str (pa_cons pe_int pa_nil))) (pa_cons (pe_tup (pa_cons pe_str (pa_cons pe_int pa_nil))) (pa_cons (pe_tup (pa_cons pe_str (pa_cons pe_int pa_nil))) pa_nil))))))))
      (pss_cons (ps_asg (pe_callO O__law_one (hr.mono (by omega)) (by rfl) (pa_cons (pv 0) (pa_cons (pe_op op_cat (pv 3) (pe_ifExp (pt_cmpR op_eq (pv 1) pe_int (nomark _)) (pe_lst (pa_cons (pe_tup (pa_cons pe_str (pa_cons pe_int pa_nil))) (pa_cons (pe_tup (pa_cons pe_str (pa_cons pe_int pa_nil))) pa_nil))) (pe_lst pa_nil))) pa_nil))) (pg_tup rfl (pgs_cons (pg_name (i := 4) sc__law_term.nd rfl (Or.inl rfl)) (pgs_cons (pg_name (i := 5) sc__law_term.nd rfl (Or.inl rfl)) pgs_nil))))
      (pss_one (ps_ret (pe_op op_catA (pe_tup (pa_cons (pv 4) pa_nil)) (pe_callTy call_tuple_of (by rfl) B.b_tuple (by decide +kernel) (pa_cons (pe_lc (own := [("_law_k", 6)]) (g := gName 6) (tt := tYes) rfl sc__law_term.nd (pi_range1 (by rfl) B.b_range (pa_cons (pv 5) pa_nil)) (blkOk_by (own := [("_law_k", 6)]) (N := ["_law_well_here", "_law_deep", "_law_many", "_law_some", "_law_name", "_law_arity", "_law_k"]) (sc := defScope s__law_term) (by decide +kernel)) (fun _ _ _ _ _ => (pg_name (i := 6) sc__law_term.nd rfl (Or.inl rfl))) (fun _ _ _ _ _ => pts_nil) (fun _ _ _ _ _ => (pe_callO O__law_term hrr (by rfl) (pa_cons (pv 0) (pa_cons (pe_op op_sub (pv 1) pe_int) (pa_cons (pv 2) pa_nil)))))) pa_nil)))))))), ?_⟩
      walk_at "r0"
      have leaf : ∀ H1, Sm (Mw wl) H H1 → Well H1 wl → sp_leaf K [.ref wl, .int n] H1 Q E0 := fun H1 s1 w1 => ⟨wl, n, rfl, w1, h0, h1, fun H2 v t ht hp dv s2 w2 => q H2 v t ht (by rw [hp]; exact tsz_pos _) (by rw [depth_one hp]; omega) dv (s1.trans s2) w2⟩
      refine ite2 (fun c => leaf H (Sm.refl H) hw) (fun c => ?_)
      refine ⟨wl, 4, rfl, hw, by decide, by decide, fun H1 i g0 g1 s1 w1 => eqI ⟨_, rfl, ite2 (fun c2 => leaf H1 s1 w1) (fun c2 => ?_)⟩⟩
      apply evl_use (K := K)
      · walk_at "evd"
      · simp
      intro p H2 vs s2 np e2 d2
      have hd2 : 2 ≤ d + 1 := by simp at c; omega
      have w2 := w1.same s2
      have wp : p ≠ wl := by obtain ⟨_, _, _, e⟩ := w1; exact (ne_of_none e np).symm
      have core : ∀ (H3 : Hp) (p3 : Addr) (us : List V) (es : List PyData), Same H2 H3 → p3 ≠ wl → H3 p3 = some (.lst us) → DpAll K H3 us es → es.length ≤ 2 → (∀ e ∈ es, okFa (d + 1) e) → rCat (V.ref p) (.ref p3) H3 fun x H1 =>
              sp_one K [V.ref wl, x] H1
                (fun x H1 =>
                  ∃ a,
                    x = V.ref a ∧
                      ∃ x,
                        SqT K H1 a x ∧
                          x.length = 2 ∧
                            ∃ v r,
                              x = v :: r ∧
                                ∃ v_1 r_1,
                                  r = v_1 :: r_1 ∧
                                    r_1 = [] ∧
                                      tTup (tCons (tVar 4) tNil)
                                        [some (V.ref wl), some (V.int ↑(d + 1)), some (V.int n), some (V.ref p), some v,
                                          some v_1, none]
                                        H1 fun x H1 =>
                                        tLc (iRng1 (tCons (tVar 5) tNil)) (gName 6) tYes
                                          (tCall (sp_term K d) [] E0
                                            (tCons (tVar 0)
                                              (tCons (tOp (rI0 fun i j => V.int (i - j)) (tVar 1) (tC (V.int 1)))
                                                (tCons (tVar 2) tNil))))
                                          [6]
                                          [some (V.ref wl), some (V.int ↑(d + 1)), some (V.int n), some (V.ref p),
                                            some v, some v_1, none]
                                          H1 fun x_1 H1 =>
                                          ∃ p,
                                            [x_1] = [V.ref p] ∧
                                              ∃ x_2,
                                                (SqL K H1 p x_2 ∧
                                                    ∀ (l : Addr),
                                                      H1 l = none → rCatA K x (V.ref l) (upd H1 l (HO.tup x_2)) Q) ∨
                                                  SqT K H1 p x_2 ∧ rCatA K x (V.ref p) H1 Q)
                E0 := by
        intro H3 p3 us es s3 wp3 e3 d3 hle hes
        have hl2 := DpAll.length d2
        have hl3 := DpAll.length d3
        simp only [List.length_cons, List.length_nil] at hl2
        refine ⟨p, p3, vs, us, rfl, rfl, s3 _ _ e2, e3, Nat.le_trans (show _ ≤ 100 by omega) (by decide), fun p4 n4 => ?_⟩
        have S24 := s3.trans (same_upd (o := .lst (vs ++ us)) n4)
        have w4 := w2.same S24
        have wp4 : p4 ≠ wl := by obtain ⟨_, _, _, e⟩ := w2.same s3; exact (ne_of_none e n4).symm
        refine ⟨wl, p4, _, rfl, w4, SqL.of upd_same, wp4, ?_, ?_, fun H5 x hx s5 w5 => ?_⟩
        · intro z
          have := congrArg List.length z
          rw [List.length_append, List.length_nil] at this
          omega
        · rw [List.length_append]; omega
        · have tk5 := w4.tk s5
          have hx2 : ∃ e, okFa (d + 1) e ∧ Dp K H5 x e := by
            rcases List.mem_append.mp hx with hx | hx
            · obtain ⟨e, he, hd⟩ := DpAll.mem d2 hx
              have oke : okFa (d + 1) e := by
                simp only [List.mem_cons, List.not_mem_nil, or_false] at he
                rcases he with rfl | rfl | rfl | rfl | rfl | rfl
                · exact okFa_mk (a := 1) rfl (by decide +kernel) (by decide) (by decide) (.inr (by decide))
                · exact okFa_mk (a := 2) rfl (by decide +kernel) (by decide) (by decide) (.inr (by decide))
                · exact okFa_mk (a := 2) rfl (by decide +kernel) (by decide) (by decide) (.inr (by decide))
                · exact okFa_mk (a := 2) rfl (by decide +kernel) (by decide) (by decide) (.inr (by decide))
                · exact okFa_mk (a := 1) rfl (by decide +kernel) (by decide) (by decide) (.inr (by decide))
                · exact okFa_mk (a := 2) rfl (by decide +kernel) (by decide) (by decide) (.inr (by decide))
              obtain ⟨f, a, rfl, h⟩ := id oke
              exact ⟨_, oke, Dp.tk tk5 _ _ rfl (Dp.same S24 _ _ hd)⟩
            · obtain ⟨e, he, hd⟩ := DpAll.mem d3 hx
              have oke := hes e he
              obtain ⟨f, a, rfl, h⟩ := id oke
              exact ⟨_, oke, Dp.tk tk5 _ _ rfl (Dp.same (same_upd n4) _ _ hd)⟩
          obtain ⟨e, ⟨f, a, rfl, hf, ha1, ha8, ha2⟩, hd⟩ := hx2
          have sm5 : Sm (Mw wl) H H5 := (s1.trans (Sm.of (s2.trans S24))).trans s5
          cases hd with
          | tup hs ha =>
            cases ha with
            | cons x1 x2 =>
              cases x2 with
              | cons x3 x4 =>
                cases x1
                cases x3
                cases x4
                refine ⟨_, rfl, _, hs, rfl, _, _, rfl, _, _, rfl, rfl, _, rfl, (by show 1 ≤ sizeLine; decide), fun p6 n6 => ?_⟩
                have sm6 := Sm.new2 (o := .tup [.str f]) sm5 n6
                have w6 := w5.upd (o := .tup [.str f]) n6
                refine tlc_of ⟨_, rfl, (a : Int), rfl, by omega, by omega, lc_rngM (M := Mw wl) (Z := fun H => Well H wl) (R := fun j y H => ∃ t, (wf t ∧ (parts t).length ≤ tsz d ∧ depth t ≤ d) ∧ Den K H y t) ?_ ?_ w6 ?_ ?_ ?_ ?_ ?_⟩
                · exact Nat.le_trans (show _ ≤ 100 by omega) (by decide)
                · intro b hb hn
                  obtain ⟨_, _, _, e⟩ := w6
                  rw [show b = wl from hb, e] at hn
                  cases hn
                · rintro D o HA hD ⟨xa, ya, za, hz⟩
                  obtain ⟨_, _, _, e⟩ := w6
                  exact ⟨xa, ya, za, by rw [upd_ne (ne_of_none e hD)]; exact hz⟩
                · rintro j y HA HB tk ⟨t, h, dt⟩
                  exact ⟨t, h, Dp.tk tk _ _ (noL_toD t) dt⟩
                · rintro HA b o ⟨_, _, _, e⟩ hb hE
                  rw [show b = wl from hb, e] at hE
                  cases hE
                  exact fun f => f
                · intro j HA k hj sA wA kk
                  walk_at "rd"
                  refine ⟨wl, n, by omega, by simp, wA, h0, h1, fun HB v t ht hp hdp dv sB wB => kk v HB sB wB ⟨t, ⟨ht, hp, hdp⟩, dv⟩⟩
                · intro D HA ys hD sA wA eD hly r
                  obtain ⟨ts, dts, hts⟩ := terms_of r
                  have hlt := dens_len dts
                  have hly' : ys.length = a := by omega
                  refine ⟨D, rfl, ys, .inl ⟨SqL.of eD, fun p7 n7 => ?_⟩⟩
                  have hp6 : SqT K (upd HA p7 (.tup ys)) p6 [.str f] := SqT.of ((same_upd n7) _ _ (sA p6 _ (by
                    obtain ⟨_, _, _, e⟩ := w5
                    exact (ne_of_none e n6).symm) upd_same))
                  refine ⟨p6, p7, [.str f], ys, rfl, rfl, hp6, SqT.of upd_same, Nat.le_trans (show _ ≤ 100 by simp; omega) (by decide), (fun z => nomatch z), (fun _ z => by have := congrArg List.length z; rw [List.length_nil] at this; omega), (fun _ _ p8 n8 => ?_)⟩
                  have S8 := (same_upd (o := .tup ys) n7).trans (same_upd (o := .tup ([.str f] ++ ys)) n8)
                  refine q _ _ (.cmp f ts) ⟨hf, fun z => by have := congrArg List.length z; rw [List.length_nil] at this; omega, by omega, wfs_of fun t ht => (hts t ht).1⟩ ?_ ?_ (mk_cmp (SqT.of upd_same) (DpAll.same S8 _ _ dts)) (Sm.new2 (Sm.new2 (sm6.trans sA) n7) n8) ((wA.upd n7).upd n8)
                  · have hpl := partsL_le (n := tsz d) (ts := ts) fun t ht => (hts t ht).2.1
                    simp only [parts, List.length_cons]
                    rw [← hlt, hly'] at hpl
                    rcases Nat.lt_or_ge (d + 1) 3 with h | h
                    · have e1 : d = 1 := by omega
                      subst e1
                      simp only [tsz] at hpl ⊢
                      omega
                    · obtain ⟨e, rfl⟩ : ∃ e, d = e + 2 := ⟨d - 2, by omega⟩
                      have ha := ha2 (by omega)
                      simp only [tsz]
                      have : a * tsz (e + 2) ≤ 2 * tsz (e + 2) := Nat.mul_le_mul_right _ ha
                      omega
                  · have := depthL_le (n := d) (ts := ts) fun t ht => (hts t ht).2.2
                    simp only [depth]
                    omega
      refine eqI ⟨_, rfl, ite2 (fun c3 => ?_) (fun c3 => ?_)⟩
      · have c3' : d + 1 = 2 := by have : ((d + 1 : Nat) : Int) = 2 := by simpa using c3
                                   omega
        apply evl_use (K := K)
        · walk_at "evd"
        · simp
        intro p3 H3 us s3 np3 e3 d3
        refine core H3 p3 us _ s3 ?_ e3 d3 (by simp) ?_
        · obtain ⟨_, _, _, e⟩ := w2
          exact (ne_of_none e np3).symm
        · intro e he
          simp only [List.mem_cons, List.not_mem_nil, or_false] at he
          rcases he with rfl | rfl
          · exact okFa_mk (a := 3) rfl (by decide +kernel) (by decide) (by decide) (.inl c3')
          · exact okFa_mk (a := 8) rfl (by decide +kernel) (by decide) (by decide) (.inl c3')
      · apply evl_use (K := K) (ds := [])
        · walk_at "evd"
        · simp
        intro p3 H3 us s3 np3 e3 d3
        refine core H3 p3 us _ s3 ?_ e3 d3 (by simp) (fun e he => by cases he)
        obtain ⟨_, _, _, e⟩ := w2
        exact (ne_of_none e np3).symm
end
end K1

namespace K1
open PySem PySem.Spec PyProof.Rows L2 HM
local macro_rules | `(tactic| walk_at "rd") => `(tactic| (dsimp only [tSeq, tNext, tRet, tRetN, tAsg, gName, gTup, gCons, gNil, gSub, tDrop, tIfS, tVar, tC, tOp, tUn, tTest, tB, tAnd, tOr, tNot, tAndV, tOrV, tNotV, tIf, tCB, tCons, tNil, tTup, tLst, tCall, tPar, tPar3, tAug, tSl, tPart, tNoPart, tBM, tBM0, tRevT, tRevL, tChain, sDPut, tDGet, tDGet1, tDGet2, tDNewK, tDNewT, tDIn, tDNotIn, tYes, wipe, cxOf, Cx.nox, Cx.wish, L2.start, rI0, rI, rU, ipI, List.length_cons, List.length_nil, List.map_cons, List.map_nil, List.replicate, List.cons_append, List.nil_append, List.append_nil, List.getElem?_cons_zero, List.getElem?_cons_succ, List.set_cons_zero, List.set_cons_succ, Nat.reduceAdd, Nat.reduceSub]; try simp only [List.map_cons, List.map_nil, List.append_nil, List.cons_append, List.nil_append, List.getElem?_cons_zero, List.getElem?_cons_succ, List.set_cons_zero, List.set_cons_succ, rIntI_eq, rIntB_eq, rAbs_eq, Option.some.injEq, V.int.injEq, V.bl.injEq, V.str.injEq, V.ref.injEq, exists_eq_left', exists_and_left, exists_eq', true_and, and_true, if_true, if_false, Bool.false_eq_true]))
local macro_rules | `(tactic| walk_at "r0") => `(tactic| (dsimp only [tSeq, tNext, tRet, tRetN, tAsg, gName, gTup, gCons, gNil, gSub, tDrop, tIfS, tVar, tC, tOp, tUn, tTest, tB, tAnd, tOr, tNot, tAndV, tOrV, tNotV, tIf, tCB, tCons, tNil, tCall, tPar, tPar3, tAug, tSl, tPart, tNoPart, tBM, tBM0, tRevT, tRevL, tChain, sDPut, tDGet, tDGet1, tDGet2, tDNewK, tDNewT, tDIn, tDNotIn, tYes, wipe, cxOf, Cx.nox, Cx.wish, L2.start, rI0, rI, rU, ipI, List.length_cons, List.length_nil, List.map_cons, List.map_nil, List.replicate, List.cons_append, List.nil_append, List.append_nil, List.getElem?_cons_zero, List.getElem?_cons_succ, List.set_cons_zero, List.set_cons_succ, Nat.reduceAdd, Nat.reduceSub]; try simp only [List.map_cons, List.map_nil, List.append_nil, List.cons_append, List.nil_append, List.getElem?_cons_zero, List.getElem?_cons_succ, List.set_cons_zero, List.set_cons_succ, rIntI_eq, rIntB_eq, rAbs_eq, Option.some.injEq, V.int.injEq, V.bl.injEq, V.str.injEq, V.ref.injEq, exists_eq_left', exists_and_left, exists_eq', true_and, and_true, if_true, if_false, Bool.false_eq_true]))
local macro_rules | `(tactic| walk_at "evd") => `(tactic| repeat (first | exact evds_nil | exact evd_int | exact evd_str | exact evd_bl | exact evd_non | exact evd_neg | apply evds_cons | apply evd_tup | apply evd_lst | (simp only [List.length_cons, List.length_nil]; omega)))
section
variable {P : Program} {w : World} {K : PySem.W.Frag} {mg : Str → Option Value} {base : Heap}
def sp_lisvar (K : PySem.W.Frag) : Sp := fun vs H Q _ => ∃ v t, vs = [v] ∧ Den K H v t ∧ wf t ∧ Q (.bl (isVar t)) H
theorem ok_lisvar (B : Bf K mg) (G : Gd K mg "_law_is_variable" s__law_is_variable) : Okf P w K mg base "_law_is_variable" 1 ["_law_term_here"] [] (sp_lisvar K) := by
  refine okf_mk G sc__law_is_variable (fun _ _ _ _ _ _ us hl => match us, hl with | [_], _ => rfl) (fun vs H Q E h => ?_) (fun cdv A outer s H vs Q E hr h => ?_)
  · obtain ⟨v, t, rfl, _⟩ := h
    rfl
  · obtain ⟨v, t, rfl, hd, hw, q⟩ := h
    refine ⟨_, (pss_one (ps_ret (pe_and (pe_callB call_isi (by rfl) B.b_isinstance (by decide +kernel) (pa_cons (pv 0) (pa_cons (pe_bltn (v := .ty "tuple") (by rfl) B.b_tuple (by decide +kernel) rfl) pa_nil))) (pe_one (pe_cmpR op_eq (pe_callB call_lenQ (by rfl) B.b_len (by decide +kernel) (pa_cons (pv 0) pa_nil)) pe_int (nomark _)))))), ?_⟩
    walk_at "rd"
    refine isi_tuple hd ⟨_, rfl, ?_⟩
    cases t with
    | var k =>
      obtain ⟨a, rfl, hs⟩ := den_var hd
      exact iteT (lenT hs (eqI q))
    | cmp f as =>
      obtain ⟨a, us, rfl, hs, hu⟩ := den_cmp hd
      have hl := dens_len hu
      have hp : 0 < as.length := List.length_pos_iff.mpr hw.2.1
      refine iteT (lenT hs (eqI (q_bl ?_ q)))
      rw [List.length_cons]
      exact decide_eq_false (by omega)
    | num i => exact iteF q
    | atm x => exact iteF q
def sp_liscmp (K : PySem.W.Frag) : Sp := fun vs H Q _ => ∃ v t, vs = [v] ∧ Den K H v t ∧ wf t ∧ Q (.bl (isCmp t)) H
theorem ok_liscmp (B : Bf K mg) (G : Gd K mg "_law_is_compound" s__law_is_compound) : Okf P w K mg base "_law_is_compound" 1 ["_law_term_here"] [] (sp_liscmp K) := by
  refine okf_mk G sc__law_is_compound (fun _ _ _ _ _ _ us hl => match us, hl with | [_], _ => rfl) (fun vs H Q E h => ?_) (fun cdv A outer s H vs Q E hr h => ?_)
  · obtain ⟨v, t, rfl, _⟩ := h
    rfl
  · obtain ⟨v, t, rfl, hd, hw, q⟩ := h
    refine ⟨_, (pss_one (ps_ret (pe_and (pe_callB call_isi (by rfl) B.b_isinstance (by decide +kernel) (pa_cons (pv 0) (pa_cons (pe_bltn (v := .ty "tuple") (by rfl) B.b_tuple (by decide +kernel) rfl) pa_nil))) (pe_one (pe_cmpR op_gt (pe_callB call_lenQ (by rfl) B.b_len (by decide +kernel) (pa_cons (pv 0) pa_nil)) pe_int (nomark _)))))), ?_⟩
    walk_at "rd"
    refine isi_tuple hd ⟨_, rfl, ?_⟩
    cases t with
    | var k =>
      obtain ⟨a, rfl, hs⟩ := den_var hd
      exact iteT (lenT hs ⟨_, rfl, q⟩)
    | cmp f as =>
      obtain ⟨a, us, rfl, hs, hu⟩ := den_cmp hd
      have hl := dens_len hu
      have hp : 0 < as.length := List.length_pos_iff.mpr hw.2.1
      refine iteT (lenT hs ⟨_, rfl, q_bl ?_ q⟩)
      rw [List.length_cons]
      exact decide_eq_true (by omega)
    | num i => exact iteF q
    | atm x => exact iteF q
/-! ### _law_parts -/
def sp_lparts (K : PySem.W.Frag) (d : Nat) : Sp := fun vs H Q _ => ∃ v t, vs = [v] ∧ Den K H v t ∧ wf t ∧ depth t ≤ d ∧ (parts t).length ≤ 50000 ∧ ∀ H' p us, Same H H' → H p = none → H' p = some (.lst us) → Dens K H' us (parts t) → Q (.ref p) H'
theorem depth_pos (t : Tm) : 1 ≤ depth t := by cases t <;> simp [depth]
theorem depth_get : ∀ {ts : List Tm} {i : Nat} {t : Tm}, ts[i]? = some t → depth t ≤ depthL ts
  | [], i, d, h => by simp at h
  | x :: ts, 0, d, e => by simp at e; subst e; simp only [depthL]; omega
  | x :: ts, i + 1, d, e => by have := depth_get (ts := ts) (i := i) (t := d) (by simpa using e); simp only [depthL]; omega
theorem ok_lparts (B : Bf K mg) (G : Gd K mg "_law_parts" s__law_parts) (O__law_is_compound : Okf P w K mg base "_law_is_compound" 1 ["_law_term_here"] [] (sp_liscmp K)) : ∀ d, Okf P w K mg base "_law_parts" (1 + d) ["_law_term_here"] [] (sp_lparts K d) := by
  intro d
  induction d with
  | zero =>
    refine okf_mk G sc__law_parts (fun _ _ _ _ _ _ us hl => match us, hl with | [_], _ => rfl) (fun vs H Q E h => ?_) (fun cdv A outer s H vs Q E hr h => ?_)
    · obtain ⟨v, t, rfl, _⟩ := h
      rfl
    · obtain ⟨v, t, rfl, hd, hw, hdp, _⟩ := h
      have := depth_pos t
      omega
  | succ d O__law_parts =>
    show Okf P w K mg base "_law_parts" ((1 + d) + 1) _ _ _
    refine okf_mk G sc__law_parts (fun _ _ _ _ _ _ us hl => match us, hl with | [_], _ => rfl) (fun vs H Q E h => ?_) (fun cdv A outer s H vs Q E hr h => ?_)
    · obtain ⟨v, t, rfl, _⟩ := h
      rfl
    · obtain ⟨v, t, rfl, hd, hw, hdp, hz, q⟩ := h
      have hrr := hr
      refine ⟨_, (pss_cons (ps_set (i := 1) sc__law_parts.nd rfl (Or.inl rfl) (pe_lst (pa_cons (pv 0) pa_nil)))
      (pss_cons (ps_for PassesOwn.never rfl (pi_tup (pe_ifExp (pt_val (pe_callO O__law_is_compound (hr.mono (by omega)) (by rfl) (pa_cons (pv 0) pa_nil))) (pe_slice sl_tupA (pv 0) (po_some pe_int) po_none) (pe_tup pa_nil))) (pg_name (i := 2) sc__law_parts.nd rfl (Or.inl rfl))
      (pss_one (ps_set (i := 1) sc__law_parts.nd rfl (Or.inl rfl) (pe_op op_cat (pv 1) (pe_callO O__law_parts hrr (by rfl) (pa_cons (pv 2) pa_nil))))))
      (pss_one (ps_ret (pv 1))))), ?_⟩
      walk_at "rd"
      refine ⟨(by show 1 ≤ sizeLine; decide), fun f nf => ?_⟩
      have s1 : Same H (upd H f (.lst [v])) := same_upd nf
      have core : ∀ (H2 : Hp) (a : Addr) (xs : List V) (as : List Tm), Same (upd H f (.lst [v])) H2 → SqT K H2 a xs → Dens K H xs as → wfs as → depthL as ≤ d → (t :: partsL as) = parts t →
          ForG (Itt K a) (gName 2) (tAsg (tOp rCat (tVar 1) (tCall (sp_lparts K d) [] E0 (tCons (tVar 2) tNil))) (gName 1)) { nx := tRet (tVar 1) { nx := fun x H' => Q V.non H', rt := Q }, rt := Q } [some v, some (.ref f), none] H2 := by
        intro H2 a xs as s2 hs dx hws hda ht
        have hlx := dens_len dx
        refine for_t (xs := xs) (fun i σ H3 => ∃ fl us z, σ = [some v, some (.ref fl), z] ∧ Same H H3 ∧ H fl = none ∧ H3 fl = some (.lst us) ∧ SqT K H3 a xs ∧ Dens K H3 us (t :: partsL (as.take i))) ⟨f, [v], none, rfl, s1.trans s2, nf, s2 _ _ upd_same, hs, by rw [List.take_zero]; exact .cons (Dp.same (s1.trans s2) _ _ hd) .nil⟩ (fun i σ H3 _ ⟨_, _, _, _, _, _, _, h, _⟩ => h) ?_ ?_
        · rintro i x σ H3 hi ⟨fl, us, z, rfl, s3, nfl, efl, hs3, du⟩
          obtain ⟨tt, hti, dx1⟩ := dens_get dx hi
          have hpt := partsL_get hti
          have hlen := congrArg List.length ht
          rw [List.length_cons] at hlen
          have hdl := dens_len du
          have hsp : partsL as = partsL (as.take i) ++ partsL (as.drop i) := by rw [← partsL_append, List.take_append_drop]
          have hsl := congrArg List.length hsp
          rw [List.length_append] at hsl
          rw [List.length_cons] at hdl
          walk_at "rd"
          refine ⟨x, tt, rfl, Dp.same s3 _ _ dx1, wfs_get hws hti, Nat.le_trans (depth_get hti) hda, by omega, fun H4 p4 us4 s4 n4 e4 d4 => ?_⟩
          have hl4 := dens_len d4
          refine ⟨fl, p4, us, us4, rfl, rfl, s4 _ _ efl, e4, ?_, fun p5 n5 => ⟨p5, us ++ us4, some x, rfl, (s3.trans s4).trans (same_upd n5), (s3.trans s4).free n5, upd_same, Same.sqT (s4.trans (same_upd n5)) hs3, ?_⟩⟩
          · exact Nat.le_trans (show _ ≤ 200000 by omega) (by decide)
          · rw [take_succ hti, partsL_append]
            have := dens_app (DpAll.same (s4.trans (same_upd (o := .lst (us ++ us4)) n5)) _ _ du) (DpAll.same (same_upd n5) _ _ d4)
            simpa [partsL] using this
        · rintro σ H3 ⟨fl, us, z, rfl, s3, nfl, efl, hs3, du⟩
          rw [hlx, List.take_length, ht] at du
          exact ⟨_, rfl, q H3 fl us s3 nfl efl du⟩
      refine tfor_of ?_
      dsimp only [iTup]
      walk_at "rd"
      refine ⟨v, t, rfl, Dp.same s1 _ _ hd, hw, _, rfl, ?_⟩
      cases t with
      | cmp g as =>
        obtain ⟨a, xs, rfl, hs, hxs⟩ := den_cmp hd
        refine iteT (slT1 (Same.sqT s1 hs) fun p2 n2 => ⟨p2, rfl, ⟨_, SqT.of upd_same⟩, ?_⟩)
        exact core _ p2 xs as (same_upd n2) (SqT.of upd_same) hxs hw.2.2.2 (by simp only [depth] at hdp; omega) rfl
      | _ => exact iteF ⟨Nat.zero_le _, fun p2 n2 => ⟨⟨_, SqT.of upd_same⟩, core _ p2 [] [] (same_upd n2) (SqT.of upd_same) .nil trivial (Nat.zero_le _) rfl⟩⟩
/-! ### _law_numbers -/
def sp_lnumbers (K : PySem.W.Frag) (d : Nat) : Sp := fun vs H Q _ => ∃ v t, vs = [v] ∧ Den K H v t ∧ wf t ∧ depth t ≤ d ∧ (parts t).length ≤ 50000 ∧ ∀ H' p, Same H H' → H p = none → H' p = some (.lst (nV (vars (parts t)))) → Q (.ref p) H'
theorem flat_nV (ks : List Nat) : (nV ks).all flatV = true := by
  unfold nV
  rw [List.all_map]
  exact List.all_eq_true.mpr fun _ _ => rfl
theorem in_nV (k : Nat) : ∀ ks : List Nat, inV (.int (k : Int)) (nV ks) = decide (k ∈ ks)
  | [] => rfl
  | x :: ks => by
    have ih := in_nV k ks
    unfold inV nV at ih ⊢
    rw [List.map_cons, List.any_cons, ih]
    show ((x : Int) == (k : Int) || decide (k ∈ ks)) = decide (k ∈ x :: ks)
    by_cases h : x = k
    · subst h; simp
    · have h1 : ((x : Int) == (k : Int)) = false := by simp; omega
      have h2 : ¬ k = x := fun z => h z.symm
      simp [h1, h2]
theorem ok_lnumbers (d : Nat) (B : Bf K mg) (G : Gd K mg "_law_numbers" s__law_numbers) (O__law_is_variable : Okf P w K mg base "_law_is_variable" 1 ["_law_term_here"] [] (sp_lisvar K)) (O__law_parts : Okf P w K mg base "_law_parts" (1 + d) ["_law_term_here"] [] (sp_lparts K d)) : Okf P w K mg base "_law_numbers" ((1 + d) + 1) ["_law_term_here"] [] (sp_lnumbers K d) := by
  refine okf_mk G sc__law_numbers (fun _ _ _ _ _ _ us hl => match us, hl with | [_], _ => rfl) (fun vs H Q E h => ?_) (fun cdv A outer s H vs Q E hr h => ?_)
  · obtain ⟨v, t, rfl, _⟩ := h
    rfl
  · obtain ⟨v, t, rfl, hd, hw, hdp, hz, q⟩ := h
    refine ⟨_, (pss_cons (ps_set (i := 1) sc__law_numbers.nd rfl (Or.inl rfl) (pe_lst pa_nil))
      (pss_cons (ps_for PassesOwn.never rfl (pi_list (pe_callO O__law_parts (hr.mono (by omega)) (by rfl) (pa_cons (pv 0) pa_nil))) (pg_name (i := 2) sc__law_numbers.nd rfl (Or.inl rfl))
      (pss_one (ps_if (PW.pt (pw_and (pt_val (pe_callO O__law_is_variable (hr.mono (by omega)) (by rfl) (pa_cons (pv 2) pa_nil))) (pw_and1 (pt_cmpR op_notIn_seq (pe_ix (show IxR _ (rIxT K) from ix_tup) (pv 2) pe_int (fun _ _ => rfl)) (pv 1) rfl))))
        (pss_one (ps_expr (pe_bm PySem.F.plainAttrs_list PySem.F.slot_list_append PySem.F.type_list_append mt_append (pv 1) (pa_cons (pe_ix (show IxR _ (rIxT K) from ix_tup) (pv 2) pe_int (fun _ _ => rfl)) pa_nil))))
        pss_nil)))
      (pss_one (ps_ret (pv 1))))), ?_⟩
    walk_at "rd"
    refine ⟨Nat.zero_le _, fun f nf => tfor_of ?_⟩
    refine ⟨_, rfl, v, t, rfl, Dp.same (same_upd nf) _ _ hd, hw, hdp, hz, fun H1 p us s1 n1 e1 d1 => ⟨p, rfl, ⟨_, SqL.of e1⟩, ?_⟩⟩
    have hl1 := dens_len d1
    have npf : p ≠ f := fun z => by rw [z, upd_same] at n1; cases n1
    have hwp := wfs_parts t hw
    refine for_l (xs := us) (fun i σ H2 => ∃ z, σ = [some v, some (.ref f), z] ∧ Sm (· = f) H1 H2 ∧ Same H H2 ∧ H2 f = some (.lst (nV (((parts t).take i).foldl addV [])))) ⟨none, rfl, Sm.refl _, (same_upd nf).trans s1, by rw [List.take_zero]; exact s1 _ _ upd_same⟩ (fun i σ H2 _ ⟨_, _, s2, _⟩ => s2.sqL npf (SqL.of e1)) ?_ ?_
    · rintro i x σ H2 hi ⟨z, rfl, s2, sH, e2⟩
      obtain ⟨tt, hti, dx⟩ := dens_get d1 hi
      have hwt := wfs_get hwp hti
      have ef1 : H1 f = some (.lst []) := s1 _ _ upd_same
      have tk2 : Tk H1 H2 := Tk.sm s2 fun b o m e => by subst m; rw [ef1] at e; cases e; exact fun f => f
      have dx2 : Den K H2 x tt := Dp.tk tk2 _ _ (noL_toD tt) dx
      have hlen : (((parts t).take i).foldl addV []).length ≤ 50000 := by
        have := foldl_addV_len ((parts t).take i) []
        rw [List.length_take, List.length_nil] at this
        omega
      walk_at "rd"
      refine ⟨x, tt, rfl, dx2, hwt, _, rfl, ?_⟩
      rw [take_succ hti, List.foldl_append]
      cases tt with
      | var k =>
        obtain ⟨a, rfl, hs⟩ := den_var dx2
        refine iteT (ixT0 hs ⟨f, _, rfl, .inl (SqL.of e2), rfl, flat_nV _, _, rfl, ?_⟩)
        rw [in_nV]
        simp only [List.foldl_cons, List.foldl_nil, addV]
        unfold addN
        by_cases hk : k ∈ ((parts t).take i).foldl addV []
        · rw [if_pos hk, decide_eq_true hk]
          exact iteF ⟨_, rfl, s2, sH, e2⟩
        · rw [if_neg hk, decide_eq_false hk]
          refine iteT ⟨tyL e2, ixT0 hs (appR e2 (Nat.lt_of_le_of_lt (show _ ≤ 50000 by unfold nV; rw [List.length_map]; exact hlen) (by decide)) ⟨_, rfl, s2.at rfl, Same.mut sH nf, ?_⟩)⟩
          rw [upd_same]
          unfold nV
          rw [List.map_append]
          rfl
      | _ => exact iteF ⟨_, rfl, s2, sH, e2⟩
    · rintro σ H2 ⟨z, rfl, s2, sH, e2⟩
      rw [hl1, List.take_length] at e2
      exact ⟨_, rfl, q H2 f sH nf e2⟩
/-! ### _law_put -/
def sp_lput (K : PySem.W.Frag) (d : Nat) : Sp := fun vs H Q _ => ∃ v t dd kvs f, vs = [v, .ref dd] ∧ Den K H v t ∧ wf t ∧ depth t ≤ d ∧ H dd = some (.dK kvs) ∧ TabOk K H kvs f ∧ ∀ H' u, Same H H' → Den K H' u (subst f t) → Q u H'
theorem substL_get (f : Nat → Option Tm) : ∀ {ts : List Tm} {i : Nat} {t : Tm}, ts[i]? = some t → (substL f ts)[i]? = some (subst f t)
  | [], i, t, h => by simp at h
  | x :: a, 0, t, h => by simp at h; subst h; rfl
  | x :: a, i + 1, t, h => by simpa [substL] using substL_get f (ts := a) (i := i) (t := t) (by simpa using h)
theorem ok_lput (B : Bf K mg) (G : Gd K mg "_law_put" s__law_put) (O__law_is_variable : Okf P w K mg base "_law_is_variable" 1 ["_law_term_here"] [] (sp_lisvar K)) (O__law_is_compound : Okf P w K mg base "_law_is_compound" 1 ["_law_term_here"] [] (sp_liscmp K)) : ∀ d, Okf P w K mg base "_law_put" (1 + d) ["_law_term_here", "_law_table"] [] (sp_lput K d) := by
  intro d
  induction d with
  | zero =>
    refine okf_mk G sc__law_put (fun _ _ _ _ _ _ us hl => match us, hl with | [_, _], _ => rfl) (fun vs H Q E h => ?_) (fun cdv A outer s H vs Q E hr h => ?_)
    · obtain ⟨v, t, dd, kvs, f, rfl, _⟩ := h
      rfl
    · obtain ⟨v, t, dd, kvs, f, rfl, hd, hw, hdp, _⟩ := h
      have := depth_pos t
      omega
  | succ d O__law_put =>
    show Okf P w K mg base "_law_put" ((1 + d) + 1) _ _ _
    refine okf_mk G sc__law_put (fun _ _ _ _ _ _ us hl => match us, hl with | [_, _], _ => rfl) (fun vs H Q E h => ?_) (fun cdv A outer s H vs Q E hr h => ?_)
    · obtain ⟨v, t, dd, kvs, f, rfl, _⟩ := h
      rfl
    · obtain ⟨v, t, dd, kvs, f, rfl, hd, hw, hdp, hk, hf, q⟩ := h
      have hrr := hr
      refine ⟨_, (pss_cons (ps_if (pt_val (pe_callO O__law_is_variable (hr.mono (by omega)) (by rfl) (pa_cons (pv 0) pa_nil)))
        (pss_one (ps_ret (pe_dget2 (hu_of hr) (pv 1) (pe_ix (show IxR _ (rIxT K) from ix_tup) (pv 0) pe_int (fun _ _ => rfl)) (pv 0) ⟨rfl, rfl, rfl, rfl⟩)))
        pss_nil)
      (pss_cons (ps_if (pt_not (pt_val (pe_callO O__law_is_compound (hr.mono (by omega)) (by rfl) (pa_cons (pv 0) pa_nil))))
        (pss_one (ps_ret (pv 0)))
        pss_nil)
      (pss_one (ps_ret (pe_op op_catA (pe_tup (pa_cons (pe_ix (show IxR _ (rIxT K) from ix_tup) (pv 0) pe_int (fun _ _ => rfl)) pa_nil)) (pe_callTy call_tuple_of (by rfl) B.b_tuple (by decide +kernel) (pa_cons (pe_lc (own := [("_law_part", 2)]) (g := gName 2) (tt := tYes) rfl sc__law_put.nd (pi_tup (pe_slice sl_tupA (pv 0) (po_some pe_int) po_none)) (blkOk_by (own := [("_law_part", 2)]) (N := ["_law_term_here", "_law_table", "_law_part"]) (sc := defScope s__law_put) (by decide +kernel)) (fun _ _ _ _ _ => (pg_name (i := 2) sc__law_put.nd rfl (Or.inl rfl))) (fun _ _ _ _ _ => pts_nil) (fun _ _ _ _ _ => (pe_callO O__law_put hrr (by rfl) (pa_cons (pv 2) (pa_cons (pv 1) pa_nil))))) pa_nil))))))), ?_⟩
      walk_at "rd"
      refine ⟨v, t, rfl, hd, hw, _, rfl, ?_⟩
      cases t with
      | var k =>
        obtain ⟨a, rfl, hs⟩ := den_var hd
        refine iteT ⟨.inl ⟨kvs, .inl hk⟩, ixT0 hs ⟨_, DGet.k (k := Sum.inl (k : Int)) hk, q H _ (Same.refl H) ?_⟩⟩
        rcases hf k with ⟨h5, h6⟩ | ⟨tt, u, h5, h6, h7⟩
        · rw [h6]
          simp only [subst, h5, Option.getD_none]
          exact hd
        · rw [h6]
          simp only [subst, h5, Option.getD_some]
          exact h7
      | num i => exact iteF ⟨v, _, rfl, hd, hw, _, rfl, iteT (q H v (Same.refl H) hd)⟩
      | atm x => exact iteF ⟨v, _, rfl, hd, hw, _, rfl, iteT (q H v (Same.refl H) hd)⟩
      | cmp g as =>
        refine iteF ⟨v, _, rfl, hd, hw, _, rfl, iteF ?_⟩
        obtain ⟨a, xs, rfl, hs, hxs⟩ := den_cmp hd
        have hlx := dens_len hxs
        refine ixT0 hs ⟨(by show 1 ≤ sizeLine; decide), fun p1 n1 => tlc_of ?_⟩
        have s1 : Same H (upd H p1 (.tup [.str g])) := same_upd n1
        dsimp only [iTup]
        walk_at "rd"
        refine slT1 (Same.sqT s1 hs) fun p2 n2 => ⟨p2, rfl, ⟨_, SqT.of upd_same⟩, ?_⟩
        have s2 := s1.trans (same_upd (o := .tup xs) n2)
        refine lc_tup (K := K) (xs := xs) (R := fun j y H6 => ∃ tt, as[j]? = some tt ∧ Den K H6 y (subst f tt)) (SqT.of upd_same) ?_ ?_ ?_ ?_
        · exact Nat.le_trans (show _ ≤ 100 by have := hw.2.2.1; omega) (by decide)
        · rintro j y H6 H7 tk ⟨tt, h5, h6⟩
          exact ⟨tt, h5, Dp.tk tk _ _ (noL_toD _) h6⟩
        · intro j x H6 k hx s6 kk
          obtain ⟨tt, hti, dx⟩ := dens_get hxs hx
          have s7 := s2.trans s6
          walk_at "rd"
          refine ⟨x, tt, dd, kvs, f, rfl, Dp.same s7 _ _ dx, wfs_get hw.2.2.2 hti, by have := depth_get hti; simp only [depth] at hdp; omega, s7 _ _ hk, hf.tk (Tk.of s7), fun H8 u s8 d8 => kk u H8 s8 ⟨tt, hti, d8⟩⟩
        · intro D H6 ys nD s6 eD ly r
          have s7 := s2.trans s6
          refine ⟨D, rfl, ys, .inl ⟨SqL.of eD, fun p7 n7 => ?_⟩⟩
          have hp1 : SqT K (upd H6 p7 (.tup ys)) p1 [.str g] := SqT.of (((same_upd n2).trans (s6.trans (same_upd n7))) _ _ upd_same)
          have hne : ys ≠ [] := fun z => by
            have := congrArg List.length z
            rw [List.length_nil] at this
            have := List.length_pos_iff.mpr hw.2.1
            omega
          refine ⟨p1, p7, [.str g], ys, rfl, rfl, hp1, SqT.of upd_same, Nat.le_trans (show 1 + ys.length ≤ 100 by have := hw.2.2.1; omega) (by decide), (fun z => nomatch z), (fun _ z => absurd z hne), (fun _ _ p8 n8 => ?_)⟩
          have S8 := (same_upd (o := .tup ys) n7).trans (same_upd (o := .tup ([.str g] ++ ys)) n8)
          refine q _ _ (s7.trans S8) ?_
          simp only [subst]
          refine mk_cmp (us := ys) (SqT.of upd_same) (dpAll_of ?_ fun j y hy => ?_)
          · rw [toDs_length, substL_length]; omega
          · obtain ⟨tt, h5, h6⟩ := r j y hy
            exact ⟨_, toDs_get (substL_get f h5), Dp.same S8 _ _ h6⟩
/-! ### _law_depth -/
def sp_ldepth (K : PySem.W.Frag) (d : Nat) : Sp := fun vs H Q _ => ∃ v t, vs = [v] ∧ Den K H v t ∧ wf t ∧ depth t ≤ d ∧ ∀ H', Same H H' → Q (.int (depth t)) H'
theorem depthL_max : ∀ {ts : List Tm} {m : Int}, ts ≠ [] → (∃ t ∈ ts, m = (depth t : Int)) → (∀ t ∈ ts, (depth t : Int) ≤ m) → m = (depthL ts : Int) := by
  intro ts
  induction ts with
  | nil => intro m h; exact absurd rfl h
  | cons t ts ih =>
    intro m _ h1 h2
    have hm := h2 t List.mem_cons_self
    simp only [depthL]
    by_cases hn : ts = []
    · subst hn
      obtain ⟨u, hu, e⟩ := h1
      simp at hu
      subst hu
      simp [depthL]
      omega
    · have g : ∀ u ∈ ts, (depth u : Int) ≤ m := fun u hu => h2 u (List.mem_cons_of_mem _ hu)
      have gl : (depthL ts : Int) ≤ m := by
        have : depthL ts ≤ m.toNat := depthL_le fun u hu => by have := g u hu; omega
        omega
      obtain ⟨u, hu, e⟩ := h1
      rcases List.mem_cons.mp hu with rfl | hu
      · omega
      · obtain ⟨i, hi⟩ := List.getElem?_of_mem hu
        have := depth_get hi
        omega
theorem ok_ldepth (B : Bf K mg) (G : Gd K mg "_law_depth" s__law_depth) (O__law_is_compound : Okf P w K mg base "_law_is_compound" 1 ["_law_term_here"] [] (sp_liscmp K)) : ∀ d, Okf P w K mg base "_law_depth" (1 + d) ["_law_term_here"] [] (sp_ldepth K d) := by
  intro d
  induction d with
  | zero =>
    refine okf_mk G sc__law_depth (fun _ _ _ _ _ _ us hl => match us, hl with | [_], _ => rfl) (fun vs H Q E h => ?_) (fun cdv A outer s H vs Q E hr h => ?_)
    · obtain ⟨v, t, rfl, _⟩ := h
      rfl
    · obtain ⟨v, t, rfl, hd, hw, hdp, _⟩ := h
      have := depth_pos t
      omega
  | succ d O__law_depth =>
    show Okf P w K mg base "_law_depth" ((1 + d) + 1) _ _ _
    refine okf_mk G sc__law_depth (fun _ _ _ _ _ _ us hl => match us, hl with | [_], _ => rfl) (fun vs H Q E h => ?_) (fun cdv A outer s H vs Q E hr h => ?_)
    · obtain ⟨v, t, rfl, _⟩ := h
      rfl
    · obtain ⟨v, t, rfl, hd, hw, hdp, q⟩ := h
      have hrr := hr
      refine ⟨_, (pss_one (ps_ret (pe_op op_add pe_int (pe_callB (cr_max rfl) (by rfl) B.b_max (by decide +kernel) (pa_cons (pe_ifExp (pt_val (pe_callO O__law_is_compound (hr.mono (by omega)) (by rfl) (pa_cons (pv 0) pa_nil))) (pe_lc (own := [("_law_part", 1)]) (g := gName 1) (tt := tYes) rfl sc__law_depth.nd (pi_tup (pe_slice sl_tupA (pv 0) (po_some pe_int) po_none)) (blkOk_by (own := [("_law_part", 1)]) (N := ["_law_term_here", "_law_part"]) (sc := defScope s__law_depth) (by decide +kernel)) (fun _ _ _ _ _ => (pg_name (i := 1) sc__law_depth.nd rfl (Or.inl rfl))) (fun _ _ _ _ _ => pts_nil) (fun _ _ _ _ _ => (pe_callO O__law_depth hrr (by rfl) (pa_cons (pv 1) pa_nil)))) (pe_lst (pa_cons pe_int pa_nil))) pa_nil))))), ?_⟩
      walk_at "rd"
      refine ⟨v, t, rfl, hd, hw, _, rfl, ?_⟩
      have leaf : isCmp t = false → depth t = 1 := fun h => by cases t <;> first | rfl | cases h
      cases t with
      | cmp g as =>
        refine iteT (tlc_of ?_)
        obtain ⟨a, xs, rfl, hs, hxs⟩ := den_cmp hd
        have hlx := dens_len hxs
        dsimp only [iTup]
        walk_at "rd"
        refine slT1 hs fun p2 n2 => ⟨p2, rfl, ⟨_, SqT.of upd_same⟩, ?_⟩
        have s2 : Same H (upd H p2 (.tup xs)) := same_upd n2
        refine lc_tup (K := K) (xs := xs) (R := fun j y _ => ∃ tt, as[j]? = some tt ∧ y = .int (depth tt)) (SqT.of upd_same) ?_ (fun _ _ _ _ _ h => h) ?_ ?_
        · exact Nat.le_trans (show _ ≤ 100 by have := hw.2.2.1; omega) (by decide)
        · intro j x H6 k hx s6 kk
          obtain ⟨tt, hti, dx⟩ := dens_get hxs hx
          walk_at "rd"
          exact ⟨x, tt, rfl, Dp.same (s2.trans s6) _ _ dx, wfs_get hw.2.2.2 hti, by have := depth_get hti; simp only [depth] at hdp; omega, fun H8 s8 => kk _ H8 s8 ⟨tt, hti, rfl⟩⟩
        · intro D H6 ys nD s6 eD ly r
          have ey : ys = (as.map fun t => (depth t : Int)).map V.int := list_of_get (by simp; omega) fun j y hy => by
            obtain ⟨tt, h5, rfl⟩ := r j y hy
            simp [h5]
          refine ⟨D, as.map fun t => (depth t : Int), rfl, SqL.of (by rw [eD, ey]), ?_, fun m hm hmx => ?_⟩
          · rw [List.length_map]
            exact List.length_pos_iff.mpr hw.2.1
          · have e1 := depthL_max hw.2.1 (m := m) (by obtain ⟨u, hu, e⟩ := List.mem_map.mp hm; exact ⟨u, hu, e.symm⟩) (fun t ht => hmx _ (List.mem_map.mpr ⟨t, ht, rfl⟩))
            refine ⟨_, rfl, q_int ?_ (q H6 (s2.trans s6))⟩
            rw [e1]
            simp only [depth]
            omega
      | _ =>
        refine iteF ⟨(by show 1 ≤ sizeLine; decide), fun p np => ⟨p, [0], rfl, SqL.of upd_same, by simp, fun m hm _ => ?_⟩⟩
        simp at hm
        subst hm
        refine ⟨_, rfl, q_int ?_ (q _ (same_upd np))⟩
        rw [leaf rfl]
        rfl
end
end K1

namespace K1
open PySem PySem.Spec PyProof.Rows L2 HM
local macro_rules | `(tactic| walk_at "rd") => `(tactic| (dsimp only [tSeq, tNext, tRet, tRetN, tAsg, gName, gTup, gCons, gNil, gSub, tDrop, tIfS, tVar, tC, tOp, tUn, tTest, tB, tAnd, tOr, tNot, tAndV, tOrV, tNotV, tIf, tCB, tCons, tNil, tTup, tLst, tCall, tPar, tPar3, tAug, tSl, tPart, tNoPart, tBM, tBM0, tRevT, tRevL, tChain, sDPut, tDGet, tDGet1, tDGet2, tDNewK, tDNewT, tDIn, tDNotIn, tYes, wipe, cxOf, Cx.nox, Cx.wish, L2.start, rI0, rI, rU, ipI, List.length_cons, List.length_nil, List.map_cons, List.map_nil, List.replicate, List.cons_append, List.nil_append, List.append_nil, List.getElem?_cons_zero, List.getElem?_cons_succ, List.set_cons_zero, List.set_cons_succ, Nat.reduceAdd, Nat.reduceSub]; try simp only [List.map_cons, List.map_nil, List.append_nil, List.cons_append, List.nil_append, List.getElem?_cons_zero, List.getElem?_cons_succ, List.set_cons_zero, List.set_cons_succ, rIntI_eq, rIntB_eq, rAbs_eq, Option.some.injEq, V.int.injEq, V.bl.injEq, V.str.injEq, V.ref.injEq, exists_eq_left', exists_and_left, exists_eq', true_and, and_true, if_true, if_false, Bool.false_eq_true]))
local macro_rules | `(tactic| walk_at "r0") => `(tactic| (dsimp only [tSeq, tNext, tRet, tRetN, tAsg, gName, gTup, gCons, gNil, gSub, tDrop, tIfS, tVar, tC, tOp, tUn, tTest, tB, tAnd, tOr, tNot, tAndV, tOrV, tNotV, tIf, tCB, tCons, tNil, tCall, tPar, tPar3, tAug, tSl, tPart, tNoPart, tBM, tBM0, tRevT, tRevL, tChain, sDPut, tDGet, tDGet1, tDGet2, tDNewK, tDNewT, tDIn, tDNotIn, tYes, wipe, cxOf, Cx.nox, Cx.wish, L2.start, rI0, rI, rU, ipI, List.length_cons, List.length_nil, List.map_cons, List.map_nil, List.replicate, List.cons_append, List.nil_append, List.append_nil, List.getElem?_cons_zero, List.getElem?_cons_succ, List.set_cons_zero, List.set_cons_succ, Nat.reduceAdd, Nat.reduceSub]; try simp only [List.map_cons, List.map_nil, List.append_nil, List.cons_append, List.nil_append, List.getElem?_cons_zero, List.getElem?_cons_succ, List.set_cons_zero, List.set_cons_succ, rIntI_eq, rIntB_eq, rAbs_eq, Option.some.injEq, V.int.injEq, V.bl.injEq, V.str.injEq, V.ref.injEq, exists_eq_left', exists_and_left, exists_eq', true_and, and_true, if_true, if_false, Bool.false_eq_true]))
local macro_rules | `(tactic| walk_at "evd") => `(tactic| repeat (first | exact evds_nil | exact evd_int | exact evd_str | exact evd_bl | exact evd_non | exact evd_neg | apply evds_cons | apply evd_tup | apply evd_lst | (simp only [List.length_cons, List.length_nil]; omega)))
/-! ### tables -/
def look (ks : List Nat) (ts : List Tm) (k : Nat) : Option Tm := if k ∈ ks then ts[ks.idxOf k]? else none
def kvz (ks : List Nat) (us : List V) : List (Key × V) := (ks.zip us).map fun p => (Sum.inl (p.1 : Int), p.2)
theorem kvz_snoc (ks : List Nat) (us : List V) (k : Nat) (u : V) (h : ks.length = us.length) : kvz (ks ++ [k]) (us ++ [u]) = kvz ks us ++ [(Sum.inl (k : Int), u)] := by
  unfold kvz
  rw [List.zip_append h, List.map_append]
  rfl
theorem look_snoc {ks : List Nat} {ts : List Tm} {k : Nat} {t : Tm} (hl : ks.length = ts.length) (hk : k ∉ ks) (j : Nat) : look (ks ++ [k]) (ts ++ [t]) j = if j = k then some t else look ks ts j := by
  unfold look
  by_cases h : j = k
  · subst h
    simp [List.idxOf_append, hk, hl]
  · rw [if_neg h]
    by_cases h2 : j ∈ ks
    · have := List.idxOf_lt_length_of_mem h2
      simp [h2, List.idxOf_append]
      rw [List.getElem?_append_left (by omega)]
    · simp [h2, h]
theorem mergeK_snoc (kvs : List (Key × V)) (p : Key × V) : mergeK [] (kvs ++ [p]) = putK (mergeK [] kvs) p.1 p.2 := by
  unfold mergeK
  rw [List.foldl_append]
  rfl
theorem tab_look {K : PySem.W.Frag} {H : Hp} : ∀ (n : Nat) {ks : List Nat} {us : List V} {ts : List Tm}, ks.length = n → ks.Nodup → us.length = ks.length → Dens K H us ts → TabOk K H (mergeK [] (kvz ks us)) (look ks ts)
  | 0, ks, us, ts, h, _, _, _ => by
    have : ks = [] := List.length_eq_zero_iff.mp h
    subst this
    exact fun k => .inl ⟨by simp [look], rfl⟩
  | n + 1, ks, us, ts, h, hn, hl, hd => by
    rcases concat_or ks with rfl | ⟨ks, k, rfl⟩
    · simp at h
    rcases concat_or us with rfl | ⟨us, u, rfl⟩
    · simp at hl
    rcases concat_or ts with rfl | ⟨ts, t, rfl⟩
    · have := dens_len hd
      simp at this
    rw [List.length_append, List.length_append] at hl
    rw [List.length_append] at h
    simp only [List.length_cons, List.length_nil] at hl h
    obtain ⟨us', u', e, hd1, hd2⟩ := dens_snoc hd
    have e1 := List.append_inj' e rfl
    obtain ⟨rfl, e2⟩ := e1
    cases e2
    have hn2 := List.nodup_append.mp hn
    have hk : k ∉ ks := fun z => hn2.2.2 k z k (by simp) rfl
    have ih := tab_look n (ks := ks) (us := us) (ts := ts) (by omega) hn2.1 (by omega) hd1
    have hlt := dens_len hd1
    rw [kvz_snoc _ _ _ _ (by omega), mergeK_snoc]
    intro j
    rw [look_snoc (by omega) hk, valV_put]
    by_cases hj : j = k
    · exact .inr ⟨t, u, if_pos hj, if_pos (by rw [hj]), hd2⟩
    · rw [if_neg hj, if_neg (fun z => hj (by have := Sum.inl.inj z; omega))]
      exact ih j
def numd (first n : Nat) : List Tm := (List.range n).map fun i => Tm.var (first + i)
theorem look_numd (ks : List Nat) (first : Nat) : look ks (numd first ks.length) = rn ks first := by
  funext k
  unfold look rn
  by_cases h : k ∈ ks
  · have := List.idxOf_lt_length_of_mem h
    simp [h, numd, this]
  · simp [h]
/-! ### renaming -/
def Ren (f : Nat → Option Tm) : Prop := ∀ k t, f k = some t → ∃ j, t = .var j
def phi (f : Nat → Option Tm) (k : Nat) : Nat := match f k with | some (.var j) => j | _ => k
theorem subst_var {f : Nat → Option Tm} (hf : Ren f) (k : Nat) : subst f (.var k) = .var (phi f k) := by
  simp only [subst, phi]
  cases h : f k with
  | none => rfl
  | some t =>
    obtain ⟨j, rfl⟩ := hf k t h
    rfl
mutual
theorem ren_parts {f : Nat → Option Tm} (hf : Ren f) : ∀ t, parts (subst f t) = (parts t).map (subst f)
  | .var k => by rw [subst_var hf]; simp [parts, subst_var hf]
  | .num i => rfl
  | .atm x => rfl
  | .cmp g as => by simp only [subst, parts, List.map_cons, ren_partsL hf as]
theorem ren_partsL {f : Nat → Option Tm} (hf : Ren f) : ∀ ts, partsL (substL f ts) = (partsL ts).map (subst f)
  | [] => rfl
  | t :: ts => by simp only [substL, partsL, List.map_append, ren_parts hf t, ren_partsL hf ts]
end
mutual
theorem ren_depth {f : Nat → Option Tm} (hf : Ren f) : ∀ t, depth (subst f t) = depth t
  | .var k => by rw [subst_var hf]; rfl
  | .num i => rfl
  | .atm x => rfl
  | .cmp g as => by simp only [subst, depth, ren_depthL hf as]
theorem ren_depthL {f : Nat → Option Tm} (hf : Ren f) : ∀ ts, depthL (substL f ts) = depthL ts
  | [] => rfl
  | t :: ts => by simp only [substL, depthL, ren_depth hf t, ren_depthL hf ts]
end
mutual
theorem ren_wf {f : Nat → Option Tm} (hf : Ren f) : ∀ t, wf t → wf (subst f t)
  | .var k, _ => by rw [subst_var hf]; exact trivial
  | .num i, h => h
  | .atm x, h => h
  | .cmp g as, h => by
    refine ⟨h.1, fun z => h.2.1 ?_, by rw [substL_length]; exact h.2.2.1, ren_wfs hf as h.2.2.2⟩
    have := congrArg List.length z
    rw [substL_length] at this
    exact List.length_eq_zero_iff.mp this
theorem ren_wfs {f : Nat → Option Tm} (hf : Ren f) : ∀ ts, wfs ts → wfs (substL f ts)
  | [], _ => trivial
  | t :: ts, h => ⟨ren_wf hf t h.1, ren_wfs hf ts h.2⟩
end
theorem addV_map {φ : Nat → Nat} {f : Nat → Option Tm} (hf : Ren f) (t : Tm) (ks : List Nat) (hi : ∀ k, t = .var k → ∀ j ∈ ks, phi f j = phi f k → j = k) : addV (ks.map (phi f)) (subst f t) = (addV ks t).map (phi f) := by
  cases t with
  | var k =>
    rw [subst_var hf]
    simp only [addV, addN]
    by_cases h : k ∈ ks
    · rw [if_pos h, if_pos (List.mem_map.mpr ⟨k, h, rfl⟩)]
    · rw [if_neg h, if_neg]
      · simp
      · intro z
        obtain ⟨j, hj, e⟩ := List.mem_map.mp z
        exact h (hi k rfl j hj e ▸ hj)
  | _ => rfl
theorem addV_mem {ks : List Nat} {t : Tm} {j : Nat} (h : j ∈ ks) : j ∈ addV ks t := by
  cases t with
  | var k => simp only [addV, addN]; split; exact h; exact List.mem_append_left _ h
  | _ => exact h
theorem foldl_mem : ∀ (ps : List Tm) {ks : List Nat} {j : Nat}, j ∈ ks → j ∈ ps.foldl addV ks
  | [], _, _, h => h
  | t :: ps, _, _, h => foldl_mem ps (addV_mem h)
theorem foldl_var : ∀ {ps : List Tm} {ks : List Nat} {k : Nat}, Tm.var k ∈ ps → k ∈ ps.foldl addV ks
  | t :: ps, ks, k, h => by
    rcases List.mem_cons.mp h with rfl | h
    · refine foldl_mem ps ?_
      simp only [addV, addN]
      split
      · assumption
      · simp
    · exact foldl_var (ps := ps) h
theorem foldl_map {f : Nat → Option Tm} (hf : Ren f) (S : List Nat) (hi : ∀ a ∈ S, ∀ b ∈ S, phi f a = phi f b → a = b) : ∀ (ps : List Tm) (ks : List Nat), (∀ j ∈ ps.foldl addV ks, j ∈ S) → (ps.map (subst f)).foldl addV (ks.map (phi f)) = (ps.foldl addV ks).map (phi f)
  | [], ks, _ => rfl
  | t :: ps, ks, h => by
    rw [List.map_cons, List.foldl_cons, List.foldl_cons, addV_map (φ := phi f) hf t ks]
    · exact foldl_map hf S hi ps _ h
    · intro k hk j hj e
      subst hk
      refine hi j (h j (foldl_mem _ hj)) k (h k ?_) e
      exact foldl_var List.mem_cons_self
theorem vars_ren {f : Nat → Option Tm} (hf : Ren f) (ps : List Tm) (hi : ∀ a ∈ vars ps, ∀ b ∈ vars ps, phi f a = phi f b → a = b) : vars (ps.map (subst f)) = (vars ps).map (phi f) := foldl_map hf (vars ps) hi ps [] fun j h => h
theorem rn_ren (ks : List Nat) (first : Nat) : Ren (rn ks first) := by
  intro k t h
  unfold rn at h
  split at h
  · cases h; exact ⟨_, rfl⟩
  · cases h
theorem phi_rn {ks : List Nat} {k : Nat} (h : k ∈ ks) : phi (rn ks 0) k = ks.idxOf k := by
  unfold phi rn
  rw [if_pos h]
  simp
theorem map_idxOf : ∀ {ks : List Nat}, ks.Nodup → ks.map (fun k => ks.idxOf k) = List.range ks.length := by
  intro ks hn
  apply List.ext_getElem
  · simp
  · intro i h1 h2
    simp only [List.getElem_map, List.getElem_range]
    exact hn.idxOf_getElem i (by simpa using h1)
theorem vars_anew (t : Tm) : vars (parts (subst (rn (vars (parts t)) 0) t)) = List.range (vars (parts t)).length := by
  rw [ren_parts (rn_ren _ _), vars_ren (rn_ren _ _)]
  · rw [← map_idxOf (vars_nodup (parts t))]
    apply List.map_congr_left
    intro k hk
    exact phi_rn hk
  · intro a ha b hb e
    rw [phi_rn ha, phi_rn hb] at e
    have h1 := List.getElem_idxOf (List.idxOf_lt_length_of_mem ha)
    have h2 := List.getElem_idxOf (List.idxOf_lt_length_of_mem hb)
    rw [← h1, ← h2]
    simp only [e]
mutual
theorem subst_id {f : Nat → Option Tm} (h : ∀ k t, f k = some t → t = .var k) : ∀ t, subst f t = t
  | .var k => by
    simp only [subst]
    cases e : f k with
    | none => rfl
    | some t => exact h k t e
  | .num i => rfl
  | .atm x => rfl
  | .cmp g as => by simp only [subst, substL_id h as]
theorem substL_id {f : Nat → Option Tm} (h : ∀ k t, f k = some t → t = .var k) : ∀ ts, substL f ts = ts
  | [] => rfl
  | t :: ts => by simp only [substL, subst_id h t, substL_id h ts]
end
theorem anew_anew (t : Tm) : subst (rn (vars (parts (subst (rn (vars (parts t)) 0) t))) 0) (subst (rn (vars (parts t)) 0) t) = subst (rn (vars (parts t)) 0) t := by
  rw [vars_anew]
  apply subst_id
  intro k u h
  unfold rn at h
  split at h
  · rename_i hk
    cases h
    have := List.mem_range.mp hk
    have e : (List.range (vars (parts t)).length).idxOf k = k := by
      have hn : (List.range (vars (parts t)).length).Nodup := List.nodup_range
      have := hn.idxOf_getElem k (by simpa using this)
      simpa using this
    rw [e]
    simp
  · cases h
theorem atom_lay {x : Str} (h : atomOk x = true) : PyData.strOk x = true := by
  unfold atomOk at h
  rw [Bool.and_eq_true] at h
  unfold PyData.strOk
  rw [← Array.all_toList, List.all_eq_true]
  intro c hc
  have := List.all_eq_true.mp h.2 c hc
  simp only [signOk, decide_eq_true_eq] at this
  simp
  omega
mutual
theorem canLay_toD : ∀ (t : Tm), wf t → (toD t).canLay0 = true
  | .var k, _ => rfl
  | .num i, _ => rfl
  | .atm x, h => atom_lay h
  | .cmp f as, h => by
    simp only [toD, PyData.canLay0, PyData.canLayAll0, atom_lay h.1, canLay_toDs as h.2.2.2, Bool.and_self]
theorem canLay_toDs : ∀ (ts : List Tm), wfs ts → PyData.canLayAll0 (toDs ts) = true
  | [], _ => rfl
  | t :: ts, h => by simp only [toDs, PyData.canLayAll0, canLay_toD t h.1, canLay_toDs ts h.2, Bool.and_self]
end
end K1

namespace K1
open PySem PySem.Spec PyProof.Rows L2 HM
local macro_rules | `(tactic| walk_at "rd") => `(tactic| (dsimp only [tSeq, tNext, tRet, tRetN, tAsg, gName, gTup, gCons, gNil, gSub, tDrop, tIfS, tVar, tC, tOp, tUn, tTest, tB, tAnd, tOr, tNot, tAndV, tOrV, tNotV, tIf, tCB, tCons, tNil, tTup, tLst, tCall, tPar, tPar3, tAug, tSl, tPart, tNoPart, tBM, tBM0, tRevT, tRevL, tChain, sDPut, tDGet, tDGet1, tDGet2, tDNewK, tDNewT, tDIn, tDNotIn, tYes, wipe, cxOf, Cx.nox, Cx.wish, L2.start, rI0, rI, rU, ipI, List.length_cons, List.length_nil, List.map_cons, List.map_nil, List.replicate, List.cons_append, List.nil_append, List.append_nil, List.getElem?_cons_zero, List.getElem?_cons_succ, List.set_cons_zero, List.set_cons_succ, Nat.reduceAdd, Nat.reduceSub]; try simp only [List.map_cons, List.map_nil, List.append_nil, List.cons_append, List.nil_append, List.getElem?_cons_zero, List.getElem?_cons_succ, List.set_cons_zero, List.set_cons_succ, rIntI_eq, rIntB_eq, rAbs_eq, Option.some.injEq, V.int.injEq, V.bl.injEq, V.str.injEq, V.ref.injEq, exists_eq_left', exists_and_left, exists_eq', true_and, and_true, if_true, if_false, Bool.false_eq_true]))
local macro_rules | `(tactic| walk_at "r0") => `(tactic| (dsimp only [tSeq, tNext, tRet, tRetN, tAsg, gName, gTup, gCons, gNil, gSub, tDrop, tIfS, tVar, tC, tOp, tUn, tTest, tB, tAnd, tOr, tNot, tAndV, tOrV, tNotV, tIf, tCB, tCons, tNil, tCall, tPar, tPar3, tAug, tSl, tPart, tNoPart, tBM, tBM0, tRevT, tRevL, tChain, sDPut, tDGet, tDGet1, tDGet2, tDNewK, tDNewT, tDIn, tDNotIn, tYes, wipe, cxOf, Cx.nox, Cx.wish, L2.start, rI0, rI, rU, ipI, List.length_cons, List.length_nil, List.map_cons, List.map_nil, List.replicate, List.cons_append, List.nil_append, List.append_nil, List.getElem?_cons_zero, List.getElem?_cons_succ, List.set_cons_zero, List.set_cons_succ, Nat.reduceAdd, Nat.reduceSub]; try simp only [List.map_cons, List.map_nil, List.append_nil, List.cons_append, List.nil_append, List.getElem?_cons_zero, List.getElem?_cons_succ, List.set_cons_zero, List.set_cons_succ, rIntI_eq, rIntB_eq, rAbs_eq, Option.some.injEq, V.int.injEq, V.bl.injEq, V.str.injEq, V.ref.injEq, exists_eq_left', exists_and_left, exists_eq', true_and, and_true, if_true, if_false, Bool.false_eq_true]))
local macro_rules | `(tactic| walk_at "evd") => `(tactic| repeat (first | exact evds_nil | exact evd_int | exact evd_str | exact evd_bl | exact evd_non | exact evd_neg | apply evds_cons | apply evd_tup | apply evd_lst | (simp only [List.length_cons, List.length_nil]; omega)))
mutual
theorem depth_toD : ∀ (t : Tm), (toD t).depth ≤ depth t
  | .var k => by simp [toD, PyData.depth, PyData.depthAll, depth]
  | .num i => by simp [toD, PyData.depth]
  | .atm x => by simp [toD, PyData.depth]
  | .cmp f as => by
    have := depth_toDs as
    simp only [toD, PyData.depth, PyData.depthAll, depth]
    omega
theorem depth_toDs : ∀ (ts : List Tm), PyData.depthAll (toDs ts) ≤ depthL ts
  | [] => Nat.le_refl _
  | t :: ts => by
    have h1 := depth_toD t
    have h2 := depth_toDs ts
    simp only [toDs, PyData.depthAll, depthL]
    omega
end
section
variable {P : Program} {w : World} {K : PySem.W.Frag} {mg : Str → Option Value} {base : Heap}
def sp_lanew (K : PySem.W.Frag) (d : Nat) : Sp := fun vs H Q _ => ∃ v t, vs = [v, .int 0] ∧ Den K H v t ∧ wf t ∧ depth t ≤ d ∧ (parts t).length ≤ 50000 ∧ ∀ H' u, Same H H' → Den K H' u (subst (rn (vars (parts t)) 0) t) → Q u H'
theorem paired_of {α β : Type} {R : α → β → Prop} : ∀ {l : List α} {m : List β}, l.length = m.length → (∀ (i : Nat) a b, l[i]? = some a → m[i]? = some b → R a b) → Paired R l m
  | [], [], _, _ => .nil
  | [], _ :: _, h, _ => by cases h
  | _ :: _, [], h, _ => by cases h
  | a :: l, b :: m, h, g => .cons (g 0 a b rfl rfl) (paired_of (by simpa using h) fun i x y hx hy => g (i + 1) x y (by simpa using hx) (by simpa using hy))
theorem pairs_of {K : PySem.W.Frag} {H : Hp} {first : Nat} : ∀ {ks : List Nat} {ys : List V} (c : Nat), ys.length = ks.length → (∀ (m : Nat) y, ys[m]? = some y → ∃ q1 q2 k, ks[m]? = some k ∧ y = .ref q1 ∧ SqT K H q1 [.int (k : Nat), .ref q2] ∧ SqT K H q2 [.int ((first + (c + m) : Nat) : Int)]) →
    ∃ (ps : List Addr) (us : List V), ys = ps.map V.ref ∧ us.length = ks.length ∧ Paired (fun p kv => SqT K H p [kV kv.1, kv.2]) ps (kvz ks us) ∧ Dens K H us ((List.range ks.length).map fun i => Tm.var (first + (c + i)))
  | [], [], c, _, _ => ⟨[], [], rfl, rfl, .nil, .nil⟩
  | [], _ :: _, _, h, _ => by cases h
  | _ :: _, [], _, h, _ => by cases h
  | k :: ks, y :: ys, c, h, r => by
    obtain ⟨q1, q2, k', e1, rfl, s1, s2⟩ := r 0 y rfl
    cases e1
    obtain ⟨ps, us, rfl, hl, hp, hd⟩ := pairs_of (ks := ks) (ys := ys) (first := first) (c + 1) (by simpa using h) fun m y hy => by
      obtain ⟨q1, q2, k, h1, h2, h3, h4⟩ := r (m + 1) y (by simpa using hy)
      exact ⟨q1, q2, k, by simpa using h1, h2, h3, by rw [show c + 1 + m = c + (m + 1) by omega]; exact h4⟩
    refine ⟨q1 :: ps, .ref q2 :: us, rfl, by simp [hl], .cons s1 hp, ?_⟩
    rw [List.length_cons, List.range_succ_eq_map, List.map_cons, List.map_map]
    refine .cons (mk_var (by simpa using s2)) ?_
    have e : ((fun i => Tm.var (first + (c + i))) ∘ Nat.succ) = fun i => Tm.var (first + (c + 1 + i)) := by
      funext i
      show Tm.var (first + (c + (i + 1))) = _
      rw [show c + (i + 1) = c + 1 + i by omega]
    rw [e]
    exact hd
theorem ok_lanew (d : Nat) (B : Bf K mg) (G : GdD K mg "_law_anew" s__law_anew [.int 0]) (O__law_put : Okf P w K mg base "_law_put" (1 + d) ["_law_term_here", "_law_table"] [] (sp_lput K d)) (O__law_numbers : Okf P w K mg base "_law_numbers" ((1 + d) + 1) ["_law_term_here"] [] (sp_lnumbers K d)) : Okf P w K mg base "_law_anew" ((2 + d) + 1) ["_law_term_here", "_law_first"] [.int 0] (sp_lanew K d) := by
  refine okfD_mk 1 0 G sc__law_anew (by simp) rfl (fun T kV doc pm an cdv ct us its hu hi => ?_) (fun vs H Q E h => ?_) (fun cdv A outer s H vs Q E hr h => ?_)
  · match us, its, hu, hi with
    | [u], [i], _, _ => exact ⟨_, rfl, rfl⟩
  · obtain ⟨v, t, rfl, _⟩ := h
    rfl
  · obtain ⟨v, t, rfl, hd, hw, hdp, hz, q⟩ := h
    refine ⟨_, (pss_one (ps_ret (pe_callO O__law_put (hr.mono (by omega)) (by rfl) (pa_cons (pv 0) (pa_cons (pe_callTy (call_dictP rfl) (by rfl) B.b_dict (by decide +kernel) (pa_cons (pe_lc (own := [("_law_at", 2), ("_law_number", 3)]) (g := gTup _ 2 (gCons (gName 2) (gCons (gName 3) gNil))) (tt := tYes) rfl sc__law_anew.nd (pi_enum (by rfl) B.b_enumerate (pa_cons (pe_callO O__law_numbers (hr.mono (by omega)) (by rfl) (pa_cons (pv 0) pa_nil)) pa_nil)) (blkOk_by (own := [("_law_at", 2), ("_law_number", 3)]) (N := ["_law_term_here", "_law_first", "_law_at", "_law_number"]) (sc := defScope s__law_anew) (by decide +kernel)) (fun _ _ _ _ _ => (by exact (pg_tup rfl (pgs_cons (pg_name (i := 2) sc__law_anew.nd rfl (Or.inl rfl)) (pgs_cons (pg_name (i := 3) sc__law_anew.nd rfl (Or.inl rfl)) pgs_nil))))) (fun _ _ _ _ _ => pts_nil) (fun _ _ _ _ _ => (pe_tup (pa_cons (pv 3) (pa_cons (pe_tup (pa_cons (pe_op op_add (pv 1) (pv 2)) pa_nil)) pa_nil))))) pa_nil)) pa_nil))))), ?_⟩
    walk_at "rd"
    refine tlc_of ?_
    dsimp only [iEnum]
    walk_at "rd"
    refine ⟨v, t, rfl, hd, hw, hdp, hz, fun H1 p s1 n1 e1 => ⟨p, rfl, _, SqL.of e1, ?_⟩⟩
    have hnd := vars_nodup (parts t)
    have hvl : (vars (parts t)).length ≤ 50000 := by
      have := foldl_addV_len (parts t) []
      rw [List.length_nil, Nat.zero_add] at this
      unfold vars
      omega
    generalize hks : vars (parts t) = ks at *
    have hnl : (nV ks).length = ks.length := by unfold nV; rw [List.length_map]
    refine lc_e (xs := nV ks) (R := fun m y H6 => ∃ q1 q2 k, ks[m]? = some k ∧ y = .ref q1 ∧ SqT K H6 q1 [.int (k : Nat), .ref q2] ∧ SqT K H6 q2 [.int ((0 : Nat) + (m : Nat) : Nat)]) rfl (SqL.of e1) ?_ ?_ ?_ ?_
    · rw [hnl]
      exact Nat.le_trans hvl (by decide)
    · rintro m y H6 H7 tk ⟨q1, q2, k, h1, h2, h3, h4⟩
      exact ⟨q1, q2, k, h1, h2, tk.sqT h3, tk.sqT h4⟩
    · intro m x H6 k hx s6 kk
      have hm : m < ks.length := by rw [← hnl]; exact (List.getElem?_eq_some_iff.mp hx).1
      have hx2 : x = .int ((ks[m] : Nat) : Int) := by
        have : (nV ks)[m]? = some (.int ((ks[m] : Nat) : Int)) := by simp [nV, hm]
        rw [this] at hx
        exact (Option.some.inj hx).symm
      subst hx2
      walk_at "rd"
      refine ⟨(by show 1 ≤ sizeLine; decide), fun q2 n2 => ⟨(by show 2 ≤ sizeLine; decide), fun q1 n1 => kk _ _ ((same_upd n2).trans (same_upd n1)) ⟨q1, q2, ks[m], List.getElem?_eq_getElem hm, rfl, SqT.of upd_same, SqT.of ?_⟩⟩⟩
      rw [(same_upd n1) _ _ upd_same]
      simp
    · intro D H6 ys nD s6 eD ly r
      rw [hnl] at ly
      obtain ⟨ps, us, rfl, hul, hpd, hds⟩ := pairs_of (ks := ks) (ys := ys) (first := 0) 0 ly fun m y hy => by
        obtain ⟨q1, q2, k, h1, h2, h3, h4⟩ := r m y hy
        exact ⟨q1, q2, k, h1, h2, h3, by simpa using h4⟩
      have hds : Dens K H6 us (numd 0 ks.length) := by
        unfold numd
        simpa using hds
      refine ⟨D, rfl, ps, SqL.of eD, kvz ks us, hpd, fun pd nd => ?_⟩
      have s7 := (s1.trans s6).trans (same_upd (o := .dK (mergeK [] (kvz ks us))) nd)
      have tab := tab_look ks.length rfl hnd hul hds
      rw [look_numd] at tab
      exact ⟨v, t, pd, _, _, rfl, Dp.same s7 _ _ hd, hw, hdp, upd_same, tab.tk (Tk.of (same_upd nd)), fun H8 u s8 d8 => q H8 u (s7.trans s8) d8⟩
/-! ### _law_list_right -/
def spread (n : Nat) (k : Nat) : Nat := (k * 7) % n
/-- the list of k turns -/
def lterm (n : Nat) (rest : Tm) : Nat → Tm
  | 0 => rest
  | k + 1 => .cmp "." [.var (spread n k), lterm n rest k]
def lback (n : Nat) (r : List Nat) : Nat → List Nat
  | 0 => r
  | k + 1 => spread n k :: lback n r k
def isL0 (rest : Tm) : Prop := rest = .atm "[]" ∨ rest = .var 3 ∨ rest = .num 7
def r0 : Tm → List Nat | .var k => [k] | _ => []
theorem isL0_wf {t : Tm} (h : isL0 t) : wf t := by
  have tb := tg_big
  rcases h with rfl | rfl | rfl
  · show atomOk _ = true; decide +kernel
  · exact trivial
  · exact ⟨by omega, by omega⟩
theorem isL0_parts {t : Tm} (h : isL0 t) : parts t = [t] := by rcases h with rfl | rfl | rfl <;> rfl
theorem isL0_depth {t : Tm} (h : isL0 t) : depth t = 1 := by rcases h with rfl | rfl | rfl <;> rfl
theorem lterm_wf {n : Nat} {rest : Tm} (h : isL0 rest) : ∀ k, wf (lterm n rest k)
  | 0 => isL0_wf h
  | k + 1 => ⟨by decide +kernel, by simp, by simp, trivial, lterm_wf h k, trivial⟩
theorem lterm_size {n : Nat} {rest : Tm} (h : isL0 rest) : ∀ k, (parts (lterm n rest k)).length = 2 * k + 1
  | 0 => by simp [lterm, isL0_parts h]
  | k + 1 => by
    have := lterm_size (n := n) h k
    simp [lterm, parts, partsL, this]
    omega
theorem lterm_depth {n : Nat} {rest : Tm} (h : isL0 rest) : ∀ k, depth (lterm n rest k) = k + 1
  | 0 => by simp [lterm, isL0_depth h]
  | k + 1 => by
    have := lterm_depth (n := n) h k
    simp only [lterm, depth, depthL, this]
    omega
theorem foldl_lterm {n : Nat} {rest : Tm} (h : isL0 rest) : ∀ k ks, (parts (lterm n rest k)).foldl addV ks = (lback n (r0 rest) k).foldl addN ks
  | 0, ks => by
    simp only [lterm, isL0_parts h, lback]
    rcases h with rfl | rfl | rfl <;> rfl
  | k + 1, ks => by
    simp only [lterm, parts, partsL, List.append_nil, lback, List.foldl_cons]
    show (parts (lterm n rest k)).foldl addV (addN ks (spread n k)) = _
    exact foldl_lterm h k _
theorem lback_len (n : Nat) (r : List Nat) : ∀ k, (lback n r k).length = r.length + k
  | 0 => rfl
  | k + 1 => by simp [lback, lback_len n r k]; omega
theorem foldl_addN_len : ∀ (ps : List Nat) (ks : List Nat), (ps.foldl addN ks).length ≤ ks.length + ps.length
  | [], ks => by simp
  | t :: ps, ks => by
    have h1 : (addN ks t).length ≤ ks.length + 1 := by unfold addN; split <;> simp
    have h2 := foldl_addN_len ps (addN ks t)
    simp only [List.foldl_cons, List.length_cons]
    omega
def nD (ks : List Nat) : List PyData := ks.map fun (k : Nat) => PyData.int (k : Int)
theorem dp_nV {K : PySem.W.Frag} {H : Hp} : ∀ ks : List Nat, DpAll K H (nV ks) (nD ks)
  | [] => .nil
  | k :: ks => .cons (.int k) (dp_nV ks)
theorem dp_nL {K : PySem.W.Frag} {H : Hp} {p : Addr} {ks : List Nat} (e : H p = some (.lst (nV ks))) : Dp K H (.ref p) (.list (nD ks)) := .lst (SqL.of e) (dp_nV ks)
theorem lay_nD : ∀ ks : List Nat, PyData.canLayAll0 (nD ks) = true
  | [] => rfl
  | k :: ks => by
    show (PyData.canLay0 (.int k) && PyData.canLayAll0 (nD ks)) = true
    rw [lay_nD ks]; rfl
theorem depth_nD : ∀ ks : List Nat, PyData.depthAll (nD ks) = 0
  | [] => rfl
  | k :: ks => by
    show max (PyData.depth (.int k)) (PyData.depthAll (nD ks)) = 0
    rw [depth_nD ks]; rfl
/-- two lists of numbers that are the same -/
theorem neNums {K : PySem.W.Frag} {H : Hp} {Q : VK} {p p2 : Addr} {ks : List Nat} (e : H p = some (.lst (nV ks))) (e2 : H p2 = some (.lst (nV ks))) (q : Q (.bl false) H) : rNeM K (.ref p) (.ref p2) H Q :=
  ⟨_, _, dp_nL e, dp_nL e2, lay_nD ks, lay_nD ks, by simp only [PyData.depth, depth_nD]; omega, by rw [SeqAt.eqv_refl _ (show PyData.canLay0 (.list (nD ks)) = true from lay_nD ks)]; exact q⟩
/-- the same term twice -/
theorem neTerm {K : PySem.W.Frag} {H : Hp} {Q : VK} {u v : V} {t : Tm} (hw : wf t) (hd : depth t ≤ 64) (d1 : Den K H u t) (d2 : Den K H v t) (q : Q (.bl false) H) : rNeM K u v H Q :=
  ⟨_, _, d1, d2, canLay_toD t hw, canLay_toD t hw, by have := depth_toD t; omega, by rw [SeqAt.eqv_refl _ (canLay_toD t hw)]; exact q⟩
def sp_llist (K : PySem.W.Frag) : Sp := fun vs H Q _ => ∃ wl, vs = [.ref wl] ∧ Well H wl ∧ ∀ H', Sm (Mw wl) H H' → Well H' wl → Q (.bl true) H'
theorem ok_llist (B : Bf K mg) (G : Gd K mg "_law_list_right" s__law_list_right) (O__law_draw : Okf P w K mg base "_law_draw" 1 ["_law_well_here", "_law_many"] [] (sp_draw K)) (O__law_one : Okf P w K mg base "_law_one" 2 ["_law_well_here", "_law_some"] [] (sp_one K))
    (O_variables_of : Okf P w K mg base "variables_of" 5 ["term"] [] (sp_variables_of K)) (O_is_term : Okf P w K mg base "is_term" 3 ["thing"] [] (sp_is_term K)) (O_size_of : Okf P w K mg base "size_of" 5 ["term"] [] (sp_size_of K)) (O_depth_of : Okf P w K mg base "depth_of" 5 ["term"] [] (sp_depth_of K)) :
    Okf P w K mg base "_law_list_right" 6 ["_law_well_here"] [] (sp_llist K) := by
  refine okf_mk G sc__law_list_right (fun _ _ _ _ _ _ us hl => match us, hl with | [_], _ => rfl) (fun vs H Q E h => ?_) (fun cdv A outer s H vs Q E hr h => ?_)
  · obtain ⟨wl, rfl, _⟩ := h
    rfl
  · obtain ⟨wl, rfl, hw, q⟩ := h
    refine ⟨_, (pss_cons (ps_par3 (by rfl) sc__law_list_right.nd (i := 1) (j := 2) (l := 3) rfl rfl rfl (by decide) (by decide) (by decide) rfl rfl rfl (pa_cons (pe_callO O__law_draw (hr.mono (by decide)) (by rfl) (pa_cons (pv 0) (pa_cons pe_int pa_nil))) (pa_cons (pe_op op_add pe_int (pe_callO O__law_draw (hr.mono (by decide)) (by rfl) (pa_cons (pv 0) (pa_cons pe_int pa_nil)))) (pa_cons (pe_callO O__law_one (hr.mono (by decide)) (by rfl) (pa_cons (pv 0) (pa_cons (pe_lst (pa_cons pe_str (pa_cons (pe_tup (pa_cons pe_int pa_nil)) (pa_cons pe_int pa_nil)))) pa_nil))) pa_nil))) (by rfl))
      (pss_cons (ps_par3 (by rfl) sc__law_list_right.nd (i := 4) (j := 5) (l := 6) rfl rfl rfl (by decide) (by decide) (by decide) rfl rfl rfl (pa_cons (pv 3) (pa_cons (pe_op op_rep (pe_lst (pa_cons pe_int pa_nil)) (pe_callTy call_intB (by rfl) B.b_int (by decide +kernel) (pa_cons (pe_cmpR (op_eqM hr.units) (pv 3) (pe_tup (pa_cons pe_int pa_nil)) (nomark _)) pa_nil))) (pa_cons (pe_lst pa_nil) pa_nil))) (by rfl))
      (pss_cons (ps_for PassesOwn.never rfl (pi_range1 (by rfl) B.b_range (pa_cons (pv 1) pa_nil)) (pg_name (i := 7) sc__law_list_right.nd rfl (Or.inl rfl))
      (pss_cons (ps_set (i := 4) sc__law_list_right.nd rfl (Or.inl rfl) (pe_tup (pa_cons pe_str (pa_cons (pe_tup (pa_cons (pe_op op_mod (pe_callTy call_intI (by rfl) B.b_int (by decide +kernel) (pa_cons (pe_op op_mul (pv 7) pe_int) pa_nil)) (pv 2)) pa_nil)) (pa_cons (pv 4) pa_nil)))))
      (pss_one (ps_set (i := 5) sc__law_list_right.nd rfl (Or.inl rfl) (pe_op op_cat (pe_lst (pa_cons (pe_op op_mod (pe_callTy call_intI (by rfl) B.b_int (by decide +kernel) (pa_cons (pe_op op_mul (pv 7) pe_int) pa_nil)) (pv 2)) pa_nil)) (pv 5))))))
      (pss_cons (ps_for PassesOwn.never rfl (pi_list (pv 5)) (pg_name (i := 8) sc__law_list_right.nd rfl (Or.inl rfl))
      (pss_one (ps_if (pt_cmpR op_notIn_seq (pv 8) (pv 6) rfl)
        (pss_one (ps_expr (pe_bm PySem.F.plainAttrs_list PySem.F.slot_list_append PySem.F.type_list_append mt_append (pv 6) (pa_cons (pv 8) pa_nil))))
        pss_nil)))
      (pss_cons (ps_if (PW.pt (pw_or (pt_cmpR (op_neM hr.units) (pe_callO O_variables_of (hr.mono (by decide)) (by rfl) (pa_cons (pv 4) pa_nil)) (pv 6) (nomark _)) (pw_or1 (pt_not (pt_val (pe_callO O_is_term (hr.mono (by decide)) (by rfl) (pa_cons (pv 4) pa_nil)))))))
        (pss_one (ps_ret pe_bl))
        pss_nil)
      (pss_one (ps_ret (pe_and (pe_cmpR op_eq (pe_callO O_size_of (hr.mono (by decide)) (by rfl) (pa_cons (pv 4) pa_nil)) (pe_op op_add (pe_op op_mul pe_int (pv 1)) pe_int) (nomark _)) (pe_one (pe_cmpR op_eq (pe_callO O_depth_of (hr.mono (by decide)) (by rfl) (pa_cons (pv 4) pa_nil)) (pe_op op_add (pv 1) pe_int) (nomark _))))))))))), ?_⟩
    walk_at "r0"
    refine ⟨wl, 291, rfl, hw, by decide, by decide, fun H1 m m0 m1 s1 w1 => ⟨wl, 50, rfl, w1, by decide, by decide, fun H2 sp p0 p1 s2 w2 => ⟨_, rfl, ?_⟩⟩⟩
    apply evl_use (K := K)
    · walk_at "evd"
    · simp
    intro pl H3 vs s3 np e3 d3
    have plw : pl ≠ wl := by obtain ⟨_, _, _, e⟩ := w2; exact (ne_of_none e np).symm
    have w3 := w2.same s3
    refine ⟨wl, pl, vs, rfl, w3, SqL.of e3, plw, ?_, ?_, fun H4 x hx s4 w4 => ?_⟩
    · intro z
      have := DpAll.length d3
      rw [z] at this
      cases this
    · rw [DpAll.length d3]
      simp
    obtain ⟨rest, hr0, dr⟩ : ∃ rest, isL0 rest ∧ Den K H4 x rest := by
      obtain ⟨e, he, hd⟩ := DpAll.mem d3 hx
      have tk4 := w3.tk s4
      simp only [List.mem_cons, List.not_mem_nil, or_false] at he
      rcases he with rfl | rfl | rfl
      · exact ⟨.atm "[]", .inl rfl, Dp.tk tk4 _ _ rfl hd⟩
      · exact ⟨.var 3, .inr (.inl rfl), Dp.tk tk4 _ _ rfl hd⟩
      · exact ⟨.num 7, .inr (.inr rfl), Dp.tk tk4 _ _ rfl hd⟩
    walk_at "rd"
    refine ⟨_, _, _, rfl, (by show 1 ≤ sizeLine; decide), fun pa na => ⟨(by show 1 ≤ sizeLine; decide), fun pt nt => ?_⟩⟩
    have S5 := (same_upd (o := .lst [.int 3]) na).trans (same_upd (o := .tup [.int 3]) nt)
    have ea : upd (upd H4 pa (.lst [.int 3])) pt (.tup [.int 3]) pa = some (.lst [.int 3]) := (same_upd nt) _ _ upd_same
    have et : upd (upd H4 pa (.lst [.int 3])) pt (.tup [.int 3]) pt = some (.tup [.int 3]) := upd_same
    generalize upd (upd H4 pa (.lst [.int 3])) pt (.tup [.int 3]) = H5 at S5 ea et ⊢
    have dr5 := Dp.same S5 _ _ dr
    have w5 := w4.same S5
    refine ⟨toD rest, .tuple [.int 3], dr5, .tup (SqT.of et) (.cons (.int 3) .nil), canLay_toD _ (isL0_wf hr0), rfl, by have := depth_toD rest; rw [isL0_depth hr0] at this; omega, ?_⟩
    have hb : PyData.eqv (toD rest) (.tuple [.int 3]) = decide (r0 rest ≠ []) := by rcases hr0 with rfl | rfl | rfl <;> decide +kernel
    rw [hb]
    refine ⟨_, rfl, pa, _, [.int 3], rfl, rfl, ea, ?_, ?_, ?_, fun pb nb => ?_⟩
    · split <;> decide
    · split <;> decide
    · exact Nat.le_trans (show _ ≤ 1 by split <;> decide) (by decide)
    have hbk : (List.replicate (Int.toNat (if decide (r0 rest ≠ []) = true then 1 else 0)) [V.int 3]).flatten = nV (lback (1 + sp).toNat (r0 rest) 0) := by rcases hr0 with rfl | rfl | rfl <;> rfl
    rw [hbk]
    refine ⟨Nat.zero_le _, fun pd nd => ⟨_, _, _, rfl, ?_⟩⟩
    have S6 := (same_upd (o := .lst (nV (lback (1 + sp).toNat (r0 rest) 0))) nb).trans (same_upd (o := .lst []) nd)
    have eb6 : upd (upd H5 pb (.lst (nV (lback (1 + sp).toNat (r0 rest) 0)))) pd (.lst []) pb = some (.lst (nV (lback (1 + sp).toNat (r0 rest) 0))) := (same_upd nd) _ _ upd_same
    have ed6 : upd (upd H5 pb (.lst (nV (lback (1 + sp).toNat (r0 rest) 0)))) pd (.lst []) pd = some (.lst []) := upd_same
    have nbd0 : pb ≠ pd := ne_of_none upd_same nd
    have smH5 : Sm (Mw wl) H H5 := (((s1.trans s2).trans (Sm.of s3)).trans s4).trans (Sm.of S5)
    have npd : ∀ b u, ¬ Mw wl b → H b = some u → b ≠ pd := fun b u nw e => ne_of_none ((same_upd (o := .lst (nV (lback (1 + sp).toNat (r0 rest) 0))) nb) _ _ (smH5 b u nw e)) nd
    generalize upd (upd H5 pb (.lst (nV (lback (1 + sp).toNat (r0 rest) 0)))) pd (.lst []) = H6 at S6 eb6 ed6 ⊢
    have w6 := w5.same S6
    have dr6 := Dp.same S6 _ _ dr5
    have hn : ((1 + sp).toNat : Int) = 1 + sp := by omega
    generalize hgn : (1 + sp).toNat = n at *
    have hrl : (r0 rest).length ≤ 1 := by rcases hr0 with rfl | rfl | rfl <;> decide
    refine tfor_of ⟨_, rfl, m, rfl, by omega, by omega, for_r (n := m.toNat) (fun i σ H7 => ∃ fv bk z7, σ = [some (.ref wl), some (.int m), some (.int (1 + sp)), some x, some fv, some (.ref bk), some (.ref pd), z7, none] ∧ Same H6 H7 ∧ bk ≠ pd ∧ H7 bk = some (.lst (nV (lback n (r0 rest) i))) ∧ Den K H7 fv (lterm n rest i))
      ⟨x, pb, none, rfl, Same.refl _, nbd0, eb6, dr6⟩ ?_ ?_⟩
    · rintro i σ H7 hi ⟨fv, bk, z7, rfl, s7, nbd, ebk, dfv⟩
      have hmod : ((0 + (i : Nat) : Int) * 7) % (1 + sp) = ((spread n i : Nat) : Int) := by
        unfold spread
        rw [← hn]
        simp
      walk_at "rd"
      rw [hmod]
      refine ⟨.inr ⟨by decide, by decide⟩, by omega, (by show 1 ≤ sizeLine; decide), fun q1 n1 => ⟨(by show 3 ≤ sizeLine; decide), fun q2 n2 => ⟨.inr ⟨by decide, by decide⟩, by omega, (by show 1 ≤ sizeLine; decide), fun q3 n3 => ?_⟩⟩⟩
      have S8 := ((same_upd (o := .tup [.int ((spread n i : Nat) : Int)]) n1).trans (same_upd (o := .tup [.str ".", .ref q1, fv]) n2))
      have S9 := S8.trans (same_upd (o := .lst [.int ((spread n i : Nat) : Int)]) n3)
      refine ⟨q3, bk, _, _, rfl, rfl, upd_same, S9 _ _ ebk, ?_, fun q4 n4 => ?_⟩
      · have := lback_len n (r0 rest) i
        exact Nat.le_trans (show _ ≤ 1000 by simp only [nV, List.length_map, List.length_cons, List.length_nil]; omega) (by decide)
      · have S10 := S9.trans (same_upd (o := .lst ([.int ((spread n i : Nat) : Int)] ++ nV (lback n (r0 rest) i))) n4)
        refine ⟨.ref q2, q4, _, rfl, s7.trans S10, (ne_of_none (S9 _ _ (s7 _ _ ed6)) n4).symm, upd_same, ?_⟩
        have e2 : SqT K _ q2 [.str ".", .ref q1, fv] := SqT.of (((same_upd (o := .lst [.int ((spread n i : Nat) : Int)]) n3).trans (same_upd (o := .lst ([.int ((spread n i : Nat) : Int)] ++ nV (lback n (r0 rest) i))) n4)) _ _ upd_same)
        have e1 : SqT K _ q1 [.int ((spread n i : Nat) : Int)] := SqT.of (((same_upd (o := .tup [.str ".", .ref q1, fv]) n2).trans ((same_upd (o := .lst [.int ((spread n i : Nat) : Int)]) n3).trans (same_upd (o := .lst ([.int ((spread n i : Nat) : Int)] ++ nV (lback n (r0 rest) i))) n4))) _ _ upd_same)
        exact mk_cmp e2 (.cons (mk_var e1) (.cons (Dp.same S10 _ _ dfv) .nil))
    · rintro σ H7 ⟨fv, bk, z7, rfl, s7, nbd, ebk, dfv⟩
      have ed7 := s7 _ _ ed6
      have w7 := w6.same s7
      walk_at "rd"
      refine tfor_of ⟨_, rfl, bk, rfl, ⟨_, SqL.of ebk⟩, for_l (xs := nV (lback n (r0 rest) m.toNat)) (fun j σ H8 => ∃ z8, σ = [some (.ref wl), some (.int m), some (.int (1 + sp)), some x, some fv, some (.ref bk), some (.ref pd), z7, z8] ∧ Sm (· = pd) H7 H8 ∧ H8 pd = some (.lst (nV (((lback n (r0 rest) m.toNat).take j).foldl addN []))))
        ⟨none, rfl, Sm.refl _, by rw [List.take_zero]; exact ed7⟩ (fun j σ H8 _ ⟨_, _, s8, _⟩ => s8.sqL nbd (SqL.of ebk)) ?_ ?_⟩
      · rintro j y σ H8 hj ⟨z8, rfl, s8, e8⟩
        have hj2 : j < (lback n (r0 rest) m.toNat).length := by
          have := (List.getElem?_eq_some_iff.mp hj).1
          simpa [nV] using this
        have hy : y = .int (((lback n (r0 rest) m.toNat)[j] : Nat) : Int) := by
          have : (nV (lback n (r0 rest) m.toNat))[j]? = some (.int (((lback n (r0 rest) m.toNat)[j] : Nat) : Int)) := by simp [nV, hj2]
          rw [this] at hj
          exact (Option.some.inj hj).symm
        subst hy
        have hlen : (((lback n (r0 rest) m.toNat).take j).foldl addN []).length ≤ 1000 := by
          have h1 := foldl_addN_len ((lback n (r0 rest) m.toNat).take j) []
          have h2 := lback_len n (r0 rest) m.toNat
          rw [List.length_take, List.length_nil] at h1
          omega
        walk_at "rd"
        refine ⟨pd, _, rfl, .inl (SqL.of e8), rfl, flat_nV _, _, rfl, ?_⟩
        rw [in_nV, take_succ (List.getElem?_eq_getElem hj2), List.foldl_append, List.foldl_cons, List.foldl_nil]
        unfold addN
        by_cases hk : (lback n (r0 rest) m.toNat)[j] ∈ ((lback n (r0 rest) m.toNat).take j).foldl addN []
        · unfold addN at hk
          rw [if_pos hk, decide_eq_true hk]
          exact iteF ⟨_, rfl, s8, e8⟩
        · unfold addN at hk
          rw [if_neg hk, decide_eq_false hk]
          refine iteT ⟨tyL e8, appR e8 (Nat.lt_of_le_of_lt (show _ ≤ 1000 by unfold nV; rw [List.length_map]; exact hlen) (by decide)) ⟨_, rfl, s8.at rfl, ?_⟩⟩
          rw [upd_same]
          unfold nV
          rw [List.map_append]
          rfl
      · rintro σ H8 ⟨z8, rfl, s8, e8⟩
        rw [show (nV (lback n (r0 rest) m.toNat)).length = (lback n (r0 rest) m.toNat).length by simp [nV], List.take_length] at e8
        have tk8 : Tk H7 H8 := Tk.sm s8 fun b o mm e => by subst mm; rw [ed7] at e; cases e; exact fun f => f
        have df8 := Dp.tk tk8 _ _ (noL_toD _) dfv
        have w8 : Well H8 wl := by
          obtain ⟨xa, ya, za, e⟩ := w7
          refine ⟨xa, ya, za, s8 _ _ ?_ e⟩
          intro z
          rw [show wl = pd from z, ed7] at e
          cases e
        have sm8 : Sm (Mw wl) H H8 := fun b u nw e => s8 b u (npd b u nw e) (s7 _ _ (S6 _ _ (smH5 b u nw e)))
        have hwl := lterm_wf (n := n) hr0 m.toNat
        have hsz := lterm_size (n := n) hr0 m.toNat
        have hdp := lterm_depth (n := n) hr0 m.toNat
        have hfl := foldl_lterm (n := n) hr0 m.toNat []
        walk_at "rd"
        refine ⟨fv, _, rfl, df8, hwl, by omega, fun H9 p9 s9 n9 e9 => ?_⟩
        unfold vars at e9
        rw [hfl] at e9
        refine neNums e9 (s9 _ _ e8) ⟨_, rfl, iteF ?_⟩
        refine ⟨fv, _, rfl, Dp.same s9 _ _ df8, wf_sm _ hwl, by have := sz_toD (lterm n rest m.toNat); omega, fun H10 s10 => ⟨_, rfl, ?_⟩⟩
        rw [wf_isTerm _ hwl]
        refine iteF ⟨fv, _, rfl, Dp.same (s9.trans s10) _ _ df8, hwl, by omega, fun H11 s11 => ⟨.inl ⟨by decide, by decide⟩, eqI ⟨_, rfl, ?_⟩⟩⟩
        rw [hsz, decide_eq_true (by omega)]
        refine iteT ⟨fv, _, rfl, Dp.same ((s9.trans s10).trans s11) _ _ df8, hwl, by omega, fun H12 s12 => eqI (q_bl ?_ (q H12 (sm8.trans (Sm.of (((s9.trans s10).trans s11).trans s12))) (w8.same (((s9.trans s10).trans s11).trans s12))))⟩
        rw [hdp, decide_eq_true (by omega)]
end
end K1

namespace K1
open PySem PySem.Spec PyProof.Rows L2 HM
local macro_rules | `(tactic| walk_at "rd") => `(tactic| (dsimp only [tSeq, tNext, tRet, tRetN, tAsg, gName, gTup, gCons, gNil, gSub, tDrop, tIfS, tVar, tC, tOp, tUn, tTest, tB, tAnd, tOr, tNot, tAndV, tOrV, tNotV, tIf, tCB, tCons, tNil, tTup, tLst, tCall, tPar, tPar3, tAug, tSl, tPart, tNoPart, tBM, tBM0, tRevT, tRevL, tChain, sDPut, tDGet, tDGet1, tDGet2, tDNewK, tDNewT, tDIn, tDNotIn, tYes, wipe, cxOf, Cx.nox, Cx.wish, L2.start, rI0, rI, rU, ipI, List.length_cons, List.length_nil, List.map_cons, List.map_nil, List.replicate, List.cons_append, List.nil_append, List.append_nil, List.getElem?_cons_zero, List.getElem?_cons_succ, List.set_cons_zero, List.set_cons_succ, Nat.reduceAdd, Nat.reduceSub]; try simp only [List.map_cons, List.map_nil, List.append_nil, List.cons_append, List.nil_append, List.getElem?_cons_zero, List.getElem?_cons_succ, List.set_cons_zero, List.set_cons_succ, rIntI_eq, rIntB_eq, rAbs_eq, Option.some.injEq, V.int.injEq, V.bl.injEq, V.str.injEq, V.ref.injEq, exists_eq_left', exists_and_left, exists_eq', true_and, and_true, if_true, if_false, Bool.false_eq_true]))
local macro_rules | `(tactic| walk_at "r0") => `(tactic| (dsimp only [tSeq, tNext, tRet, tRetN, tAsg, gName, gTup, gCons, gNil, gSub, tDrop, tIfS, tVar, tC, tOp, tUn, tTest, tB, tAnd, tOr, tNot, tAndV, tOrV, tNotV, tIf, tCB, tCons, tNil, tCall, tPar, tPar3, tAug, tSl, tPart, tNoPart, tBM, tBM0, tRevT, tRevL, tChain, sDPut, tDGet, tDGet1, tDGet2, tDNewK, tDNewT, tDIn, tDNotIn, tYes, wipe, cxOf, Cx.nox, Cx.wish, L2.start, rI0, rI, rU, ipI, List.length_cons, List.length_nil, List.map_cons, List.map_nil, List.replicate, List.cons_append, List.nil_append, List.append_nil, List.getElem?_cons_zero, List.getElem?_cons_succ, List.set_cons_zero, List.set_cons_succ, Nat.reduceAdd, Nat.reduceSub]; try simp only [List.map_cons, List.map_nil, List.append_nil, List.cons_append, List.nil_append, List.getElem?_cons_zero, List.getElem?_cons_succ, List.set_cons_zero, List.set_cons_succ, rIntI_eq, rIntB_eq, rAbs_eq, Option.some.injEq, V.int.injEq, V.bl.injEq, V.str.injEq, V.ref.injEq, exists_eq_left', exists_and_left, exists_eq', true_and, and_true, if_true, if_false, Bool.false_eq_true]))
local macro_rules | `(tactic| walk_at "evd") => `(tactic| repeat (first | exact evds_nil | exact evd_int | exact evd_str | exact evd_bl | exact evd_non | exact evd_neg | apply evds_cons | apply evd_tup | apply evd_lst | (simp only [List.length_cons, List.length_nil]; omega)))
theorem pairs_gen {K : PySem.W.Frag} {H : Hp} : ∀ {ks js : List Nat} {ys : List V}, ys.length = ks.length → js.length = ks.length → (∀ (m : Nat) y, ys[m]? = some y → ∃ q1 q2 k j, ks[m]? = some k ∧ js[m]? = some j ∧ y = .ref q1 ∧ SqT K H q1 [.int (k : Nat), .ref q2] ∧ SqT K H q2 [.int (j : Nat)]) →
    ∃ (ps : List Addr) (us : List V), ys = ps.map V.ref ∧ us.length = ks.length ∧ Paired (fun p kv => SqT K H p [kV kv.1, kv.2]) ps (kvz ks us) ∧ Dens K H us (js.map Tm.var)
  | [], [], [], _, _, _ => ⟨[], [], rfl, rfl, .nil, .nil⟩
  | [], _, _ :: _, h, _, _ => by cases h
  | [], _ :: _, _, _, h, _ => by cases h
  | _ :: _, _, [], h, _, _ => by cases h
  | _ :: _, [], _, _, h, _ => by cases h
  | k :: ks, j :: js, y :: ys, h, hj, r => by
    obtain ⟨q1, q2, k', j', e1, e2, rfl, s1, s2⟩ := r 0 y rfl
    cases e1
    cases e2
    obtain ⟨ps, us, rfl, hl, hp, hd⟩ := pairs_gen (ks := ks) (js := js) (ys := ys) (by simpa using h) (by simpa using hj) fun m y hy => by
      obtain ⟨q1, q2, k, j, h1, h0, h2, h3, h4⟩ := r (m + 1) y (by simpa using hy)
      exact ⟨q1, q2, k, j, by simpa using h1, by simpa using h0, h2, h3, h4⟩
    exact ⟨q1 :: ps, .ref q2 :: us, rfl, by simp [hl], .cons s1 hp, .cons (mk_var s2) hd⟩
def sprd : List Nat := [0, 1, 5, 1000000000000000000000000000000, 3, 2]
def lk : Nat → Option Tm := look (List.range 6) (sprd.map Tm.var)
theorem lk_ren : Ren lk := by
  intro k t h
  unfold lk look at h
  split at h
  · rw [List.getElem?_map] at h
    obtain ⟨j, _, e⟩ := Option.map_eq_some_iff.mp h
    exact ⟨j, e.symm⟩
  · cases h
section
variable {P : Program} {w : World} {K : PySem.W.Frag} {mg : Str → Option Value} {base : Heap}
def sp_right (K : PySem.W.Frag) : Sp := fun vs H Q _ => ∃ wl, vs = [.ref wl] ∧ Well H wl ∧ ∀ H', Sm (Mw wl) H H' → Well H' wl → Q (.bl true) H'
theorem ok_right (B : Bf K mg) (G : Gd K mg "_law_right" s__law_right) (O__law_term : Okf P w K mg base "_law_term" 8 ["_law_well_here", "_law_deep", "_law_many"] [] (sp_term K 5)) (O__law_put : Okf P w K mg base "_law_put" 6 ["_law_term_here", "_law_table"] [] (sp_lput K 5))
    (O_is_term : Okf P w K mg base "is_term" 3 ["thing"] [] (sp_is_term K)) (O_size_of : Okf P w K mg base "size_of" 5 ["term"] [] (sp_size_of K)) (O_depth_of : Okf P w K mg base "depth_of" 5 ["term"] [] (sp_depth_of K))
    (O_variables_of : Okf P w K mg base "variables_of" 5 ["term"] [] (sp_variables_of K)) (O_renumbered : Okf P w K mg base "renumbered" 5 ["term"] [] (sp_renumbered K))
    (O__law_parts : Okf P w K mg base "_law_parts" 6 ["_law_term_here"] [] (sp_lparts K 5)) (O__law_depth : Okf P w K mg base "_law_depth" 6 ["_law_term_here"] [] (sp_ldepth K 5)) (O__law_numbers : Okf P w K mg base "_law_numbers" 7 ["_law_term_here"] [] (sp_lnumbers K 5))
    (O__law_anew : Okf P w K mg base "_law_anew" 8 ["_law_term_here", "_law_first"] [.int 0] (sp_lanew K 5)) (O__law_list_right : Okf P w K mg base "_law_list_right" 6 ["_law_well_here"] [] (sp_llist K)) :
    Okf P w K mg base "_law_right" 9 ["_law_well_here"] [] (sp_right K) := by
  refine okf_mk G sc__law_right (fun _ _ _ _ _ _ us hl => match us, hl with | [_], _ => rfl) (fun vs H Q E h => ?_) (fun cdv A outer s H vs Q E hr h => ?_)
  · obtain ⟨wl, rfl, _⟩ := h
    rfl
  · obtain ⟨wl, rfl, hw, q⟩ := h
    refine ⟨_, (pss_cons (ps_set (i := 1) sc__law_right.nd rfl (Or.inr rfl) (pe_lst (pa_cons pe_int (pa_cons pe_int (pa_cons pe_int (pa_cons (pe_op op_pow pe_int pe_int) (pa_cons pe_int (pa_cons pe_int pa_nil))))))))
      (pss_cons (ps_set (i := 2) sc__law_right.nd rfl (Or.inl rfl) (pe_callO O__law_put (hr.mono (by decide)) (by rfl) (pa_cons (pe_callO O__law_term (hr.mono (by decide)) (by rfl) (pa_cons (pv 0) (pa_cons pe_int (pa_cons pe_int pa_nil)))) (pa_cons (pe_callTy (call_dictP rfl) (by rfl) B.b_dict (by decide +kernel) (pa_cons (pe_lc (own := [("_law_k", 4)]) (g := gName 4) (tt := tYes) rfl sc__law_right.nd (pi_range1 (by rfl) B.b_range (pa_cons pe_int pa_nil)) (blkOk_by (own := [("_law_k", 4)]) (N := ["_law_well_here", "_law_spread", "_law_term_here", "_law_due", "_law_k"]) (sc := defScope s__law_right) (by decide +kernel)) (fun _ _ _ _ _ => (pg_name (i := 4) sc__law_right.nd rfl (Or.inl rfl))) (fun _ _ _ _ _ => pts_nil) (fun _ _ _ _ _ => (pe_tup (pa_cons (pv 4) (pa_cons (pe_tup (pa_cons (pe_ix (show IxR _ (rIxL K) from ix_list) (pv 1) (pv 4) (fun _ _ => rfl)) pa_nil)) pa_nil))))) pa_nil)) pa_nil))))
      (pss_cons (ps_if (PW.pt (pw_or (pt_not (pt_val (pe_callO O_is_term (hr.mono (by decide)) (by rfl) (pa_cons (pv 2) pa_nil)))) (pw_or (pt_cmpR op_ne (pe_callO O_size_of (hr.mono (by decide)) (by rfl) (pa_cons (pv 2) pa_nil)) (pe_callB call_lenQ (by rfl) B.b_len (by decide +kernel) (pa_cons (pe_callO O__law_parts (hr.mono (by decide)) (by rfl) (pa_cons (pv 2) pa_nil)) pa_nil)) (nomark _)) (pw_or1 (pt_cmpR op_ne (pe_callO O_depth_of (hr.mono (by decide)) (by rfl) (pa_cons (pv 2) pa_nil)) (pe_callO O__law_depth (hr.mono (by decide)) (by rfl) (pa_cons (pv 2) pa_nil)) (nomark _))))))
        (pss_one (ps_ret pe_bl))
        pss_nil)
      (pss_cons (ps_set (i := 3) sc__law_right.nd rfl (Or.inl rfl) (pe_callO O__law_anew (hr.mono (by decide)) (by rfl) (pa_cons (pv 2) pa_nil)))
      (pss_cons (ps_if (PW.pt (pw_or (pt_cmpR (op_neM hr.units) (pe_callO O_variables_of (hr.mono (by decide)) (by rfl) (pa_cons (pv 2) pa_nil)) (pe_callO O__law_numbers (hr.mono (by decide)) (by rfl) (pa_cons (pv 2) pa_nil)) (nomark _)) (pw_or (pt_cmpR (op_neM hr.units) (pe_callO O_renumbered (hr.mono (by decide)) (by rfl) (pa_cons (pv 2) pa_nil)) (pv 3) (nomark _)) (pw_or1 (pt_cmpR (op_neM hr.units) (pe_callO O_renumbered (hr.mono (by decide)) (by rfl) (pa_cons (pv 3) pa_nil)) (pv 3) (nomark _))))))
        (pss_one (ps_ret pe_bl))
        pss_nil)
      (pss_one (ps_ret (pe_callO O__law_list_right (hr.mono (by decide)) (by rfl) (pa_cons (pv 0) pa_nil))))))))), ?_⟩
    walk_at "rd"
    refine ⟨⟨by decide, by decide, by decide⟩, (by show 6 ≤ sizeLine; decide), fun p np => ?_⟩
    rw [show [V.int 0, V.int 1, V.int 5, V.int (10 ^ Int.toNat 30), V.int 3, V.int 2] = nV sprd from rfl]
    have S1 := same_upd (o := .lst (nV sprd)) np
    have e1 : upd H p (.lst (nV sprd)) p = some (.lst (nV sprd)) := upd_same
    have pw : p ≠ wl := by obtain ⟨_, _, _, e⟩ := hw; exact (ne_of_none e np).symm
    generalize upd H p (.lst (nV sprd)) = H1 at S1 e1 ⊢
    refine ⟨wl, 6, by decide, rfl, hw.same S1, by decide, by decide, fun H2 v t hwt htp htd dt s2 w2 => ?_⟩
    have e2 : H2 p = some (.lst (nV sprd)) := s2 _ _ (fun z => pw z) e1
    refine tlc_of ?_
    dsimp only [iRng1]
    walk_at "rd"
    refine ⟨6, rfl, by decide, by decide, ?_⟩
    refine lc_rng (n := 6) (R := fun m y H6 => ∃ q1 q2 k j, (List.range 6)[m]? = some k ∧ sprd[m]? = some j ∧ y = .ref q1 ∧ SqT K H6 q1 [.int (k : Nat), .ref q2] ∧ SqT K H6 q2 [.int (j : Nat)]) (by decide) ?_ ?_ ?_
    · rintro m y H6 H7 tk ⟨q1, q2, k, j, h1, h0, h2, h3, h4⟩
      exact ⟨q1, q2, k, j, h1, h0, h2, tk.sqT h3, tk.sqT h4⟩
    · intro m H6 k hm s6 kk
      walk_at "rd"
      have hl : m < sprd.length := hm
      refine ixLn (n := m) (SqL.of (s6 _ _ e2)) (by simp [nV, hl]; rfl) (by simp) ?_
      refine ⟨(by show 1 ≤ sizeLine; decide), fun q2 n2 => ⟨(by show 2 ≤ sizeLine; decide), fun q1 n1 => kk _ _ ((same_upd n2).trans (same_upd n1)) ⟨q1, q2, m, sprd[m], by simp [hm], List.getElem?_eq_getElem hl, rfl, SqT.of ?_, SqT.of ?_⟩⟩⟩
      · rw [upd_same]; simp
      · rw [(same_upd n1) _ _ upd_same]
    · intro D H6 ys nD s6 eD ly r
      obtain ⟨ps, us, rfl, hul, hpd, hds⟩ := pairs_gen (ks := List.range 6) (js := sprd) (ys := ys) ly rfl r
      refine ⟨D, rfl, ps, SqL.of eD, kvz (List.range 6) us, hpd, fun pd nd => ?_⟩
      have s7 := s6.trans (same_upd (o := .dK (mergeK [] (kvz (List.range 6) us))) nd)
      have tab := tab_look 6 (by simp) (by decide) hul hds
      refine ⟨v, t, pd, _, _, rfl, Dp.same s7 _ _ dt, hwt, htd, upd_same, tab.tk (Tk.of (same_upd nd)), fun H8 u s8 d8 => ?_⟩
      have w8 := (w2.same s7).same s8
      have hwu := ren_wf lk_ren t hwt
      have hpu : (parts (subst lk t)).length ≤ 79 := by rw [ren_parts lk_ren, List.length_map]; exact htp
      have hdu : depth (subst lk t) ≤ 5 := by rw [ren_depth lk_ren]; exact htd
      change Den K H8 u (subst lk t) at d8
      generalize subst lk t = t2 at hwu hpu hdu d8
      refine ⟨u, _, rfl, d8, wf_sm _ hwu, by have := sz_toD t2; omega, fun H9 s9 => ⟨_, rfl, ?_⟩⟩
      rw [wf_isTerm _ hwu]
      have d9 := Dp.same s9 _ _ d8
      refine iteF ⟨u, _, rfl, d9, hwu, by omega, fun H10 s10 => ?_⟩
      have d10 := Dp.same s10 _ _ d9
      refine ⟨u, _, rfl, d10, hwu, hdu, by omega, fun H11 p11 us11 s11 n11 e11 d11 => ?_⟩
      refine lenL (SqL.of e11) (neI ⟨_, rfl, ?_⟩)
      have hl11 := dens_len d11
      rw [show (!decide (((parts t2).length : Int) = (us11.length : Int))) = false by rw [hl11]; simp]
      have d12 := Dp.same s11 _ _ d10
      refine iteF ⟨u, _, rfl, d12, hwu, by omega, fun H12 s12 => ⟨u, _, rfl, Dp.same s12 _ _ d12, hwu, hdu, fun H13 s13 => neI ⟨_, rfl, ?_⟩⟩⟩
      rw [show (!decide ((depth t2 : Int) = (depth t2 : Int))) = false by simp]
      have d13 := Dp.same (s12.trans s13) _ _ d12
      refine iteF ⟨u, _, rfl, d13, hwu, hdu, by omega, fun H14 u2 s14 d14 => ?_⟩
      have du14 := Dp.same s14 _ _ d13
      have hw2 := ren_wf (rn_ren (vars (parts t2)) 0) t2 hwu
      have hp2 : (parts (subst (rn (vars (parts t2)) 0) t2)).length ≤ 79 := by rw [ren_parts (rn_ren _ _), List.length_map]; exact hpu
      have hd2 : depth (subst (rn (vars (parts t2)) 0) t2) ≤ 5 := by rw [ren_depth (rn_ren _ _)]; exact hdu
      have haa := anew_anew t2
      refine ⟨u, _, rfl, du14, hwu, by omega, fun H15 p15 s15 n15 e15 => ⟨u, _, rfl, Dp.same s15 _ _ du14, hwu, hdu, by omega, fun H16 p16 s16 n16 e16 => neNums (s16 _ _ e15) e16 ⟨_, rfl, iteF ?_⟩⟩⟩
      have S16 := s15.trans s16
      refine ⟨u, _, rfl, Dp.same S16 _ _ du14, hwu, by omega, fun H17 u3 s17 d17 => neTerm hw2 (by omega) d17 (Dp.same (S16.trans s17) _ _ d14) ⟨_, rfl, iteF ?_⟩⟩
      refine ⟨u2, _, rfl, Dp.same (S16.trans s17) _ _ d14, hw2, by omega, fun H18 u4 s18 d18 => ?_⟩
      rw [haa] at d18
      refine neTerm hw2 (by omega) d18 (Dp.same ((S16.trans s17).trans s18) _ _ d14) ⟨_, rfl, iteF ?_⟩
      have sE := ((((((s9.trans s10).trans s11).trans s12).trans s13).trans s14).trans ((S16.trans s17).trans s18))
      exact ⟨wl, rfl, w8.same sE, fun H19 s19 w19 => q H19 ((((Sm.of S1).trans s2).trans (Sm.of ((s7.trans s8).trans sE))).trans s19) w19⟩
def sp_law (K : PySem.W.Frag) (n : Nat) : Sp := fun vs H Q _ => ∃ (a : Addr) (ns : List Int), vs = [.ref a] ∧ ns.length ≤ n ∧ SqL K H a (ns.map V.int) ∧ ∀ H', Q (.bl true) H'
theorem ok_law (B : Bf K mg) (n : Nat) (G : Gd K mg "law" s_law) (O__law_right : Okf P w K mg base "_law_right" 9 ["_law_well_here"] [] (sp_right K)) (O__law_well : Okf P w K mg base "_law_well" 1 ["_law_cell"] [] (sp_well K)) (O__law_cell_at : Okf P w K mg base "_law_cell_at" 1 ["_law_script", "_law_k"] [] (sp_cell_at K)) :
    Okf P w K mg base "law" 10 ["_law_script"] [] (sp_law K n) := by
  refine okf_mk G sc_law (fun _ _ _ _ _ _ us hl => match us, hl with | [_], _ => rfl) (fun vs H Q E h => ?_) (fun cdv A outer s H vs Q E hr h => ?_)
  · obtain ⟨wl, ns, rfl, _⟩ := h
    rfl
  · obtain ⟨a, ns, rfl, hl, hs, q⟩ := h
    refine ⟨_, (pss_cons (ps_for PassesOwn.never rfl (pi_range1 (by rfl) B.b_range (pa_cons (pe_callB (call_max2 rfl) (by rfl) B.b_max (by decide +kernel) (pa_cons pe_int (pa_cons (pe_callB (call_min2 rfl) (by rfl) B.b_min (by decide +kernel) (pa_cons pe_int (pa_cons (pe_callB call_lenQ (by rfl) B.b_len (by decide +kernel) (pa_cons (pv 0) pa_nil)) pa_nil))) pa_nil))) pa_nil)) (pg_name (i := 1) sc_law.nd rfl (Or.inl rfl))
      (pss_one (ps_if (pt_not (pt_val (pe_callO O__law_right (hr.mono (by decide)) (by rfl) (pa_cons (pe_callO O__law_well (hr.mono (by decide)) (by rfl) (pa_cons (pe_callO O__law_cell_at (hr.mono (by decide)) (by rfl) (pa_cons (pv 0) (pa_cons (pv 1) pa_nil))) pa_nil)) pa_nil))))
        (pss_one (ps_ret pe_bl))
        pss_nil)))
      (pss_one (ps_ret pe_bl))), ?_⟩
    walk_at "rd"
    refine tfor_of ?_
    dsimp only [iRng1]
    walk_at "rd"
    refine lenL hs ⟨8, _, rfl, 1, _, rfl, _, rfl, ?_, ?_, ?_⟩
    · split <;> split <;> omega
    · split <;> split <;> omega
    generalize (Int.toNat _) = m
    refine for_r (n := m) (fun i σ H7 => ∃ z, σ = [some (.ref a), z] ∧ SqL K H7 a (ns.map V.int)) ⟨none, rfl, hs⟩ ?_ ?_
    · rintro i σ H7 hi ⟨z, rfl, h7⟩
      walk_at "rd"
      refine ⟨a, ns, i, by simp, h7, fun c => ⟨c, rfl, fun H8 wl s8 n8 w8 => ⟨wl, rfl, w8, fun H9 s9 w9 => ⟨_, rfl, iteF ⟨_, rfl, ?_⟩⟩⟩⟩⟩
      rcases h7 with (h | ⟨o, h⟩) | h
      · exact .inl (.inl (s9 _ _ (fun z => (ne_of_none h n8) z) (s8 _ _ h)))
      · exact .inl (.inr ⟨o, s9 _ _ (fun z => (ne_of_none h n8) z) (s8 _ _ h)⟩)
      · exact .inr h
    · rintro σ H7 ⟨z, rfl, h7⟩
      exact q H7
end
end K1

namespace K1
open PySem PySem.Spec PyProof.Rows L2 HM
theorem valsI {t : Tok} : Vals [.int 0] [.int 0 t] := .cons ⟨_, rfl⟩ .nil
theorem all_mk {l : PySem.W.OpenLaw} {w : World} {K : PySem.W.Frag} {h : Heap} {mg : Str → Option Value} {fa : Addr} (X : K.In h) (G : h.Ns mainGlobals mg) (hfa : mg "law" = some (.ref fa))
    {f0 : Addr} {od0 an0 : Option Addr} {sl0 : Array (Option Value)} {oc0 kV0 dc0 pm0 cd0 ct0 : Value}
    {f1 : Addr} {od1 an1 : Option Addr} {sl1 : Array (Option Value)} {oc1 kV1 dc1 pm1 cd1 ct1 : Value}
    {f2 : Addr} {od2 an2 : Option Addr} {sl2 : Array (Option Value)} {oc2 kV2 dc2 pm2 cd2 ct2 : Value}
    {f3 : Addr} {od3 an3 : Option Addr} {sl3 : Array (Option Value)} {oc3 kV3 dc3 pm3 cd3 ct3 : Value}
    {f4 : Addr} {od4 an4 : Option Addr} {sl4 : Array (Option Value)} {oc4 kV4 dc4 pm4 cd4 ct4 : Value}
    {f5 : Addr} {od5 an5 : Option Addr} {sl5 : Array (Option Value)} {oc5 kV5 dc5 pm5 cd5 ct5 : Value}
    {f6 : Addr} {od6 an6 : Option Addr} {sl6 : Array (Option Value)} {oc6 kV6 dc6 pm6 cd6 ct6 : Value}
    {f7 : Addr} {od7 an7 : Option Addr} {sl7 : Array (Option Value)} {oc7 kV7 dc7 pm7 cd7 ct7 : Value}
    {f8 : Addr} {od8 an8 : Option Addr} {sl8 : Array (Option Value)} {oc8 kV8 dc8 pm8 cd8 ct8 : Value}
    {f9 : Addr} {od9 an9 : Option Addr} {sl9 : Array (Option Value)} {oc9 kV9 dc9 pm9 cd9 ct9 : Value}
    {f10 : Addr} {od10 an10 : Option Addr} {sl10 : Array (Option Value)} {oc10 kV10 dc10 pm10 cd10 ct10 : Value}
    {f11 : Addr} {od11 an11 : Option Addr} {sl11 : Array (Option Value)} {oc11 kV11 dc11 pm11 cd11 ct11 : Value}
    {f12 : Addr} {od12 an12 : Option Addr} {sl12 : Array (Option Value)} {oc12 kV12 dc12 pm12 cd12 ct12 : Value}
    {f13 : Addr} {od13 an13 : Option Addr} {sl13 : Array (Option Value)} {oc13 kV13 dc13 pm13 cd13 ct13 : Value} {T13 : Addr} {o13 : Obj} {n13 : Nat} {tk13 : Tok}
    {f14 : Addr} {od14 an14 : Option Addr} {sl14 : Array (Option Value)} {oc14 kV14 dc14 pm14 cd14 ct14 : Value}
    {f15 : Addr} {od15 an15 : Option Addr} {sl15 : Array (Option Value)} {oc15 kV15 dc15 pm15 cd15 ct15 : Value}
    {f16 : Addr} {od16 an16 : Option Addr} {sl16 : Array (Option Value)} {oc16 kV16 dc16 pm16 cd16 ct16 : Value}
    {f17 : Addr} {od17 an17 : Option Addr} {sl17 : Array (Option Value)} {oc17 kV17 dc17 pm17 cd17 ct17 : Value}
    {f18 : Addr} {od18 an18 : Option Addr} {sl18 : Array (Option Value)} {oc18 kV18 dc18 pm18 cd18 ct18 : Value}
    {f19 : Addr} {od19 an19 : Option Addr} {sl19 : Array (Option Value)} {oc19 kV19 dc19 pm19 cd19 ct19 : Value}
    {f20 : Addr} {od20 an20 : Option Addr} {sl20 : Array (Option Value)} {oc20 kV20 dc20 pm20 cd20 ct20 : Value}
    {f21 : Addr} {od21 an21 : Option Addr} {sl21 : Array (Option Value)} {oc21 kV21 dc21 pm21 cd21 ct21 : Value}
    {f22 : Addr} {od22 an22 : Option Addr} {sl22 : Array (Option Value)} {oc22 kV22 dc22 pm22 cd22 ct22 : Value}
    {f23 : Addr} {od23 an23 : Option Addr} {sl23 : Array (Option Value)} {oc23 kV23 dc23 pm23 cd23 ct23 : Value}
    {f24 : Addr} {od24 an24 : Option Addr} {sl24 : Array (Option Value)} {oc24 kV24 dc24 pm24 cd24 ct24 : Value}
    {f25 : Addr} {od25 an25 : Option Addr} {sl25 : Array (Option Value)} {oc25 kV25 dc25 pm25 cd25 ct25 : Value}
    {f26 : Addr} {od26 an26 : Option Addr} {sl26 : Array (Option Value)} {oc26 kV26 dc26 pm26 cd26 ct26 : Value} {T26 : Addr} {o26 : Obj} {n26 : Nat} {tk26 : Tok}
    {f27 : Addr} {od27 an27 : Option Addr} {sl27 : Array (Option Value)} {oc27 kV27 dc27 pm27 cd27 ct27 : Value}
    {f28 : Addr} {od28 an28 : Option Addr} {sl28 : Array (Option Value)} {oc28 kV28 dc28 pm28 cd28 ct28 : Value}
    {f29 : Addr} {od29 an29 : Option Addr} {sl29 : Array (Option Value)} {oc29 kV29 dc29 pm29 cd29 ct29 : Value}
    {f30 : Addr} {od30 an30 : Option Addr} {sl30 : Array (Option Value)} {oc30 kV30 dc30 pm30 cd30 ct30 : Value}
    {tg_MOST_SIGNS : Tok}
    {tg_MOST_ARGUMENTS : Tok}
    {tg_TOO_GREAT : Tok}
    (a0 : PySem.W.nsIn K mainGlobals "is_int" = some (some (.ref f0))) (l0 : K.lookup f0 = some ⟨oc0, od0, .func (PySem.W.fnOf "is_int" "is_int" (defArgs s_is_int) (defBody s_is_int) (defScope s_is_int) .none kV0 dc0 pm0 an0 cd0 ct0), sl0⟩) (c0 : PySem.W.codeIn K cd0 "is_int" = true) (k0 : PySem.W.keepIn K (.ref f0) = true)
    (a1 : PySem.W.nsIn K mainGlobals "is_variable" = some (some (.ref f1))) (l1 : K.lookup f1 = some ⟨oc1, od1, .func (PySem.W.fnOf "is_variable" "is_variable" (defArgs s_is_variable) (defBody s_is_variable) (defScope s_is_variable) .none kV1 dc1 pm1 an1 cd1 ct1), sl1⟩) (c1 : PySem.W.codeIn K cd1 "is_variable" = true) (k1 : PySem.W.keepIn K (.ref f1) = true)
    (a2 : PySem.W.nsIn K mainGlobals "is_any_number" = some (some (.ref f2))) (l2 : K.lookup f2 = some ⟨oc2, od2, .func (PySem.W.fnOf "is_any_number" "is_any_number" (defArgs s_is_any_number) (defBody s_is_any_number) (defScope s_is_any_number) .none kV2 dc2 pm2 an2 cd2 ct2), sl2⟩) (c2 : PySem.W.codeIn K cd2 "is_any_number" = true) (k2 : PySem.W.keepIn K (.ref f2) = true)
    (a3 : PySem.W.nsIn K mainGlobals "is_any_atom" = some (some (.ref f3))) (l3 : K.lookup f3 = some ⟨oc3, od3, .func (PySem.W.fnOf "is_any_atom" "is_any_atom" (defArgs s_is_any_atom) (defBody s_is_any_atom) (defScope s_is_any_atom) .none kV3 dc3 pm3 an3 cd3 ct3), sl3⟩) (c3 : PySem.W.codeIn K cd3 "is_any_atom" = true) (k3 : PySem.W.keepIn K (.ref f3) = true)
    (a4 : PySem.W.nsIn K mainGlobals "is_compound" = some (some (.ref f4))) (l4 : K.lookup f4 = some ⟨oc4, od4, .func (PySem.W.fnOf "is_compound" "is_compound" (defArgs s_is_compound) (defBody s_is_compound) (defScope s_is_compound) .none kV4 dc4 pm4 an4 cd4 ct4), sl4⟩) (c4 : PySem.W.codeIn K cd4 "is_compound" = true) (k4 : PySem.W.keepIn K (.ref f4) = true)
    (a5 : PySem.W.nsIn K mainGlobals "is_term" = some (some (.ref f5))) (l5 : K.lookup f5 = some ⟨oc5, od5, .func (PySem.W.fnOf "is_term" "is_term" (defArgs s_is_term) (defBody s_is_term) (defScope s_is_term) .none kV5 dc5 pm5 an5 cd5 ct5), sl5⟩) (c5 : PySem.W.codeIn K cd5 "is_term" = true) (k5 : PySem.W.keepIn K (.ref f5) = true)
    (a6 : PySem.W.nsIn K mainGlobals "check_terms" = some (some (.ref f6))) (l6 : K.lookup f6 = some ⟨oc6, od6, .func (PySem.W.fnOf "check_terms" "check_terms" (defArgs s_check_terms) (defBody s_check_terms) (defScope s_check_terms) .none kV6 dc6 pm6 an6 cd6 ct6), sl6⟩) (c6 : PySem.W.codeIn K cd6 "check_terms" = true) (k6 : PySem.W.keepIn K (.ref f6) = true)
    (a7 : PySem.W.nsIn K mainGlobals "parts_of" = some (some (.ref f7))) (l7 : K.lookup f7 = some ⟨oc7, od7, .func (PySem.W.fnOf "parts_of" "parts_of" (defArgs s_parts_of) (defBody s_parts_of) (defScope s_parts_of) .none kV7 dc7 pm7 an7 cd7 ct7), sl7⟩) (c7 : PySem.W.codeIn K cd7 "parts_of" = true) (k7 : PySem.W.keepIn K (.ref f7) = true)
    (a8 : PySem.W.nsIn K mainGlobals "size_of" = some (some (.ref f8))) (l8 : K.lookup f8 = some ⟨oc8, od8, .func (PySem.W.fnOf "size_of" "size_of" (defArgs s_size_of) (defBody s_size_of) (defScope s_size_of) .none kV8 dc8 pm8 an8 cd8 ct8), sl8⟩) (c8 : PySem.W.codeIn K cd8 "size_of" = true) (k8 : PySem.W.keepIn K (.ref f8) = true)
    (a9 : PySem.W.nsIn K mainGlobals "depth_of" = some (some (.ref f9))) (l9 : K.lookup f9 = some ⟨oc9, od9, .func (PySem.W.fnOf "depth_of" "depth_of" (defArgs s_depth_of) (defBody s_depth_of) (defScope s_depth_of) .none kV9 dc9 pm9 an9 cd9 ct9), sl9⟩) (c9 : PySem.W.codeIn K cd9 "depth_of" = true) (k9 : PySem.W.keepIn K (.ref f9) = true)
    (a10 : PySem.W.nsIn K mainGlobals "numbers_in" = some (some (.ref f10))) (l10 : K.lookup f10 = some ⟨oc10, od10, .func (PySem.W.fnOf "numbers_in" "numbers_in" (defArgs s_numbers_in) (defBody s_numbers_in) (defScope s_numbers_in) .none kV10 dc10 pm10 an10 cd10 ct10), sl10⟩) (c10 : PySem.W.codeIn K cd10 "numbers_in" = true) (k10 : PySem.W.keepIn K (.ref f10) = true)
    (a11 : PySem.W.nsIn K mainGlobals "variables_of" = some (some (.ref f11))) (l11 : K.lookup f11 = some ⟨oc11, od11, .func (PySem.W.fnOf "variables_of" "variables_of" (defArgs s_variables_of) (defBody s_variables_of) (defScope s_variables_of) .none kV11 dc11 pm11 an11 cd11 ct11), sl11⟩) (c11 : PySem.W.codeIn K cd11 "variables_of" = true) (k11 : PySem.W.keepIn K (.ref f11) = true)
    (a12 : PySem.W.nsIn K mainGlobals "replaced" = some (some (.ref f12))) (l12 : K.lookup f12 = some ⟨oc12, od12, .func (PySem.W.fnOf "replaced" "replaced" (defArgs s_replaced) (defBody s_replaced) (defScope s_replaced) .none kV12 dc12 pm12 an12 cd12 ct12), sl12⟩) (c12 : PySem.W.codeIn K cd12 "replaced" = true) (k12 : PySem.W.keepIn K (.ref f12) = true)
    (a13 : PySem.W.nsIn K mainGlobals "renumbering" = some (some (.ref f13))) (l13 : K.lookup f13 = some ⟨oc13, od13, .func (PySem.W.fnOf "renumbering" "renumbering" (defArgs s_renumbering) (defBody s_renumbering) (defScope s_renumbering) (.ref T13) kV13 dc13 pm13 an13 cd13 ct13), sl13⟩) (c13 : PySem.W.codeIn K cd13 "renumbering" = true) (k13 : PySem.W.keepIn K (.ref f13) = true) (t13 : K.lookup T13 = some o13) (u13 : o13.data = .seq (List.toArray [.int 0 tk13]) n13)
    (a14 : PySem.W.nsIn K mainGlobals "renumbered" = some (some (.ref f14))) (l14 : K.lookup f14 = some ⟨oc14, od14, .func (PySem.W.fnOf "renumbered" "renumbered" (defArgs s_renumbered) (defBody s_renumbered) (defScope s_renumbered) .none kV14 dc14 pm14 an14 cd14 ct14), sl14⟩) (c14 : PySem.W.codeIn K cd14 "renumbered" = true) (k14 : PySem.W.keepIn K (.ref f14) = true)
    (a15 : PySem.W.nsIn K mainGlobals "_law_cell_at" = some (some (.ref f15))) (l15 : K.lookup f15 = some ⟨oc15, od15, .func (PySem.W.fnOf "_law_cell_at" "_law_cell_at" (defArgs s__law_cell_at) (defBody s__law_cell_at) (defScope s__law_cell_at) .none kV15 dc15 pm15 an15 cd15 ct15), sl15⟩) (c15 : PySem.W.codeIn K cd15 "_law_cell_at" = true) (k15 : PySem.W.keepIn K (.ref f15) = true)
    (a16 : PySem.W.nsIn K mainGlobals "_law_well" = some (some (.ref f16))) (l16 : K.lookup f16 = some ⟨oc16, od16, .func (PySem.W.fnOf "_law_well" "_law_well" (defArgs s__law_well) (defBody s__law_well) (defScope s__law_well) .none kV16 dc16 pm16 an16 cd16 ct16), sl16⟩) (c16 : PySem.W.codeIn K cd16 "_law_well" = true) (k16 : PySem.W.keepIn K (.ref f16) = true)
    (a17 : PySem.W.nsIn K mainGlobals "_law_draw" = some (some (.ref f17))) (l17 : K.lookup f17 = some ⟨oc17, od17, .func (PySem.W.fnOf "_law_draw" "_law_draw" (defArgs s__law_draw) (defBody s__law_draw) (defScope s__law_draw) .none kV17 dc17 pm17 an17 cd17 ct17), sl17⟩) (c17 : PySem.W.codeIn K cd17 "_law_draw" = true) (k17 : PySem.W.keepIn K (.ref f17) = true)
    (a18 : PySem.W.nsIn K mainGlobals "_law_one" = some (some (.ref f18))) (l18 : K.lookup f18 = some ⟨oc18, od18, .func (PySem.W.fnOf "_law_one" "_law_one" (defArgs s__law_one) (defBody s__law_one) (defScope s__law_one) .none kV18 dc18 pm18 an18 cd18 ct18), sl18⟩) (c18 : PySem.W.codeIn K cd18 "_law_one" = true) (k18 : PySem.W.keepIn K (.ref f18) = true)
    (a19 : PySem.W.nsIn K mainGlobals "_law_leaf" = some (some (.ref f19))) (l19 : K.lookup f19 = some ⟨oc19, od19, .func (PySem.W.fnOf "_law_leaf" "_law_leaf" (defArgs s__law_leaf) (defBody s__law_leaf) (defScope s__law_leaf) .none kV19 dc19 pm19 an19 cd19 ct19), sl19⟩) (c19 : PySem.W.codeIn K cd19 "_law_leaf" = true) (k19 : PySem.W.keepIn K (.ref f19) = true)
    (a20 : PySem.W.nsIn K mainGlobals "_law_term" = some (some (.ref f20))) (l20 : K.lookup f20 = some ⟨oc20, od20, .func (PySem.W.fnOf "_law_term" "_law_term" (defArgs s__law_term) (defBody s__law_term) (defScope s__law_term) .none kV20 dc20 pm20 an20 cd20 ct20), sl20⟩) (c20 : PySem.W.codeIn K cd20 "_law_term" = true) (k20 : PySem.W.keepIn K (.ref f20) = true)
    (a21 : PySem.W.nsIn K mainGlobals "_law_is_variable" = some (some (.ref f21))) (l21 : K.lookup f21 = some ⟨oc21, od21, .func (PySem.W.fnOf "_law_is_variable" "_law_is_variable" (defArgs s__law_is_variable) (defBody s__law_is_variable) (defScope s__law_is_variable) .none kV21 dc21 pm21 an21 cd21 ct21), sl21⟩) (c21 : PySem.W.codeIn K cd21 "_law_is_variable" = true) (k21 : PySem.W.keepIn K (.ref f21) = true)
    (a22 : PySem.W.nsIn K mainGlobals "_law_is_compound" = some (some (.ref f22))) (l22 : K.lookup f22 = some ⟨oc22, od22, .func (PySem.W.fnOf "_law_is_compound" "_law_is_compound" (defArgs s__law_is_compound) (defBody s__law_is_compound) (defScope s__law_is_compound) .none kV22 dc22 pm22 an22 cd22 ct22), sl22⟩) (c22 : PySem.W.codeIn K cd22 "_law_is_compound" = true) (k22 : PySem.W.keepIn K (.ref f22) = true)
    (a23 : PySem.W.nsIn K mainGlobals "_law_parts" = some (some (.ref f23))) (l23 : K.lookup f23 = some ⟨oc23, od23, .func (PySem.W.fnOf "_law_parts" "_law_parts" (defArgs s__law_parts) (defBody s__law_parts) (defScope s__law_parts) .none kV23 dc23 pm23 an23 cd23 ct23), sl23⟩) (c23 : PySem.W.codeIn K cd23 "_law_parts" = true) (k23 : PySem.W.keepIn K (.ref f23) = true)
    (a24 : PySem.W.nsIn K mainGlobals "_law_numbers" = some (some (.ref f24))) (l24 : K.lookup f24 = some ⟨oc24, od24, .func (PySem.W.fnOf "_law_numbers" "_law_numbers" (defArgs s__law_numbers) (defBody s__law_numbers) (defScope s__law_numbers) .none kV24 dc24 pm24 an24 cd24 ct24), sl24⟩) (c24 : PySem.W.codeIn K cd24 "_law_numbers" = true) (k24 : PySem.W.keepIn K (.ref f24) = true)
    (a25 : PySem.W.nsIn K mainGlobals "_law_put" = some (some (.ref f25))) (l25 : K.lookup f25 = some ⟨oc25, od25, .func (PySem.W.fnOf "_law_put" "_law_put" (defArgs s__law_put) (defBody s__law_put) (defScope s__law_put) .none kV25 dc25 pm25 an25 cd25 ct25), sl25⟩) (c25 : PySem.W.codeIn K cd25 "_law_put" = true) (k25 : PySem.W.keepIn K (.ref f25) = true)
    (a26 : PySem.W.nsIn K mainGlobals "_law_anew" = some (some (.ref f26))) (l26 : K.lookup f26 = some ⟨oc26, od26, .func (PySem.W.fnOf "_law_anew" "_law_anew" (defArgs s__law_anew) (defBody s__law_anew) (defScope s__law_anew) (.ref T26) kV26 dc26 pm26 an26 cd26 ct26), sl26⟩) (c26 : PySem.W.codeIn K cd26 "_law_anew" = true) (k26 : PySem.W.keepIn K (.ref f26) = true) (t26 : K.lookup T26 = some o26) (u26 : o26.data = .seq (List.toArray [.int 0 tk26]) n26)
    (a27 : PySem.W.nsIn K mainGlobals "_law_depth" = some (some (.ref f27))) (l27 : K.lookup f27 = some ⟨oc27, od27, .func (PySem.W.fnOf "_law_depth" "_law_depth" (defArgs s__law_depth) (defBody s__law_depth) (defScope s__law_depth) .none kV27 dc27 pm27 an27 cd27 ct27), sl27⟩) (c27 : PySem.W.codeIn K cd27 "_law_depth" = true) (k27 : PySem.W.keepIn K (.ref f27) = true)
    (a28 : PySem.W.nsIn K mainGlobals "_law_list_right" = some (some (.ref f28))) (l28 : K.lookup f28 = some ⟨oc28, od28, .func (PySem.W.fnOf "_law_list_right" "_law_list_right" (defArgs s__law_list_right) (defBody s__law_list_right) (defScope s__law_list_right) .none kV28 dc28 pm28 an28 cd28 ct28), sl28⟩) (c28 : PySem.W.codeIn K cd28 "_law_list_right" = true) (k28 : PySem.W.keepIn K (.ref f28) = true)
    (a29 : PySem.W.nsIn K mainGlobals "_law_right" = some (some (.ref f29))) (l29 : K.lookup f29 = some ⟨oc29, od29, .func (PySem.W.fnOf "_law_right" "_law_right" (defArgs s__law_right) (defBody s__law_right) (defScope s__law_right) .none kV29 dc29 pm29 an29 cd29 ct29), sl29⟩) (c29 : PySem.W.codeIn K cd29 "_law_right" = true) (k29 : PySem.W.keepIn K (.ref f29) = true)
    (a30 : PySem.W.nsIn K mainGlobals "law" = some (some (.ref f30))) (l30 : K.lookup f30 = some ⟨oc30, od30, .func (PySem.W.fnOf "law" "law" (defArgs s_law) (defBody s_law) (defScope s_law) .none kV30 dc30 pm30 an30 cd30 ct30), sl30⟩) (c30 : PySem.W.codeIn K cd30 "law" = true) (k30 : PySem.W.keepIn K (.ref f30) = true)
    (z_isinstance : PySem.W.nsIn K mainGlobals "isinstance" = some none)
    (z_int : PySem.W.nsIn K mainGlobals "int" = some none)
    (z_bool : PySem.W.nsIn K mainGlobals "bool" = some none)
    (z_tuple : PySem.W.nsIn K mainGlobals "tuple" = some none)
    (z_len : PySem.W.nsIn K mainGlobals "len" = some none)
    (z_abs : PySem.W.nsIn K mainGlobals "abs" = some none)
    (z_all : PySem.W.nsIn K mainGlobals "all" = some none)
    (z_str : PySem.W.nsIn K mainGlobals "str" = some none)
    (z_ord : PySem.W.nsIn K mainGlobals "ord" = some none)
    (z_list : PySem.W.nsIn K mainGlobals "list" = some none)
    (z_enumerate : PySem.W.nsIn K mainGlobals "enumerate" = some none)
    (z_range : PySem.W.nsIn K mainGlobals "range" = some none)
    (z_dict : PySem.W.nsIn K mainGlobals "dict" = some none)
    (z_max : PySem.W.nsIn K mainGlobals "max" = some none)
    (z_min : PySem.W.nsIn K mainGlobals "min" = some none)
    (v_MOST_SIGNS : PySem.W.nsIn K mainGlobals "MOST_SIGNS" = some (some (.int 40 tg_MOST_SIGNS)))
    (v_MOST_ARGUMENTS : PySem.W.nsIn K mainGlobals "MOST_ARGUMENTS" = some (some (.int 8 tg_MOST_ARGUMENTS)))
    (v_TOO_GREAT : PySem.W.nsIn K mainGlobals "TOO_GREAT" = some (some (.int tooGreat tg_TOO_GREAT)))
    : ∃ fd : FuncData, (∀ (s : Shared) (v : Value), BindsTo s fd ⟨[v], []⟩ [("_law_script", v)]) ∧ ∀ base : Heap, K.In base → base.Ns mainGlobals mg → FnOk l.prog w K mg base CX0 10 fa fd ["_law_script"] (sp_law K 63) := by
  have e := hfa.symm.trans (PySem.W.mg_of X G a30)
  cases e
  have G_is_int : Gd K mg "is_int" s_is_int := ⟨_, _, fun_mk (st := s_is_int) l0 c0 k0, PySem.W.mg_of X G a0⟩
  have G_is_variable : Gd K mg "is_variable" s_is_variable := ⟨_, _, fun_mk (st := s_is_variable) l1 c1 k1, PySem.W.mg_of X G a1⟩
  have G_is_any_number : Gd K mg "is_any_number" s_is_any_number := ⟨_, _, fun_mk (st := s_is_any_number) l2 c2 k2, PySem.W.mg_of X G a2⟩
  have G_is_any_atom : Gd K mg "is_any_atom" s_is_any_atom := ⟨_, _, fun_mk (st := s_is_any_atom) l3 c3 k3, PySem.W.mg_of X G a3⟩
  have G_is_compound : Gd K mg "is_compound" s_is_compound := ⟨_, _, fun_mk (st := s_is_compound) l4 c4 k4, PySem.W.mg_of X G a4⟩
  have G_is_term : Gd K mg "is_term" s_is_term := ⟨_, _, fun_mk (st := s_is_term) l5 c5 k5, PySem.W.mg_of X G a5⟩
  have G_check_terms : Gd K mg "check_terms" s_check_terms := ⟨_, _, fun_mk (st := s_check_terms) l6 c6 k6, PySem.W.mg_of X G a6⟩
  have G_parts_of : Gd K mg "parts_of" s_parts_of := ⟨_, _, fun_mk (st := s_parts_of) l7 c7 k7, PySem.W.mg_of X G a7⟩
  have G_size_of : Gd K mg "size_of" s_size_of := ⟨_, _, fun_mk (st := s_size_of) l8 c8 k8, PySem.W.mg_of X G a8⟩
  have G_depth_of : Gd K mg "depth_of" s_depth_of := ⟨_, _, fun_mk (st := s_depth_of) l9 c9 k9, PySem.W.mg_of X G a9⟩
  have G_numbers_in : Gd K mg "numbers_in" s_numbers_in := ⟨_, _, fun_mk (st := s_numbers_in) l10 c10 k10, PySem.W.mg_of X G a10⟩
  have G_variables_of : Gd K mg "variables_of" s_variables_of := ⟨_, _, fun_mk (st := s_variables_of) l11 c11 k11, PySem.W.mg_of X G a11⟩
  have G_replaced : Gd K mg "replaced" s_replaced := ⟨_, _, fun_mk (st := s_replaced) l12 c12 k12, PySem.W.mg_of X G a12⟩
  have G_renumbering : GdD K mg "renumbering" s_renumbering [.int 0] := ⟨_, _, ⟨⟨_, _, _, _, _, _, _, _, _, _, rfl, l13, c13, .inr ⟨by simp, _, _, _, _, rfl, t13, u13, valsI⟩, .inl rfl⟩, k13⟩, PySem.W.mg_of X G a13⟩
  have G_renumbered : Gd K mg "renumbered" s_renumbered := ⟨_, _, fun_mk (st := s_renumbered) l14 c14 k14, PySem.W.mg_of X G a14⟩
  have G__law_cell_at : Gd K mg "_law_cell_at" s__law_cell_at := ⟨_, _, fun_mk (st := s__law_cell_at) l15 c15 k15, PySem.W.mg_of X G a15⟩
  have G__law_well : Gd K mg "_law_well" s__law_well := ⟨_, _, fun_mk (st := s__law_well) l16 c16 k16, PySem.W.mg_of X G a16⟩
  have G__law_draw : Gd K mg "_law_draw" s__law_draw := ⟨_, _, fun_mk (st := s__law_draw) l17 c17 k17, PySem.W.mg_of X G a17⟩
  have G__law_one : Gd K mg "_law_one" s__law_one := ⟨_, _, fun_mk (st := s__law_one) l18 c18 k18, PySem.W.mg_of X G a18⟩
  have G__law_leaf : Gd K mg "_law_leaf" s__law_leaf := ⟨_, _, fun_mk (st := s__law_leaf) l19 c19 k19, PySem.W.mg_of X G a19⟩
  have G__law_term : Gd K mg "_law_term" s__law_term := ⟨_, _, fun_mk (st := s__law_term) l20 c20 k20, PySem.W.mg_of X G a20⟩
  have G__law_is_variable : Gd K mg "_law_is_variable" s__law_is_variable := ⟨_, _, fun_mk (st := s__law_is_variable) l21 c21 k21, PySem.W.mg_of X G a21⟩
  have G__law_is_compound : Gd K mg "_law_is_compound" s__law_is_compound := ⟨_, _, fun_mk (st := s__law_is_compound) l22 c22 k22, PySem.W.mg_of X G a22⟩
  have G__law_parts : Gd K mg "_law_parts" s__law_parts := ⟨_, _, fun_mk (st := s__law_parts) l23 c23 k23, PySem.W.mg_of X G a23⟩
  have G__law_numbers : Gd K mg "_law_numbers" s__law_numbers := ⟨_, _, fun_mk (st := s__law_numbers) l24 c24 k24, PySem.W.mg_of X G a24⟩
  have G__law_put : Gd K mg "_law_put" s__law_put := ⟨_, _, fun_mk (st := s__law_put) l25 c25 k25, PySem.W.mg_of X G a25⟩
  have G__law_anew : GdD K mg "_law_anew" s__law_anew [.int 0] := ⟨_, _, ⟨⟨_, _, _, _, _, _, _, _, _, _, rfl, l26, c26, .inr ⟨by simp, _, _, _, _, rfl, t26, u26, valsI⟩, .inl rfl⟩, k26⟩, PySem.W.mg_of X G a26⟩
  have G__law_depth : Gd K mg "_law_depth" s__law_depth := ⟨_, _, fun_mk (st := s__law_depth) l27 c27 k27, PySem.W.mg_of X G a27⟩
  have G__law_list_right : Gd K mg "_law_list_right" s__law_list_right := ⟨_, _, fun_mk (st := s__law_list_right) l28 c28 k28, PySem.W.mg_of X G a28⟩
  have G__law_right : Gd K mg "_law_right" s__law_right := ⟨_, _, fun_mk (st := s__law_right) l29 c29 k29, PySem.W.mg_of X G a29⟩
  have G_law : Gd K mg "law" s_law := ⟨_, _, fun_mk (st := s_law) l30 c30 k30, PySem.W.mg_of X G a30⟩
  have B : Bf K mg := ⟨PySem.W.mg_none_of X G z_isinstance, PySem.W.mg_none_of X G z_int, PySem.W.mg_none_of X G z_bool, PySem.W.mg_none_of X G z_tuple, PySem.W.mg_none_of X G z_len, PySem.W.mg_none_of X G z_abs, PySem.W.mg_none_of X G z_all, PySem.W.mg_none_of X G z_str, PySem.W.mg_none_of X G z_ord, PySem.W.mg_none_of X G z_list, PySem.W.mg_none_of X G z_enumerate, PySem.W.mg_none_of X G z_range, PySem.W.mg_none_of X G z_dict, PySem.W.mg_none_of X G z_max, PySem.W.mg_none_of X G z_min, ⟨_, PySem.W.mg_of X G v_MOST_SIGNS⟩, ⟨_, PySem.W.mg_of X G v_MOST_ARGUMENTS⟩, ⟨_, PySem.W.mg_of X G v_TOO_GREAT⟩⟩
  have main : ∀ base : Heap, Okf l.prog w K mg base "law" 10 ["_law_script"] [] (sp_law K 63) := by
    intro base
    have O_is_int := ok_is_int (P := l.prog) (w := w) (base := base) B G_is_int
    have O_is_compound := ok_is_compound (P := l.prog) (w := w) (base := base) B G_is_compound
    have O_is_variable := ok_is_variable (P := l.prog) (w := w) (base := base) B G_is_variable O_is_int
    have O_is_any_number := ok_is_any_number (P := l.prog) (w := w) (base := base) B G_is_any_number O_is_int
    have O_is_any_atom := ok_is_any_atom (P := l.prog) (w := w) (base := base) B G_is_any_atom
    have O_is_term := ok_is_term (P := l.prog) (w := w) (base := base) B G_is_term O_is_compound O_is_any_atom O_is_variable O_is_any_number
    have O_check_terms := ok_check_terms (P := l.prog) (w := w) (base := base) B G_check_terms O_is_term
    have O_parts_of := ok_parts_of (P := l.prog) (w := w) (base := base) B G_parts_of O_is_compound
    have O_size_of := ok_size_of (P := l.prog) (w := w) (base := base) B G_size_of O_check_terms O_parts_of
    have O_depth_of := ok_depth_of (P := l.prog) (w := w) (base := base) B G_depth_of O_check_terms O_is_compound
    have O_numbers_in := ok_numbers_in (P := l.prog) (w := w) (base := base) B G_numbers_in O_parts_of O_is_variable
    have O_variables_of := ok_variables_of (P := l.prog) (w := w) (base := base) B G_variables_of O_check_terms O_numbers_in
    have O_replaced := ok_replaced (P := l.prog) (w := w) (base := base) B G_replaced O_is_compound O_is_variable
    have O_renumbering := ok_renumbering (P := l.prog) (w := w) (base := base) B G_renumbering O_numbers_in
    have O_renumbered := ok_renumbered (P := l.prog) (w := w) (base := base) B G_renumbered O_check_terms O_replaced O_renumbering
    have O__law_cell_at := ok_cell_at (P := l.prog) (w := w) (base := base) B G__law_cell_at
    have O__law_well := ok_well (P := l.prog) (w := w) (base := base) B G__law_well
    have O__law_draw := ok_draw (P := l.prog) (w := w) (base := base) B G__law_draw
    have O__law_one := ok_one (P := l.prog) (w := w) (base := base) B G__law_one O__law_draw
    have O__law_leaf := ok_leaf (P := l.prog) (w := w) (base := base) B G__law_leaf O__law_draw O__law_one
    have O__law_term := ok_term (P := l.prog) (w := w) (base := base) B G__law_term O__law_draw O__law_one O__law_leaf 5
    have O__law_is_variable := ok_lisvar (P := l.prog) (w := w) (base := base) B G__law_is_variable
    have O__law_is_compound := ok_liscmp (P := l.prog) (w := w) (base := base) B G__law_is_compound
    have O__law_parts := ok_lparts (P := l.prog) (w := w) (base := base) B G__law_parts O__law_is_compound 5
    have O__law_numbers := ok_lnumbers (P := l.prog) (w := w) (base := base) 5 B G__law_numbers O__law_is_variable O__law_parts
    have O__law_put := ok_lput (P := l.prog) (w := w) (base := base) B G__law_put O__law_is_variable O__law_is_compound 5
    have O__law_depth := ok_ldepth (P := l.prog) (w := w) (base := base) B G__law_depth O__law_is_compound 5
    have O__law_anew := ok_lanew (P := l.prog) (w := w) (base := base) 5 B G__law_anew O__law_put O__law_numbers
    have O__law_list_right := ok_llist (P := l.prog) (w := w) (base := base) B G__law_list_right O__law_draw O__law_one O_variables_of O_is_term O_size_of O_depth_of
    have O__law_right := ok_right (P := l.prog) (w := w) (base := base) B G__law_right O__law_term O__law_put O_is_term O_size_of O_depth_of O_variables_of O_renumbered O__law_parts O__law_depth O__law_numbers O__law_anew O__law_list_right
    have O_law := ok_law (P := l.prog) (w := w) (base := base) B 63 G_law O__law_right O__law_well O__law_cell_at
    exact O_law
  exact ⟨_, fun s v => .of_eq rfl, fun base _ _ => okf_end (main base) hfa ⟨_, l30, rfl⟩⟩
end K1

open PySem PySem.W PyProof.Rows
set_option maxHeartbeats 0 in
theorem PySem.Challenge.cw_hornmill_k01_terms_told_holds : PySem.Challenge.rw_hornmill_k01_terms_told.Holds := by
  w_on; o_law; k_head; (case hw => w_witness2)
  k_fill
  refine L2.walk_of (l := PySem.Challenge.rw_hornmill_k01_terms_told) (n := 63) (k := 10) (x := "_law_script") (CX := fun _ => L2.CX0) (sp := fun w => K1.sp_law _ 63) rfl (by decide) rfl ⟨rfl, by decide, by decide⟩ (fun w h Y => PySem.W.kIn_of Y) ?F (fun _ _ a ns hl _ hS => ⟨a, ns, rfl, hl, hS, fun _ => rfl⟩) (fun _ _ _ _ _ h => h)
  case F =>
    intro w mg fa h KX G hmg
    open K1 in
    refine' all_mk KX G hmg ?a0 ?l0 ?c0 ?k0 ?a1 ?l1 ?c1 ?k1 ?a2 ?l2 ?c2 ?k2 ?a3 ?l3 ?c3 ?k3 ?a4 ?l4 ?c4 ?k4 ?a5 ?l5 ?c5 ?k5 ?a6 ?l6 ?c6 ?k6 ?a7 ?l7 ?c7 ?k7 ?a8 ?l8 ?c8 ?k8 ?a9 ?l9 ?c9 ?k9 ?a10 ?l10 ?c10 ?k10 ?a11 ?l11 ?c11 ?k11 ?a12 ?l12 ?c12 ?k12 ?a13 ?l13 ?c13 ?k13 ?t13 ?u13 ?a14 ?l14 ?c14 ?k14 ?a15 ?l15 ?c15 ?k15 ?a16 ?l16 ?c16 ?k16 ?a17 ?l17 ?c17 ?k17 ?a18 ?l18 ?c18 ?k18 ?a19 ?l19 ?c19 ?k19 ?a20 ?l20 ?c20 ?k20 ?a21 ?l21 ?c21 ?k21 ?a22 ?l22 ?c22 ?k22 ?a23 ?l23 ?c23 ?k23 ?a24 ?l24 ?c24 ?k24 ?a25 ?l25 ?c25 ?k25 ?a26 ?l26 ?c26 ?k26 ?t26 ?u26 ?a27 ?l27 ?c27 ?k27 ?a28 ?l28 ?c28 ?k28 ?a29 ?l29 ?c29 ?k29 ?a30 ?l30 ?c30 ?k30 ?z_isinstance ?z_int ?z_bool ?z_tuple ?z_len ?z_abs ?z_all ?z_str ?z_ord ?z_list ?z_enumerate ?z_range ?z_dict ?z_max ?z_min ?v_MOST_SIGNS ?v_MOST_ARGUMENTS ?v_TOO_GREAT
    (case a0 => k_is)
    (case l0 => k_is)
    (case c0 => k_is)
    (case k0 => k_is)
    (case a1 => k_is)
    (case l1 => k_is)
    (case c1 => k_is)
    (case k1 => k_is)
    (case a2 => k_is)
    (case l2 => k_is)
    (case c2 => k_is)
    (case k2 => k_is)
    (case a3 => k_is)
    (case l3 => k_is)
    (case c3 => k_is)
    (case k3 => k_is)
    (case a4 => k_is)
    (case l4 => k_is)
    (case c4 => k_is)
    (case k4 => k_is)
    (case a5 => k_is)
    (case l5 => k_is)
    (case c5 => k_is)
    (case k5 => k_is)
    (case a6 => k_is)
    (case l6 => k_is)
    (case c6 => k_is)
    (case k6 => k_is)
    (case a7 => k_is)
    (case l7 => k_is)
    (case c7 => k_is)
    (case k7 => k_is)
    (case a8 => k_is)
    (case l8 => k_is)
    (case c8 => k_is)
    (case k8 => k_is)
    (case a9 => k_is)
    (case l9 => k_is)
    (case c9 => k_is)
    (case k9 => k_is)
    (case a10 => k_is)
    (case l10 => k_is)
    (case c10 => k_is)
    (case k10 => k_is)
    (case a11 => k_is)
    (case l11 => k_is)
    (case c11 => k_is)
    (case k11 => k_is)
    (case a12 => k_is)
    (case l12 => k_is)
    (case c12 => k_is)
    (case k12 => k_is)
    (case a13 => k_is)
    (case l13 => k_is)
    (case c13 => k_is)
    (case k13 => k_is)
    (case t13 => k_is)
    (case u13 => exact rfl)
    (case a14 => k_is)
    (case l14 => k_is)
    (case c14 => k_is)
    (case k14 => k_is)
    (case a15 => k_is)
    (case l15 => k_is)
    (case c15 => k_is)
    (case k15 => k_is)
    (case a16 => k_is)
    (case l16 => k_is)
    (case c16 => k_is)
    (case k16 => k_is)
    (case a17 => k_is)
    (case l17 => k_is)
    (case c17 => k_is)
    (case k17 => k_is)
    (case a18 => k_is)
    (case l18 => k_is)
    (case c18 => k_is)
    (case k18 => k_is)
    (case a19 => k_is)
    (case l19 => k_is)
    (case c19 => k_is)
    (case k19 => k_is)
    (case a20 => k_is)
    (case l20 => k_is)
    (case c20 => k_is)
    (case k20 => k_is)
    (case a21 => k_is)
    (case l21 => k_is)
    (case c21 => k_is)
    (case k21 => k_is)
    (case a22 => k_is)
    (case l22 => k_is)
    (case c22 => k_is)
    (case k22 => k_is)
    (case a23 => k_is)
    (case l23 => k_is)
    (case c23 => k_is)
    (case k23 => k_is)
    (case a24 => k_is)
    (case l24 => k_is)
    (case c24 => k_is)
    (case k24 => k_is)
    (case a25 => k_is)
    (case l25 => k_is)
    (case c25 => k_is)
    (case k25 => k_is)
    (case a26 => k_is)
    (case l26 => k_is)
    (case c26 => k_is)
    (case k26 => k_is)
    (case t26 => k_is)
    (case u26 => exact rfl)
    (case a27 => k_is)
    (case l27 => k_is)
    (case c27 => k_is)
    (case k27 => k_is)
    (case a28 => k_is)
    (case l28 => k_is)
    (case c28 => k_is)
    (case k28 => k_is)
    (case a29 => k_is)
    (case l29 => k_is)
    (case c29 => k_is)
    (case k29 => k_is)
    (case a30 => k_is)
    (case l30 => k_is)
    (case c30 => k_is)
    (case k30 => k_is)
    (case z_isinstance => k_is)
    (case z_int => k_is)
    (case z_bool => k_is)
    (case z_tuple => k_is)
    (case z_len => k_is)
    (case z_abs => k_is)
    (case z_all => k_is)
    (case z_str => k_is)
    (case z_ord => k_is)
    (case z_list => k_is)
    (case z_enumerate => k_is)
    (case z_range => k_is)
    (case z_dict => k_is)
    (case z_max => k_is)
    (case z_min => k_is)
    (case v_MOST_SIGNS => k_is)
    (case v_MOST_ARGUMENTS => k_is)
    (case v_TOO_GREAT => k_is)
