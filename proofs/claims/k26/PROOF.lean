import PyProof.Rows.All
import Wide.All
import OpenK.AllK
import Wide.FinOn
import HandS.ForMost
import HandS.ForExc
import HandS.Flow
import HandS.Style
import HandS.IsInst
import HandS.TupAny
import HandS.Deep
import HandS.RaiseMore
import HandS.Conv
import HandS.FStr
import HandS.Walk
import PyProof.Rows.StrCase
import HandS.Ends
import HandS.ExcInit
import HandS.ExcField
import HandS.ExcIs
import HandS.TryMany
import HandS.ClsMeth
import HandS.NoneIn
import KE.KExcIs
import PyProof.StrBlock2
import PyProof.Rows.StrMul
import HandS.Text
import HandS.TupSets
import KE.SortData
import HandS.Strs
import HandS.Zip
import HandS.DictComp
import HandS.SetBool
import HandS.OwnEq
import HandS.More
import KE.KDictPairs
import PyProof.EqKinds
import PyProof.FactsAll.dict_1
import PyProof.Rows.InDataRows
import KE.GoesMore
import HandS.Dict
import HandS.Star
import PyProof.SliceList
import PySem.Challenge.RW_mayforget_k26_rows_by_own_cases
import HandS.Codes
import HandS.WordsDict
set_option Elab.async false
set_option linter.all false
set_option maxRecDepth 100000
set_option maxHeartbeats 4000000
/-! My own small layer over the hand layer, part A: defs whose callers' repr guards are known to be empty; calls of them. -/
namespace G
open PySem PySem.Spec PyProof.Rows L2

/-- room for k calls, and no container is being shown -/
structure Rm (k : Nat) (A : Around) : Prop where
  room : Room k A
  gd : A.guards = some []
theorem Rm.mono {j k : Nat} {A : Around} (r : Rm k A) (h : j ≤ k) : Rm j A := ⟨r.room.mono h, r.gd⟩
theorem Rm.in_def {k : Nat} {A : Around} (r : Rm (k + 1) A) (env : Env) : Rm k (A.deeper env) := ⟨r.room.deeper env, r.gd⟩
theorem Rm.hu {k : Nat} {A : Around} (r : Rm k A) : A.units + 1 < cLine := hu_of r.room
theorem Rm.hu64 {k : Nat} {A : Around} (r : Rm k A) : A.units + 64 < cLine := r.room.units
/-- what is asked of the place where values are shown or compared, in a suite, too -/
structure Rq (A : Around) : Prop where
  hu64 : A.units + 64 < cLine
  gd : A.guards = some []
theorem Rq.hu {A : Around} (r : Rq A) : A.units + 1 < cLine := Nat.lt_of_le_of_lt (Nat.add_le_add_left (by decide) _) r.hu64
theorem Rm.q {k : Nat} {A : Around} (r : Rm k A) : Rq A := ⟨r.hu64, r.gd⟩
theorem Rq.mark {A : Around} (r : Rq A) (v : Option Value) : Rq (A.mark v) := ⟨r.hu64, r.gd⟩

section
variable (P : Program) (w : World) (K : PySem.W.Frag) (mg : Str → Option Value) (base : Heap)
/-- the def at f keeps sp, called where nothing is being shown -/
structure FnG (k : Nat) (f : Addr) (fd : FuncData) (ps : List Str) (sp : Sp) : Prop where
  arity : ∀ vs H Q E, sp vs H Q E → vs.length = ps.length
  go : ∀ (A : Around) (outer : List Env) (s : Shared) (H : Hp) (args : Args) (us : List Value) (vs : List V) (Q : VK) (E : XK), Rm k A →
    Env0 P w K mg base A outer s H → BindsTo s fd args (ps.zip us) → Vals vs us → sp vs H Q E →
    codeAny (model P w) A (.call (.ref f) args) (CR (L2.CX P w) outer P w H s Q E) s
/-- a def of the module, by its name -/
def Cal (k : Nat) (x : Str) (ps : List Str) (sp : Sp) : Prop :=
  ∃ f fd, FnG P w K mg base k f fd ps sp ∧ mg x = some (.ref f) ∧ PySem.W.keepIn K (.ref f) = true ∧ Binds K fd ps []
end
section
variable {P : Program} {w : World} {K : PySem.W.Frag} {mg : Str → Option Value} {base : Heap}
theorem FnG.up {j k : Nat} {f : Addr} {fd : FuncData} {ps : List Str} {sp : Sp} (F : FnG P w K mg base j f fd ps sp) (h : j ≤ k) : FnG P w K mg base k f fd ps sp :=
  ⟨F.arity, fun A outer s H args us vs Q E r => F.go A outer s H args us vs Q E (r.mono h)⟩
theorem FnG.weak {k : Nat} {f : Addr} {fd : FuncData} {ps : List Str} {sp sp' : Sp} (F : FnG P w K mg base k f fd ps sp) (h : ∀ vs H Q E, sp' vs H Q E → sp vs H Q E) : FnG P w K mg base k f fd ps sp' :=
  ⟨fun vs H Q E q => F.arity vs H Q E (h _ _ _ _ q), fun A outer s H args us vs Q E r e b v q => F.go A outer s H args us vs Q E r e b v (h _ _ _ _ q)⟩
theorem Cal.up {j k : Nat} {x : Str} {ps : List Str} {sp : Sp} (C : Cal P w K mg base j x ps sp) (h : j ≤ k) : Cal P w K mg base k x ps sp :=
  let ⟨f, fd, F, r⟩ := C
  ⟨f, fd, F.up h, r⟩
theorem Cal.weak {k : Nat} {x : Str} {ps : List Str} {sp sp' : Sp} (C : Cal P w K mg base k x ps sp) (h : ∀ vs H Q E, sp' vs H Q E → sp vs H Q E) : Cal P w K mg base k x ps sp' :=
  let ⟨f, fd, F, r⟩ := C
  ⟨f, fd, F.weak h, r⟩
end

section
variable {X : Cx} {k : Nat} {f C : Addr} {fd : FuncData} {ps ks : List Str} {sp : Sp} {E : XK} {x m : Str} {p pos apos : Pos} {e o : Expr} {es : List Expr} {kws : List Keyword} {ta : TE} {t tk : TA}
/-- the callee runs, its values bound as told -/
theorem fn_go {pins : List (Addr × Obj)} {σ : L2.St} {H : Hp} {s : Shared} {Q : VK} {us all : List Value} {kv : List (Str × Value)} {vs : List V} (F : FnG X.prog X.w X.K X.mg X.base k f fd ps sp) (r : Rm k X.A)
    (hb : BindsTo s fd ⟨us, kv⟩ (ps.zip all)) (hx : Passes (L2.CX X.prog X.w) X E) (I : Inv X pins σ H s) (rv : Vals vs all) (h : sp vs H Q E) :
    wpAny (model X.prog X.w) X.A (call (.ref f) us kv) (EP X pins σ Q) X.xe s := by
  have run := F.go X.A X.stack s H ⟨us, kv⟩ all vs Q E r I.env0 hb rv h
  refine wpAny_call (codeAny_mono run ?_)
  intro res s' hq
  match res, hq with
  | .error er, hq => exact hx pins σ H s er s' I hq
  | .ok (.ret u), hq => exact I.after hq
  | .ok .next, hq => exact hq.elim
  | .ok .brk, hq => exact hq.elim
  | .ok .cont, hq => exact hq.elim
/-- f(e, ..) -/
theorem g_call (Cf : Cal X.prog X.w X.K X.mg X.base k x ps sp) (r : Rm k X.A) (hg : Gl X x) (hx : Passes (L2.CX X.prog X.w) X E) (ha : PA X (e :: es) t) (hdb : (x == ("__debug__" : Str)) = false := by decide)
    (he : starEach (e :: es) X.env = (false, eval e X.env) :: starEach es X.env := by rfl) (hpl : (backTo pos (starEach es X.env)).any (·.1) = false := by rfl) :
    PE X (.Call (.Name x p) (e :: es) [] pos) (tCall sp [] E t) := by
  obtain ⟨f, fd, F, hm, hk, hb⟩ := Cf
  constructor
  intro pins s σ H Q I h
  apply wpAny_Call_Name_kw
  refine ld_glob I hg hm ?_ hdb
  refine PySem.W.callWith_K (h₀ := X.base) I.ok.mod.kin hk ?_ he hpl
  refine thn (ha.run pos pins s σ H _ I h) ?_
  rintro us s1 ⟨vs, H1, I1, rv, q⟩
  refine ⟨I1.kIn, ?_⟩
  rw [List.append_nil] at q
  have hl : us.length = ps.length := by rw [← rv.length]; exact F.arity _ _ _ _ q
  have hb' := hb s1 us I1.kIn (by rw [List.append_nil]; exact hl)
  rw [List.append_nil] at hb'
  exact fn_go F r hb' hx I1 rv q
/-- f() -/
theorem g_call0 (Cf : Cal X.prog X.w X.K X.mg X.base k x [] sp) (r : Rm k X.A) (hg : Gl X x) (hx : Passes (L2.CX X.prog X.w) X E) (hdb : (x == ("__debug__" : Str)) = false := by decide) :
    PE X (.Call (.Name x p) [] [] pos) (tCall sp [] E tNil) := by
  obtain ⟨f, fd, F, hm, hk, hb⟩ := Cf
  constructor
  intro pins s σ H Q I h
  apply wpAny_Call_Name_kw
  refine ld_glob I hg hm ?_ hdb
  have hb' := hb s [] I.kIn rfl
  exact PySem.W.callWith_K0 I.kIn hk (fn_go (us := []) (all := []) F r hb' hx I .nil h)
end

section
variable {P : Program} {w : World} {K : PySem.W.Frag} {mg : Str → Option Value} {base : Heap}
/-- a body, run once its frame is laid -/
theorem body_go {cdv : Value} {A : Around} {outer : List Env} {N : List Str} {qual : Str} {scope : Scope} {f : Addr} {sts : List Stmt} {s s1 : Shared} {H : Hp} {vs : List V} {Q : VK} {E : XK} {t : TS}
    (I : Inv (cxOf (L2.CX P w) P w K mg base N qual scope f cdv A outer s H E) [] (start N vs) H s1) (ht : PSs (cxOf (L2.CX P w) P w K mg base N qual scope f cdv A outer s H E) sts t)
    (hq : t { nx := fun _ H' => Q .non H', rt := Q } (start N vs) H) :
    wpAny (model P w) (A.deeper (envOfC qual scope s.heap.objs.size f cdv)) (execs sts (envOfC qual scope s.heap.objs.size f cdv))
      (fun fl s' => match fl with
        | .ret u => CE outer P w H s Q u s'
        | .next => CE outer P w H s Q .none s'
        | _ => False)
      (cxOf (L2.CX P w) P w K mg base N qual scope f cdv A outer s H E).xe s1 := by
  refine thn (ht.run [] s1 _ H _ I hq) ?_
  intro fl s' z
  have close : ∀ (σ' : L2.St) (H' : Hp) (v : V) (u : Value), Inv (cxOf (L2.CX P w) P w K mg base N qual scope f cdv A outer s H E) [] σ' H' s' → RelV v u → Q v H' → CE outer P w H s Q u s' := by
    intro σ' H' v u J rv q
    exact ⟨v, H', J.os, J.bare, J.base, J.hok, rv, q⟩
  match fl, z with
  | .ret u, ⟨v, σ', H', J, rv, q⟩ => exact close σ' H' v u J rv q
  | .next, ⟨σ', H', J, q⟩ => exact close σ' H' .non .none J rfl q
  | .brk, ⟨_, _, _, q⟩ => exact q
  | .cont, ⟨_, _, _, q⟩ => exact q
/-- THE RULE for a def of the text -/
theorem fnG_of {x qual : Str} {st : Stmt} {f : Addr} {fd : FuncData} {N ps : List Str} {k : Nat} {sp : Sp} (F : Fun K x qual st f fd) (S : FnScope N ps (defScope st)) (len : ∀ vs H Q E, sp vs H Q E → vs.length = ps.length)
    (body : ∀ (cdv : Value) (A : Around) (outer : List Env) (s : Shared) (H : Hp) (vs : List V) (Q : VK) (E : XK), Rm k (A.deeper (envOfC qual (defScope st) s.heap.objs.size f cdv)) → sp vs H Q E →
      ∃ t, PSs (cxOf (L2.CX P w) P w K mg base N qual (defScope st) f cdv A outer s H E) (defBody st) t ∧ t { nx := fun _ H' => Q .non H', rt := Q } (start N vs) H) :
    FnG P w K mg base (k + 1) f fd ps sp := by
  obtain ⟨oc, od, kV, doc, pm, an, cdv, ct, osl, rfl, lk, hcd⟩ := F.ex
  refine ⟨len, ?_⟩
  intro A outer s H args us vs Q E r e0 hb rv hsp
  have lv := len _ _ _ _ hsp
  have inK : K.In s.heap := e0.mod.kin.keeps (fun b o z => (e0.bs b o z).1)
  have nol : s.heap.NoLimit := e0.mod.nolimit.keeps (fun b o z => (e0.bs b o z).1)
  have kinds : ∀ y ∈ ps.zip us, (defScope st).names.lookup y.1 = some .local ∨
      ((defScope st).names.lookup y.1 = some .cell ∧ ((cellsFrom (s.heap.objs.size + 1) (defScope st).names []).lookup y.1).isSome = true) := by
    rintro ⟨n, v⟩ hy
    rcases S.par n (List.of_mem_zip hy).1 with q | q
    · exact Or.inl q
    · exact Or.inr ⟨q, PySem.W.cellsFrom_some _ _ _ (Or.inl q)⟩
  refine codeAny_call_function r.room.depth (inK _ _ lk) rfl S.co S.gen rfl (PySem.W.codeRec_of inK hcd) (hb _ _ _ _ ?_)
  refine wpAny_newFunctionEnv_cells S.kind kinds ?_
  intro env he s1 x
  subst he
  refine ⟨nol.keeps x.toInCall.keep, codeAny_func ?_⟩
  obtain ⟨t, ht, hq⟩ := body cdv A outer s H vs Q E (r.in_def _) hsp
  have I := inv_start (CX := L2.CX P w) (E := E) S r.room.hd e0 lv rv x
  refine wpAny_mono (body_go I ht hq) ?_ (fun _ _ z => z)
  intro fl s' z
  match fl, z with
  | .ret u, z => exact z
  | .next, z => exact z
  | .brk, z => exact z.elim
  | .cont, z => exact z.elim
end
end G
set_option maxHeartbeats 4000000
/-! Part R: plain data at any depth (with dicts of int and text keys), and repr of it. -/
namespace G
open PySem PySem.Spec PyProof.Rows L2
mutual
/-- v stands for the data d -/
inductive Dt (K : PySem.W.Frag) (H : Hp) : V → PyData → Prop
  | non : Dt K H .non .none
  | bl (b : Bool) : Dt K H (.bl b) (.bool b)
  | int (i : Int) : Dt K H (.int i) (.int i)
  | str (x : Str) : Dt K H (.str x) (.str x)
  | lst {a : Addr} {xs : List V} {ds : List PyData} : SqL K H a xs → DtL K H xs ds → Dt K H (.ref a) (.list ds)
  | tup {a : Addr} {xs : List V} {ds : List PyData} : SqT K H a xs → DtL K H xs ds → Dt K H (.ref a) (.tuple ds)
  | dic {a : Addr} {kvs : List (Key × V)} {ps : List (PyData × PyData)} : H a = some (.dK kvs) → DtL K H (kvs.map fun p => kV p.1) (ps.map (·.1)) → DtL K H (kvs.map (·.2)) (ps.map (·.2)) → Dt K H (.ref a) (.dict ps)
inductive DtL (K : PySem.W.Frag) (H : Hp) : List V → List PyData → Prop
  | nil : DtL K H [] []
  | cons {v : V} {vs : List V} {d : PyData} {ds : List PyData} : Dt K H v d → DtL K H vs ds → DtL K H (v :: vs) (d :: ds)
end
theorem DtL.length {K : PySem.W.Frag} {H : Hp} : ∀ {vs : List V} {ds : List PyData}, DtL K H vs ds → vs.length = ds.length
  | _, _, .nil => rfl
  | _, _, .cons _ t => by rw [List.length_cons, List.length_cons, t.length]
section
variable {K : PySem.W.Frag} {H H' : Hp}
mutual
theorem Dt.mono (m : Same H H') : ∀ {v : V} {d : PyData}, Dt K H v d → Dt K H' v d
  | _, _, .non => .non
  | _, _, .bl b => .bl b
  | _, _, .int i => .int i
  | _, _, .str x => .str x
  | _, _, .lst h t => .lst (m.seq h) (t.mono m)
  | _, _, .tup h t => .tup (by
      rcases h with (h | ⟨o, h⟩) | h
      · exact .inl (.inl (m _ _ h))
      · exact .inl (.inr ⟨o, m _ _ h⟩)
      · exact .inr h) (t.mono m)
  | _, _, .dic h t u => .dic (m _ _ h) (t.mono m) (u.mono m)
theorem DtL.mono (m : Same H H') : ∀ {vs : List V} {ds : List PyData}, DtL K H vs ds → DtL K H' vs ds
  | _, _, .nil => .nil
  | _, _, .cons h t => .cons (h.mono m) (t.mono m)
end
end
/-! ### what stands in the heap -/
section
variable {X : Cx} {pins : List (Addr × Obj)} {σ : L2.St} {H : Hp} {s : Shared}
theorem pairs_keys {P : Program} {w : World} : ∀ {es : List DictEntry} {vs : List (Key × Value)} {kvs : List (Key × V)}, PySem.Pairs (mixKind P w) es vs → KV kvs vs →
    Vals (kvs.map fun p => kV p.1) (es.map (·.key)) ∧ Vals (kvs.map (·.2)) (es.map (·.val))
  | _, _, _, .nil, .nil => ⟨.nil, .nil⟩
  | _, _, _, .cons (e := e) (kv := kv) hk hv t, .cons (a := p) r u => by
    obtain ⟨a, b⟩ := pairs_keys t u
    obtain ⟨e1, e2⟩ := r
    refine ⟨.cons ?_ a, .cons ?_ b⟩
    · show L2.RelV (kV p.1) e.key
      rw [e1]
      exact relV_key hk
    · show L2.RelV p.2 e.val
      rw [hv]
      exact e2
/-- a dict's object -/
theorem dict_obj {a : Addr} {kvs : List (Key × V)} (I : Inv X pins σ H s) (h : H a = some (.dK kvs)) : (a == sysModules) = false ∧ ∃ (o : Obj) (es : Array DictEntry) (n : Nat), s.heap.get? a = some o ∧ o.cls = .type "dict" ∧ o.data = .dict es n ∧
    Vals (kvs.map fun p => kV p.1) (es.toList.map (·.key)) ∧ Vals (kvs.map (·.2)) (es.toList.map (·.val)) := by
  obtain ⟨_, low, vs, rv, o, es, ep, e1, e2, e3, _, e5, _⟩ := (show ObjOk X.prog X.w H s.heap a (.dK kvs) from I.hok a _ h)
  obtain ⟨a, b⟩ := pairs_keys e5 rv
  exact ⟨low, o, es, ep, e1, e2.1, e3, a, b⟩
/-- what is to be known of a value for it to be shown -/
def Sh (X : Cx) (h : Heap) (u : Value) (d : PyData) : Prop := ∃ bs, ReadAtMost h d.depth bs ∧ ReprK X.prog X.w bs h d.depth u d.shown
def ShL (X : Cx) (h : Heap) (us : List Value) (ds : List PyData) : Prop := ∃ bs, ReadAtMost h (PyData.depthAll ds) bs ∧ ReprAllK X.prog X.w bs h (PyData.depthAll ds) us (PyData.shownAll ds)
theorem sh_list {h : Heap} {a : Addr} {o : Obj} {its : List Value} {n : Nat} {ds : List PyData} {as : List Addr} (e1 : h.get? a = some o) (e2 : o.cls = .type "list") (e3 : o.data = .seq its.toArray n) (hr : ReadsAll h its ds as)
    (hs : ShL X h its ds) : Sh X h (.ref a) (.list ds) := by
  obtain ⟨bs, hb, hk⟩ := hs
  have r : Reads h (.ref a) (.list ds) _ := .list e1 e2 e3 hr
  have na : a ∉ bs := not_mem_of_deeper r (by simp only [PyData.depth]; omega) hb
  refine ⟨a :: bs, ReadAtMost.cons r (by simp only [PyData.depth]; omega) hb, ?_⟩
  simp only [PyData.depth, PyData.shown]
  cases its with
  | nil =>
    cases hr
    simp only [PyData.shownAll, listText_nil]
    exact ReprK.listEmpty e1 e2 e3
  | cons x l =>
    refine ReprK.list e1 e2 e3 na ?_ ?_
    · have z := hk.length_eq
      simpa using z
    · intro i y q
      exact hk.item i y (by simpa using q)
theorem sh_tup {h : Heap} {a : Addr} {o : Obj} {its : List Value} {n : Nat} {ds : List PyData} {as : List Addr} (e1 : h.get? a = some o) (e2 : o.cls = .type "tuple") (e3 : o.data = .seq its.toArray n) (hr : ReadsAll h its ds as)
    (hs : ShL X h its ds) : Sh X h (.ref a) (.tuple ds) := by
  obtain ⟨bs, hb, hk⟩ := hs
  have r : Reads h (.ref a) (.tuple ds) _ := .tuple e1 e2 e3 hr
  have na : a ∉ bs := not_mem_of_deeper r (by simp only [PyData.depth]; omega) hb
  refine ⟨a :: bs, ReadAtMost.cons r (by simp only [PyData.depth]; omega) hb, ?_⟩
  simp only [PyData.depth, PyData.shown]
  exact ReprK.tuple e1 e2 e3 na hk
theorem sh_dict {h : Heap} {a : Addr} {o : Obj} {es : Array DictEntry} {n : Nat} {ps : List (PyData × PyData)} {as bs : List Addr} (low : (a == sysModules) = false) (e1 : h.get? a = some o) (e2 : o.cls = .type "dict") (e3 : o.data = .dict es n)
    (h1 : ReadsAll h (es.toList.map (·.key)) (ps.map (·.1)) as) (h2 : ReadsAll h (es.toList.map (·.val)) (ps.map (·.2)) bs)
    (s1 : ShL X h (es.toList.map (·.key)) (ps.map (·.1))) (s2 : ShL X h (es.toList.map (·.val)) (ps.map (·.2))) : Sh X h (.ref a) (.dict ps) := by
  obtain ⟨b1, hb1, k1⟩ := s1
  obtain ⟨b2, hb2, k2⟩ := s2
  have r : Reads h (.ref a) (.dict ps) _ := .dict e1 e2 e3 h1 h2
  have hb : ReadAtMost h (PyData.depthKv ps) (b1 ++ b2) := (hb1.mono (PyData.depthAll_keys_le ps)).append (hb2.mono (PyData.depthAll_vals_le ps))
  have na : a ∉ b1 ++ b2 := not_mem_of_deeper r (by simp only [PyData.depth]; omega) hb
  refine ⟨a :: (b1 ++ b2), ReadAtMost.cons r (by simp only [PyData.depth]; omega) hb, ?_⟩
  simp only [PyData.depth, PyData.shown, PyData.shownKv_eq]
  refine ReprK.dict e1 e2 e3 low na (ReprEntriesK.of_two es.toList _ _ ?_ ?_)
  · exact k1.more_le (fun b z => List.mem_append_left _ z) (PyData.depthAll_keys_le ps)
  · exact k2.more_le (fun b z => List.mem_append_right _ z) (PyData.depthAll_vals_le ps)
mutual
/-- data whose ints are short enough to be shown, and whose texts are short enough -/
def fits : PyData → Bool
  | .none => true
  | .bool _ => true
  | .int i => decide (i.natAbs.log2 < 1920)
  | .str x => decide ((reprText x).length ≤ sizeLine)
  | .list ds => fitsL ds
  | .tuple ds => fitsL ds
  | .dict ps => fitsP ps
def fitsL : List PyData → Bool
  | [] => true
  | d :: ds => fits d && fitsL ds
def fitsP : List (PyData × PyData) → Bool
  | [] => true
  | (a, b) :: ps => (fits a && fits b) && fitsP ps
end
theorem fitsP_eq : ∀ ps : List (PyData × PyData), fitsP ps = true → fitsL (ps.map (·.1)) = true ∧ fitsL (ps.map (·.2)) = true
  | [], _ => ⟨by simp [fitsL], by simp [fitsL]⟩
  | (a, b) :: ps, h => by
    simp only [fitsP, Bool.and_eq_true] at h
    obtain ⟨⟨h1, h2⟩, h3⟩ := h
    obtain ⟨i1, i2⟩ := fitsP_eq ps h3
    simp only [List.map_cons, fitsL, Bool.and_eq_true]
    exact ⟨⟨h1, i1⟩, h2, i2⟩
mutual
theorem Dt.look (I : Inv X pins σ H s) : ∀ {v : V} {d : PyData}, Dt X.K H v d → ∀ {u : Value}, RelV v u → (∃ as, Reads s.heap u d as) ∧ (fits d = true → Sh X s.heap u d)
  | _, _, .non, u, r => by
    cases r
    exact ⟨⟨_, .none⟩, fun _ => ⟨[], (fun _ z => nomatch z), by simp only [PyData.shown]; exact .of_is ReprIs.none _ _ _⟩⟩
  | _, _, .bl b, u, r => by
    cases r
    exact ⟨⟨_, .bool b⟩, fun _ => ⟨[], (fun _ z => nomatch z), by simp only [PyData.shown]; exact .of_is (ReprIs.bool b) _ _ _⟩⟩
  | _, _, .int i, u, r => by
    obtain ⟨t, rfl⟩ := r
    refine ⟨⟨_, .int i t⟩, fun z => ⟨[], (fun _ z => nomatch z), ?_⟩⟩
    simp only [PyData.shown]
    exact .of_is (ReprIs.int t (by simpa [fits] using z)) _ _ _
  | _, _, .str x, u, r => by
    obtain ⟨t, rfl⟩ := r
    refine ⟨⟨_, .str x t⟩, fun z => ⟨[], (fun _ z => nomatch z), ?_⟩⟩
    simp only [PyData.shown]
    exact .of_is (ReprIs.str x t (by simpa [fits] using z)) _ _ _
  | _, _, .lst (ds := ds) hq hs, u, r => by
    cases r
    obtain ⟨its, rv, ⟨o, n, e1, e2, _, e3⟩, _⟩ := I.list hq
    obtain ⟨⟨as, hr⟩, sh⟩ := DtL.look I hs rv
    exact ⟨⟨_, .list e1 e2 e3 hr⟩, fun z => sh_list e1 e2 e3 hr (sh (by simpa [fits] using z))⟩
  | _, _, .tup (ds := ds) hq hs, u, r => by
    cases r
    obtain ⟨its, rv, ⟨o, e1, e2, n, e3⟩, _⟩ := I.tuple hq
    obtain ⟨⟨as, hr⟩, sh⟩ := DtL.look I hs rv
    exact ⟨⟨_, .tuple e1 e2 e3 hr⟩, fun z => sh_tup e1 e2 e3 hr (sh (by simpa [fits] using z))⟩
  | _, _, .dic (ps := ps) hq hk hv, u, r => by
    cases r
    obtain ⟨low, o, es, n, e1, e2, e3, r1, r2⟩ := dict_obj I hq
    obtain ⟨⟨as, h1⟩, s1⟩ := DtL.look I hk r1
    obtain ⟨⟨bs, h2⟩, s2⟩ := DtL.look I hv r2
    refine ⟨⟨_, .dict e1 e2 e3 h1 h2⟩, fun z => ?_⟩
    obtain ⟨z1, z2⟩ := fitsP_eq ps (by simpa [fits] using z)
    exact sh_dict low e1 e2 e3 h1 h2 (s1 z1) (s2 z2)
theorem DtL.look (I : Inv X pins σ H s) : ∀ {vs : List V} {ds : List PyData}, DtL X.K H vs ds → ∀ {us : List Value}, Vals vs us → (∃ as, ReadsAll s.heap us ds as) ∧ (fitsL ds = true → ShL X s.heap us ds)
  | _, _, .nil, us, r => by
    cases r
    exact ⟨⟨_, .nil⟩, fun _ => ⟨[], (fun _ z => nomatch z), by simp only [PyData.shownAll]; exact .nil⟩⟩
  | _, _, .cons (d := d) (ds := ds) h t, us, r => by
    cases r with
    | cons r1 r2 =>
      obtain ⟨⟨as, q1⟩, z1⟩ := Dt.look I h r1
      obtain ⟨⟨bs, q2⟩, z2⟩ := DtL.look I t r2
      refine ⟨⟨_, .cons q1 q2⟩, fun z => ?_⟩
      simp only [fitsL, Bool.and_eq_true] at z
      obtain ⟨b1, hb1, k1⟩ := z1 z.1
      obtain ⟨b2, hb2, k2⟩ := z2 z.2
      refine ⟨b1 ++ b2, ?_, ?_⟩
      · intro b hm
        simp only [PyData.depthAll]
        rcases List.mem_append.mp hm with hm | hm
        · obtain ⟨d', as', r', hd'⟩ := hb1 b hm
          exact ⟨d', as', r', Nat.le_trans hd' (Nat.le_max_left _ _)⟩
        · obtain ⟨d', as', r', hd'⟩ := hb2 b hm
          exact ⟨d', as', r', Nat.le_trans hd' (Nat.le_max_right _ _)⟩
      · simp only [PyData.depthAll, PyData.shownAll]
        refine .cons ((k1.more fun b z => List.mem_append_left _ z).level_le (Nat.le_max_left _ _)) ?_
        exact k2.more_le (fun b z => List.mem_append_right _ z) (Nat.le_max_right _ _)
end
end
/-- repr(x), x data: its text -/
def rRepr (K : PySem.W.Frag) : List V → Hp → VK → Prop := fun xs H Q => ∃ v d, xs = [v] ∧ Dt K H v d ∧ fits d = true ∧ d.shown.length ≤ sizeLine ∧ d.depth ≤ 60 ∧ Q (.str d.shown) H
theorem call_repr {X : Cx} (r : Rq X.A) : CallR X (.builtin "repr") (rRepr X.K) := by
  intro pins s σ H xs us Q I rv h
  obtain ⟨v, d, rfl, hd, hf, hz, h60, q⟩ := h
  obtain ⟨u, rfl, ru⟩ := vals1 rv
  have hu := r.hu64
  cases hd with
  | non =>
    cases ru
    exact PySem.P.repr_of_none ⟨.str _, H, I.tok _, ⟨_, rfl⟩, by simpa [PyData.shown] using q⟩
  | bl b =>
    cases ru
    exact PySem.P.repr_of_bool ⟨.str _, H, I.tok _, ⟨_, rfl⟩, by simpa [PyData.shown] using q⟩
  | int i =>
    obtain ⟨t, rfl⟩ := ru
    exact PySem.P.repr_of_int (by simpa [fits] using hf) ⟨.str _, H, I.tok _, ⟨_, rfl⟩, by simpa [PyData.shown] using q⟩
  | str x =>
    obtain ⟨t, rfl⟩ := ru
    exact PySem.P.repr_of_str ⟨.str _, H, I.tok _, ⟨_, rfl⟩, by simpa [PyData.shown] using q⟩ (by simpa [fits] using hf)
  | lst hq hs =>
    rename_i a xs ds
    cases ru
    obtain ⟨its, rv, ⟨o, n, e1, e2, _, e3⟩, _⟩ := I.list hq
    obtain ⟨⟨as, hr⟩, sl⟩ := DtL.look I hs rv
    obtain ⟨bs, hb, hk⟩ := sl (by simpa [fits] using hf)
    have na : a ∉ bs := not_mem_of_deeper (.list e1 e2 e3 hr) (by simp only [PyData.depth]; omega) hb
    simp only [PyData.depth] at h60
    simp only [PyData.shown] at q hz
    refine call_repr_slot (by omega) ⟨o, e1, e2⟩ F.slot_list_repr.toG ?_
    cases its with
    | nil =>
      cases hr
      simp only [PyData.shownAll, listText_nil] at q
      exact call_list_repr_empty ⟨o, e1, e2⟩ e1 e3 ⟨_, _, rfl, .str _, H, I.kept fun _ _ z => z, ⟨_, rfl⟩, q⟩
    | cons x l =>
      refine call_list_reprK e1 e2 e3 na (by have z := hk.length_eq; simpa using z) (fun i y z => hk.item i y (by simpa using z)) r.gd (fun b _ => Clear.nil b) ?_ (fun _ _ z => z) ?_ hz
      · show X.A.units + 1 + _ < cLine
        omega
      · intro h' u tk kp
        exact ⟨_, _, rfl, .str _, H, I.kept kp, ⟨_, rfl⟩, q⟩
  | tup hq hs =>
    rename_i a xs ds
    cases ru
    obtain ⟨its, rv, ⟨o, e1, e2, n, e3⟩, _⟩ := I.tuple hq
    obtain ⟨⟨as, hr⟩, sl⟩ := DtL.look I hs rv
    obtain ⟨bs, hb, hk⟩ := sl (by simpa [fits] using hf)
    have na : a ∉ bs := not_mem_of_deeper (.tuple e1 e2 e3 hr) (by simp only [PyData.depth]; omega) hb
    simp only [PyData.depth] at h60
    simp only [PyData.shown] at q hz
    refine call_repr_slot (by omega) ⟨o, e1, e2⟩ F.slot_tuple_repr ?_
    refine call_tuple_reprK e1 e2 e3 na hk r.gd (fun b _ => Clear.nil b) ?_ (fun _ _ z => z) ?_ hz
    · show X.A.units + 1 + _ < cLine
      omega
    · intro h' u tk kp
      exact ⟨_, _, rfl, .str _, H, I.kept kp, ⟨_, rfl⟩, q⟩
  | dic hq h1 h2 =>
    rename_i a kvs ps
    cases ru
    obtain ⟨low, o, es, n, e1, e2, e3, r1, r2⟩ := dict_obj I hq
    obtain ⟨⟨as, q1⟩, s1⟩ := DtL.look I h1 r1
    obtain ⟨⟨bs, q2⟩, s2⟩ := DtL.look I h2 r2
    obtain ⟨z1, z2⟩ := fitsP_eq ps (by simpa [fits] using hf)
    obtain ⟨b1, hb1, k1⟩ := s1 z1
    obtain ⟨b2, hb2, k2⟩ := s2 z2
    have hb : ReadAtMost s.heap (PyData.depthKv ps) (b1 ++ b2) := (hb1.mono (PyData.depthAll_keys_le ps)).append (hb2.mono (PyData.depthAll_vals_le ps))
    have na : a ∉ b1 ++ b2 := not_mem_of_deeper (.dict e1 e2 e3 q1 q2) (by simp only [PyData.depth]; omega) hb
    simp only [PyData.depth] at h60
    simp only [PyData.shown, PyData.shownKv_eq] at q hz
    refine call_repr_slot (by omega) ⟨o, e1, e2⟩ F.slot_dict_repr ?_
    refine call_dict_reprK e1 e2 e3 low na (ReprEntriesK.of_two es.toList _ _ (k1.more_le (fun b z => List.mem_append_left _ z) (PyData.depthAll_keys_le ps)) (k2.more_le (fun b z => List.mem_append_right _ z) (PyData.depthAll_vals_le ps)))
      r.gd (fun b _ => Clear.nil b) ?_ (fun _ _ z => z) ?_ hz
    · show X.A.units + 1 + _ < cLine
      omega
    · intro h' u tk kp
      exact ⟨_, _, rfl, .str _, H, I.kept kp, ⟨_, rfl⟩, q⟩
end G
set_option maxHeartbeats 4000000
/-! Part B: operators for several kinds of values at once, and what is owned of the heap. -/
namespace G
open PySem PySem.Spec PyProof.Rows L2
/-! ### the heap in two parts: G, which stays, and L, which is ours to change -/
structure Own (G H : Hp) (L : List (Addr × HO)) : Prop where
  sub : Same G H
  has : ∀ p ∈ L, H p.1 = some p.2 ∧ G p.1 = none
  nd : (L.map (·.1)).Nodup
section
variable {G H : Hp} {L R : List (Addr × HO)} {p q r t : Addr} {o o' u v z : HO}
theorem Own.at0 (O : Own G H ((p, o) :: R)) : H p = some o := (O.has (p, o) (by simp)).1
theorem Own.at1 (O : Own G H ((q, u) :: (p, o) :: R)) : H p = some o := (O.has (p, o) (by simp)).1
theorem Own.at2 (O : Own G H ((q, u) :: (r, v) :: (p, o) :: R)) : H p = some o := (O.has (p, o) (by simp)).1
theorem Own.at3 (O : Own G H ((q, u) :: (r, v) :: (t, z) :: (p, o) :: R)) : H p = some o := (O.has (p, o) (by simp)).1
theorem Own.no0 (O : Own G H ((p, o) :: R)) : G p = none := (O.has (p, o) (by simp)).2
theorem Own.tail (O : Own G H ((p, o) :: R)) : Own G H R := ⟨O.sub, fun x hx => O.has x (List.mem_cons_of_mem _ hx), (List.nodup_cons.mp (by simpa using O.nd)).2⟩
theorem Own.perm (O : Own G H L) (h : L.Perm R) : Own G H R := ⟨O.sub, fun x hx => O.has x (h.symm.mem_iff.mp hx), (h.map _).nodup_iff.mp O.nd⟩
theorem Own.swap {a b : Addr × HO} (O : Own G H (a :: b :: R)) : Own G H (b :: a :: R) := O.perm (List.Perm.swap b a R)
/-- the third to the front -/
theorem Own.rot3 {a b c : Addr × HO} (O : Own G H (a :: b :: c :: R)) : Own G H (c :: a :: b :: R) :=
  O.perm ((List.Perm.cons a (List.Perm.swap c b R)).trans (List.Perm.swap c a (b :: R)))
theorem Own.upd0 (O : Own G H ((p, o) :: R)) : Own G (upd H p o') ((p, o') :: R) := by
  have np := O.no0
  have nd := List.nodup_cons.mp (show (p :: R.map (·.1)).Nodup by simpa using O.nd)
  refine ⟨fun a w e => ?_, fun x hx => ?_, by simpa using O.nd⟩
  · rw [upd_ne (fun z => by rw [z, np] at e; cases e)]
    exact O.sub a w e
  · rcases List.mem_cons.mp hx with rfl | hx
    · exact ⟨upd_same, np⟩
    · have h := O.has x (List.mem_cons_of_mem _ hx)
      have ne : x.1 ≠ p := fun z => nd.1 (by rw [← z]; exact List.mem_map_of_mem hx)
      exact ⟨by rw [upd_ne ne]; exact h.1, h.2⟩
theorem Own.upd1 {a : Addr × HO} (O : Own G H (a :: (p, o) :: R)) : Own G (upd H p o') (a :: (p, o') :: R) := (O.swap.upd0 (o' := o')).swap
theorem Own.free (O : Own G H L) (h : H p = none) : G p = none := O.sub.free h
theorem Own.notin (O : Own G H L) (h : H p = none) : p ∉ L.map (·.1) := fun m => by
  obtain ⟨x, hx, e⟩ := List.mem_map.mp m
  have z := (O.has x hx).1
  rw [e, h] at z
  cases z
/-- a new object, ours -/
theorem Own.new (O : Own G H L) (h : H p = none) : Own G (upd H p o) ((p, o) :: L) := by
  refine ⟨fun a w e => ?_, fun x hx => ?_, ?_⟩
  · rw [upd_ne (ne_of_none (O.sub a w e) h)]
    exact O.sub a w e
  · rcases List.mem_cons.mp hx with rfl | hx
    · exact ⟨upd_same, O.free h⟩
    · have z := O.has x hx
      exact ⟨by rw [upd_ne (ne_of_none z.1 h)]; exact z.1, z.2⟩
  · rw [List.map_cons]
    exact List.nodup_cons.mpr ⟨O.notin h, O.nd⟩
/-- a new object that stays -/
theorem Own.fix (O : Own G H L) (h : H p = none) : Own (upd G p o) (upd H p o) L := by
  refine ⟨fun a w e => ?_, fun x hx => ?_, O.nd⟩
  · by_cases ha : a = p
    · subst ha
      rw [upd_same] at e ⊢
      exact e
    · rw [upd_ne ha] at e ⊢
      exact O.sub a w e
  · have z := O.has x hx
    have ne := ne_of_none z.1 h
    exact ⟨by rw [upd_ne ne]; exact z.1, by rw [upd_ne ne]; exact z.2⟩
theorem Same.new {G : Hp} {p : Addr} {o : HO} (h : G p = none) : Same G (upd G p o) := fun a w e => by
  rw [upd_ne (ne_of_none e h)]
  exact e
/-- what was ours stays from now on -/
theorem Own.frz0 (O : Own G H ((p, o) :: R)) : Own (upd G p o) H R := by
  have nd := List.nodup_cons.mp (show (p :: R.map (·.1)).Nodup by simpa using O.nd)
  refine ⟨fun a w e => ?_, fun x hx => ?_, nd.2⟩
  · by_cases ha : a = p
    · subst ha
      rw [upd_same] at e
      rw [← e]
      exact O.at0
    · rw [upd_ne ha] at e
      exact O.sub a w e
  · have z := O.has x (List.mem_cons_of_mem _ hx)
    have ne : x.1 ≠ p := fun e => nd.1 (by rw [← e]; exact List.mem_map_of_mem hx)
    exact ⟨z.1, by rw [upd_ne ne]; exact z.2⟩
theorem Own.seq {K : PySem.W.Frag} {a : Addr} {xs : List V} (O : Own G H L) (h : SqL K G a xs) : SqL K H a xs := O.sub.seq h
theorem same_t {K : PySem.W.Frag} {a : Addr} {xs : List V} (m : Same G H) (h : SqT K G a xs) : SqT K H a xs := by
  rcases h with (h | ⟨o, h⟩) | h
  · exact .inl (.inl (m _ _ h))
  · exact .inl (.inr ⟨o, m _ _ h⟩)
  · exact .inr h
theorem Own.set {K : PySem.W.Frag} {a : Addr} {xs : List V} (O : Own G H L) (h : SqT K G a xs) : SqT K H a xs := same_t O.sub h
theorem Own.dt {K : PySem.W.Frag} {v : V} {d : PyData} (O : Own G H L) (h : Dt K G v d) : Dt K H v d := h.mono O.sub
end
/-! ### new and changed objects, said so that what follows stays apart -/
def nw (o : HO) (H : Hp) (Q : VK) : Prop := ∀ p, H p = none → Q (.ref p) (upd H p o)
def md (p : Addr) (o : HO) (H : Hp) (S : Hp → Prop) : Prop := S (upd H p o)
section
variable {G H : Hp} {L R : List (Addr × HO)} {p : Addr} {o o' : HO} {Q : VK} {S : Hp → Prop}
/-- a new object, ours, the first -/
theorem x_new (O : Own G H L) (k : ∀ p H', Own G H' ((p, o) :: L) → Q (.ref p) H') : nw o H Q := fun p hp => k p _ (O.new hp)
/-- a new object that stays -/
theorem x_fix (O : Own G H L) (k : ∀ p G' H', Same G G' → Own G' H' L → G' p = some o → Q (.ref p) H') : nw o H Q := fun p hp => k p _ _ (Same.new (O.free hp)) (O.fix hp) upd_same
theorem x_md0 (O : Own G H ((p, o) :: R)) (k : ∀ H', Own G H' ((p, o') :: R) → S H') : md p o' H S := k _ O.upd0
theorem x_md1 {a : Addr × HO} (O : Own G H (a :: (p, o) :: R)) (k : ∀ H', Own G H' (a :: (p, o') :: R) → S H') : md p o' H S := k _ O.upd1
end
/-! ### operators by the kind of what they meet -/
section
variable {X : Cx} {k : Nat}
def aAdd (K : PySem.W.Frag) : R2 := fun x y H Q => rI0 (fun i j => .int (i + j)) x y H Q ∨ (∃ i j, x = .str i ∧ y = .str j ∧ i.length + j.length ≤ sizeLine ∧ Q (.str (i ++ j)) H) ∨
  rCat x y H Q ∨ rCatA K x y H Q
theorem oAdd : OpR X (binaryOp .Add) (aAdd X.K) := op_add.or (op_add_str.or (op_cat.or op_catA))
def aMul : R2 := fun x y H Q => rI CMul (fun i j => .int (i * j)) x y H Q ∨ rRep x y H Q
theorem oMul : OpR X (binaryOp .Mult) aMul := op_mul.or op_rep
def aEqT (K : PySem.W.Frag) : R2 := fun x y H Q => ∃ d e, Dt K H x d ∧ Dt K H y e ∧ SeqAt.shaped d = true ∧ SeqAt.shaped e = true ∧ Q (.bl (PyData.eqv d e)) H
def aNeT (K : PySem.W.Frag) : R2 := fun x y H Q => ∃ d e, Dt K H x d ∧ Dt K H y e ∧ SeqAt.shaped d = true ∧ SeqAt.shaped e = true ∧ Q (.bl (!PyData.eqv d e)) H
theorem oEqT (r : Rq X.A) : OpR X (compareOp .Eq) (aEqT X.K) := by
  intro pins s σ H x y v u Q I rx ry h
  obtain ⟨d, e, hd, he, sd, se, q⟩ := h
  obtain ⟨⟨as, r1⟩, _⟩ := hd.look I rx
  obtain ⟨⟨bs, r2⟩, _⟩ := he.look I ry
  exact SeqAt.compareEq_shaped r1 r2 sd se r.hu64 ⟨.bl _, H, I, rfl, q⟩
theorem oNeT (r : Rq X.A) : OpR X (compareOp .NotEq) (aNeT X.K) := by
  intro pins s σ H x y v u Q I rx ry h
  obtain ⟨d, e, hd, he, sd, se, q⟩ := h
  obtain ⟨⟨as, r1⟩, _⟩ := hd.look I rx
  obtain ⟨⟨bs, r2⟩, _⟩ := he.look I ry
  exact SeqAt.compareNe_shaped r1 r2 sd se r.hu64 ⟨.bl _, H, I, rfl, q⟩
/-- a list and the empty list -/
def aEqN (K : PySem.W.Frag) : R2 := fun x y H Q => ∃ p q xs, x = .ref p ∧ y = .ref q ∧ SqL K H p xs ∧ SqL K H q [] ∧ Q (.bl xs.isEmpty) H
def aNeN (K : PySem.W.Frag) : R2 := fun x y H Q => ∃ p q xs, x = .ref p ∧ y = .ref q ∧ SqL K H p xs ∧ SqL K H q [] ∧ Q (.bl (!xs.isEmpty)) H
theorem oEqN (r : Rq X.A) : OpR X (compareOp .Eq) (aEqN X.K) := by
  intro pins s σ H x y v u Q I rx ry h
  obtain ⟨p, q, xs, rfl, rfl, hp, hq, z⟩ := h
  cases rx
  cases ry
  obtain ⟨its, r1, p1, _⟩ := I.list hp
  obtain ⟨jts, r2, p2, _⟩ := I.list hq
  obtain rfl : jts = [] := by cases r2; rfl
  have l1 := r1.length
  cases xs with
  | nil =>
    obtain rfl : its = [] := by cases r1; rfl
    exact SeqAt.eq_listAt (e := fun _ => true) p1.isList p2.isList rfl (Nat.lt_of_succ_lt r.hu) (fun j h1 _ => absurd h1 (Nat.not_lt_zero _)) ⟨.bl _, H, I, rfl, z⟩
  | cons a xs =>
    cases its with
    | nil => cases l1
    | cons b its => exact SeqAt.eq_list_lengthsAt p1.isList p2.isList (by simp) (Nat.lt_of_succ_lt r.hu) ⟨.bl _, H, I, rfl, z⟩
theorem oNeN (r : Rq X.A) : OpR X (compareOp .NotEq) (aNeN X.K) := by
  intro pins s σ H x y v u Q I rx ry h
  obtain ⟨p, q, xs, rfl, rfl, hp, hq, z⟩ := h
  cases rx
  cases ry
  obtain ⟨its, r1, p1, _⟩ := I.list hp
  obtain ⟨jts, r2, p2, _⟩ := I.list hq
  obtain rfl : jts = [] := by cases r2; rfl
  have l1 := r1.length
  cases xs with
  | nil =>
    obtain rfl : its = [] := by cases r1; rfl
    exact SeqAt.RcNeAt.lists (e := fun _ => true) p1.isList p2.isList rfl (Nat.lt_of_succ_lt r.hu) (fun j h1 _ => absurd h1 (Nat.not_lt_zero _)) _ _ _ _ ⟨.bl _, H, I, rfl, z⟩
  | cons a xs =>
    cases its with
    | nil => cases l1
    | cons b its => exact SeqAt.RcNeAt.lists_lengths p1.isList p2.isList (by simp) (Nat.lt_of_succ_lt r.hu) _ _ _ _ ⟨.bl _, H, I, rfl, z⟩
def aEq (K : PySem.W.Frag) : R2 := fun x y H Q => rEq x y H Q ∨ aEqT K x y H Q ∨ aEqN K x y H Q
def aNe (K : PySem.W.Frag) : R2 := fun x y H Q => rNe x y H Q ∨ aNeT K x y H Q ∨ aNeN K x y H Q
theorem oEq (r : Rq X.A) : OpR X (compareOp .Eq) (aEq X.K) := op_eq.or ((oEqT r).or (oEqN r))
theorem oNe (r : Rq X.A) : OpR X (compareOp .NotEq) (aNe X.K) := op_ne.or ((oNeT r).or (oNeN r))
def aLt : R2 := fun x y H Q => rI0 (fun i j => .bl (decide (i < j))) x y H Q ∨ ∃ i j, x = .str i ∧ y = .str j ∧ Q (.bl (decide (i.cps.toList < j.cps.toList))) H
def aLe : R2 := fun x y H Q => rI0 (fun i j => .bl (decide (i ≤ j))) x y H Q ∨ ∃ i j, x = .str i ∧ y = .str j ∧ Q (.bl (!decide (j.cps.toList < i.cps.toList))) H
def aGt : R2 := fun x y H Q => rI0 (fun i j => .bl (decide (j < i))) x y H Q ∨ ∃ i j, x = .str i ∧ y = .str j ∧ Q (.bl (decide (j.cps.toList < i.cps.toList))) H
def aGe : R2 := fun x y H Q => rI0 (fun i j => .bl (decide (j ≤ i))) x y H Q ∨ ∃ i j, x = .str i ∧ y = .str j ∧ Q (.bl (!decide (i.cps.toList < j.cps.toList))) H
theorem oLt : OpR X (compareOp .Lt) aLt := op_lt.or op_lt_str
theorem oLe : OpR X (compareOp .LtE) aLe := op_le.or op_le_str
theorem oGt : OpR X (compareOp .Gt) aGt := op_gt.or op_gt_str
theorem oGe : OpR X (compareOp .GtE) aGe := op_ge.or op_ge_str
/-- x in y: a list or tuple of flat items -/
theorem oIn : OpR X (compareOp .In) (rIn X.K false) := op_in_seq
theorem oNin : OpR X (compareOp .NotIn) (rIn X.K true) := op_notIn_seq
/-- x is y, of None or bools -/
def aIs : R2 := fun x y H Q => (y = .non ∧ Q (.bl (decide (x = .non))) H) ∨ rIsB x y H Q
def aIsn : R2 := fun x y H Q => (y = .non ∧ Q (.bl (!decide (x = .non))) H) ∨ rNotB x y H Q
theorem oIs : OpR X (compareOp .Is) aIs := op_isN.or op_isBl
theorem oIsn : OpR X (compareOp .IsNot) aIsn := op_notN.or op_notBl
def aSl (K : PySem.W.Frag) : V → Option Int → Option Int → Hp → VK → Prop := fun x lo hi H Q => rSlL K x lo hi H Q ∨ rSlA K x lo hi H Q ∨ rSlS x lo hi H Q
theorem oSl : SlR X (aSl X.K) := sl_list.or (sl_tupA.or sl_str)
/-- the built-in functions -/
def aLen (K : PySem.W.Frag) : List V → Hp → VK → Prop := fun xs H Q => ∃ x n, xs = [x] ∧ LenV K x H n ∧ Q (.int n) H
def aInt : List V → Hp → VK → Prop := fun xs H Q => (∃ i, xs = [.int i] ∧ Q (.int i) H) ∨ ∃ k, xs = [.bl k] ∧ Q (.int (if k then 1 else 0)) H
def aList (K : PySem.W.Frag) : List V → Hp → VK → Prop := fun xs H Q => ∃ p ys, xs = [.ref p] ∧ (SqL K H p ys ∨ SqT K H p ys) ∧ nw (.lst ys) H Q
def aTuple (K : PySem.W.Frag) : List V → Hp → VK → Prop := fun xs H Q => ∃ p ys, xs = [.ref p] ∧ ((SqL K H p ys ∧ nw (.tup ys) H Q) ∨ (SqT K H p ys ∧ Q (.ref p) H))
def aAbs : List V → Hp → VK → Prop := fun xs H Q => ∃ i, xs = [.int i] ∧ Q (.int (if i < 0 then -i else i)) H
def aMax2 : List V → Hp → VK → Prop := fun xs H Q => ∃ i j, xs = [.int i, .int j] ∧ Q (.int (if j > i then j else i)) H
def aMin2 : List V → Hp → VK → Prop := fun xs H Q => ∃ i j, xs = [.int i, .int j] ∧ Q (.int (if j < i then j else i)) H
def aIsi (K : PySem.W.Frag) : List V → Hp → VK → Prop := fun xs H Q => rIsi K xs H Q ∨ rIsiT K xs H Q
theorem cLen : CallR X (.builtin "len") (aLen X.K) := call_len
theorem cInt : CallR X (.type "int") aInt := call_int1
theorem cList : CallR X (.type "list") (aList X.K) := call_list_of
theorem cTuple : CallR X (.type "tuple") (aTuple X.K) := call_tuple_of
theorem cAbs : CallR X (.builtin "abs") aAbs := call_abs
theorem cMax2 (h : X.calm = true) : CallR X (.builtin "max") aMax2 := call_max2 h
theorem cMin2 (h : X.calm = true) : CallR X (.builtin "min") aMin2 := call_min2 h
theorem cIsi : CallR X (.builtin "isinstance") (aIsi X.K) := call_isi.or call_isiT
def aSorted (K : PySem.W.Frag) : List V → Hp → VK → Prop := fun xs H Q => rSorted K xs H Q ∨ rSortedS K xs H Q
theorem cSorted : CallR X (.builtin "sorted") (aSorted X.K) := cr_sorted.or cr_sortedS
/-! tests -/
def tTru (K : PySem.W.Frag) (ta : TE) : TT := fun σ H Q => ta σ H fun x H' => ∃ k, TruV K x H' k ∧ Q k H'
theorem pt_tru {a : Expr} {ta : TE} (ha : PE X a ta) (he : ∀ whole, isTrue a X.env whole = (do let v ← whole; standAt a.pos; holding [v] (truthy v)) := by intro _; rfl) : PT X a (tTru X.K ta) := pt_truth ha he
def dLst (t : TA) : TE := fun σ H Q => t σ H fun xs H1 => xs.length ≤ sizeLine ∧ nw (.lst xs) H1 Q
def dTup (t : TA) : TE := fun σ H Q => t σ H fun xs H1 => xs.length ≤ sizeLine ∧ nw (.tup xs) H1 Q
theorem d_lst {es : List Expr} {t : TA} {pos : Pos} (h : PA X es t) : PE X (.List es pos) (dLst t) := pe_lst h
theorem d_tup {es : List Expr} {t : TA} {n : Nat} {pos : Pos} (h : PA X es t) : PE X (.Tuple es n pos) (dTup t) := pe_tup h
def dDict : TE := fun _ H Q => nw (.dK []) H Q
/-! methods of lists -/
def aApp : V → List V → Hp → VK → Prop := fun x vs H Q => ∃ l xs y, x = .ref l ∧ vs = [y] ∧ H l = some (.lst xs) ∧ xs.length < sizeLine ∧ md l (.lst (xs ++ [y])) H (Q .non)
theorem mApp : MtR X "list.append" aApp := mt_append
def aPopA : V → List V → Hp → VK → Prop := fun x vs H Q => ∃ l xs i k y, x = .ref l ∧ vs = [.int i] ∧ H l = some (.lst xs) ∧ -(2 ^ 63) ≤ i ∧ i < 2 ^ 63 ∧ seqIndex? i xs.length = some k ∧ xs[k]? = some y ∧ md l (.lst (xs.eraseIdx k)) H (Q y)
theorem mPopA : MtR X "list.pop" aPopA := mt_popAt
def aPop : V → List V → Hp → VK → Prop := fun x vs H Q => ∃ l xs y, x = .ref l ∧ vs = [] ∧ H l = some (.lst xs) ∧ xs[xs.length - 1]? = some y ∧ md l (.lst xs.dropLast) H (Q y)
theorem mPop : MtR X "list.pop" aPop := mt_pop
def aSet : TSet := fun o i v H S => ∃ p xs k j, o = .ref p ∧ i = .int k ∧ H p = some (.lst xs) ∧ ixN xs.length k = some j ∧ md p (.lst (xs.set j v)) H S
theorem sSet : PSet X aSet := set_list
def aRevL (K : PySem.W.Frag) (te : TE) : TE := fun σ H Q => te σ H fun x H1 => ∃ a xs, x = .ref a ∧ SqL K H1 a xs ∧ nw (.lst xs.reverse) H1 Q
/-! sep.join(..) -/
def aJoin (K : PySem.W.Frag) : V → List V → Hp → VK → Prop := fun x xs H Q => ∃ a p, ∃ ys : List Str, x = .str a ∧ xs = [.ref p] ∧ (SqL K H p (ys.map V.str) ∨ SqT K H p (ys.map V.str)) ∧
    (ys.map (·.length)).sum + ys.length * a.length ≤ 16777216 ∧ Q (.str (Txt.join a ys)) H
end
section
variable {X : Cx}
theorem mJoin : MtR X "str.join" (aJoin X.K) := mt_join
end
/-! ### steps of a reading -/
section
variable {σ : L2.St} {H : Hp} {Q : VK} {K : PySem.W.Frag} {i j : Int} {v : V} {a b : Str}
theorem x_var {n : Nat} (h : σ[n]? = some (some v)) (q : Q v H) : tVar n σ H Q := ⟨v, h, q⟩
theorem x_c (q : Q v H) : tC v σ H Q := q
theorem x_op {r : R2} {ta tb : TE} (h : ta σ H fun x H1 => tb σ H1 fun y H2 => r x y H2 Q) : tOp r ta tb σ H Q := h
theorem x_un {r : V → Hp → VK → Prop} {ta : TE} (h : ta σ H fun x H1 => r x H1 Q) : tUn r ta σ H Q := h
theorem x_add (q : Q (.int (i + j)) H) : aAdd K (.int i) (.int j) H Q := .inl ⟨i, j, rfl, rfl, q⟩
theorem x_adds (hz : a.length + b.length ≤ sizeLine) (q : Q (.str (a ++ b)) H) : aAdd K (.str a) (.str b) H Q := .inr (.inl ⟨a, b, rfl, rfl, hz, q⟩)
theorem x_addl {p q : Addr} {xs ys : List V} (h1 : H p = some (.lst xs)) (h2 : H q = some (.lst ys)) (hz : xs.length + ys.length ≤ sizeLine) (k : nw (.lst (xs ++ ys)) H Q) : aAdd K (.ref p) (.ref q) H Q :=
  .inr (.inr (.inl ⟨p, q, xs, ys, rfl, rfl, h1, h2, hz, k⟩))
theorem x_mul (hc : CMul i j) (q : Q (.int (i * j)) H) : aMul (.int i) (.int j) H Q := .inl ⟨i, j, rfl, rfl, hc, q⟩
theorem x_rI0 {g : Int → Int → V} (q : Q (g i j) H) : rI0 g (.int i) (.int j) H Q := ⟨i, j, rfl, rfl, q⟩
theorem x_rI {C : Int → Int → Prop} {g : Int → Int → V} (hc : C i j) (q : Q (g i j) H) : rI C g (.int i) (.int j) H Q := ⟨i, j, rfl, rfl, hc, q⟩
theorem x_rU {g : Int → V} (q : Q (g i) H) : rU g (.int i) H Q := ⟨i, rfl, q⟩
theorem x_eq {x y : V} (h : scal x y = true) (q : Q (.bl (decide (x = y))) H) : aEq K x y H Q := .inl ⟨h, q⟩
theorem x_ne {x y : V} (h : scal x y = true) (q : Q (.bl (!decide (x = y))) H) : aNe K x y H Q := .inl ⟨h, q⟩
theorem x_eqN {p q : Addr} {xs : List V} (h1 : SqL K H p xs) (h2 : SqL K H q []) (z : Q (.bl xs.isEmpty) H) : aEq K (.ref p) (.ref q) H Q := .inr (.inr ⟨p, q, xs, rfl, rfl, h1, h2, z⟩)
theorem x_ned {x y : V} {d e : PyData} (h1 : Dt K H x d) (h2 : Dt K H y e) (s1 : SeqAt.shaped d = true) (s2 : SeqAt.shaped e = true) (q : Q (.bl (!PyData.eqv d e)) H) : aNe K x y H Q := .inr (.inl ⟨d, e, h1, h2, s1, s2, q⟩)
theorem x_neN {p q : Addr} {xs : List V} (h1 : SqL K H p xs) (h2 : SqL K H q []) (z : Q (.bl (!xs.isEmpty)) H) : aNe K (.ref p) (.ref q) H Q := .inr (.inr ⟨p, q, xs, rfl, rfl, h1, h2, z⟩)
theorem x_lt (q : Q (.bl (decide (i < j))) H) : aLt (.int i) (.int j) H Q := .inl ⟨i, j, rfl, rfl, q⟩
theorem x_lts (q : Q (.bl (decide (a.cps.toList < b.cps.toList))) H) : aLt (.str a) (.str b) H Q := .inr ⟨a, b, rfl, rfl, q⟩
theorem x_le (q : Q (.bl (decide (i ≤ j))) H) : aLe (.int i) (.int j) H Q := .inl ⟨i, j, rfl, rfl, q⟩
theorem x_gt (q : Q (.bl (decide (j < i))) H) : aGt (.int i) (.int j) H Q := .inl ⟨i, j, rfl, rfl, q⟩
theorem x_ge (q : Q (.bl (decide (j ≤ i))) H) : aGe (.int i) (.int j) H Q := .inl ⟨i, j, rfl, rfl, q⟩
theorem x_isN {x : V} (q : Q (.bl (decide (x = .non))) H) : aIs x .non H Q := .inl ⟨rfl, q⟩
theorem x_isnN {x : V} (q : Q (.bl (!decide (x = .non))) H) : aIsn x .non H Q := .inl ⟨rfl, q⟩
theorem x_inl {x : V} {p : Addr} {xs : List V} {n : Bool} (h : SqL K H p xs) (f : flatV x = true) (fs : xs.all flatV = true) (q : Q (.bl (if n then !inV x xs else inV x xs)) H) : rIn K n x (.ref p) H Q := ⟨p, xs, rfl, .inl h, f, fs, q⟩
theorem x_int {x : V} {p : Addr} {xs : List V} {n : Bool} (h : SqT K H p xs) (f : flatV x = true) (fs : xs.all flatV = true) (q : Q (.bl (if n then !inV x xs else inV x xs)) H) : rIn K n x (.ref p) H Q := ⟨p, xs, rfl, .inr h, f, fs, q⟩
theorem x_ixl {p : Addr} {xs : List V} (h : SqL K H p xs) (e : atI xs i = some v) (q : Q v H) : rIx K (.ref p) (.int i) H Q := .inl ⟨p, xs, i, v, rfl, rfl, h, e, q⟩
theorem x_ixt {p : Addr} {xs : List V} (h : SqT K H p xs) (e : atI xs i = some v) (q : Q v H) : rIx K (.ref p) (.int i) H Q := .inr (.inl ⟨p, xs, i, v, rfl, rfl, h, e, q⟩)
theorem x_ixs {c : Nat} (hz : a.length ≤ sizeLine) (e : atI a.cps.toList i = some c) (q : Q (.str ⟨#[c]⟩) H) : rIx K (.str a) (.int i) H Q := .inr (.inr ⟨a, i, c, rfl, rfl, hz, e, q⟩)
/-! calls -/
theorem x_cb {r : List V → Hp → VK → Prop} {t : TA} (h : t σ H fun vs H1 => r vs H1 Q) : tCB r t σ H Q := h
theorem x_call {sp : Sp} {E : XK} {t : TA} (h : t σ H fun vs H1 => sp vs H1 Q E) : tCall sp [] E t σ H Q := by
  show t σ H fun vs H1 => sp (vs ++ []) H1 Q E
  simpa only [List.append_nil] using h
theorem x_anil {Q : List V → Hp → Prop} (h : Q [] H) : tNil σ H Q := h
theorem x_acons {ta : TE} {t : TA} {Q : List V → Hp → Prop} (h : ta σ H fun x H1 => t σ H1 fun xs H2 => Q (x :: xs) H2) : tCons ta t σ H Q := h
theorem x_lens (hz : a.length ≤ sizeLine) (q : Q (.int a.length) H) : aLen K [.str a] H Q := ⟨_, _, rfl, ⟨hz, rfl⟩, q⟩
theorem x_lenl {p : Addr} {xs : List V} (h : SqL K H p xs) (q : Q (.int xs.length) H) : aLen K [.ref p] H Q := ⟨_, _, rfl, .inl ⟨xs, h, rfl⟩, q⟩
theorem x_lent {p : Addr} {xs : List V} (h : SqT K H p xs) (q : Q (.int xs.length) H) : aLen K [.ref p] H Q := ⟨_, _, rfl, .inr ⟨xs, h, rfl⟩, q⟩
theorem x_inti (q : Q (.int i) H) : aInt [.int i] H Q := .inl ⟨i, rfl, q⟩
theorem x_intb {k : Bool} (q : Q (.int (if k then 1 else 0)) H) : aInt [.bl k] H Q := .inr ⟨k, rfl, q⟩
theorem x_abs (q : Q (.int (if i < 0 then -i else i)) H) : aAbs [.int i] H Q := ⟨i, rfl, q⟩
theorem x_repr {d : PyData} (h : Dt K H v d) (f : fits d = true) (hz : d.shown.length ≤ sizeLine) (h60 : d.depth ≤ 60) (q : Q (.str d.shown) H) : rRepr K [v] H Q := ⟨v, d, rfl, h, f, hz, h60, q⟩
/-! tests -/
variable {T : Bool → Hp → Prop}
theorem x_tru {ta : TE} (h : ta σ H fun x H' => ∃ k, TruV K x H' k ∧ T k H') : tTru K ta σ H T := h
theorem x_trub {k : Bool} {S : Bool → Prop} (q : S k) : ∃ k', TruV K (.bl k) H k' ∧ S k' := ⟨k, rfl, q⟩
theorem x_trui {S : Bool → Prop} (q : S (i != 0)) : ∃ k', TruV K (.int i) H k' ∧ S k' := ⟨_, rfl, q⟩
theorem x_test {t : TE} (h : t σ H fun x H' => ∃ k, x = .bl k ∧ T k H') : tTest t σ H T := h
theorem x_testb {k : Bool} {S : Bool → Prop} (q : S k) : ∃ k', V.bl k = .bl k' ∧ S k' := ⟨k, rfl, q⟩
theorem x_and {t u : TT} (h : t σ H fun c H1 => if c = true then u σ H1 T else T false H1) : tAnd t u σ H T := h
theorem x_or {t u : TT} (h : t σ H fun c H1 => if c = true then T true H1 else u σ H1 T) : tOr t u σ H T := h
theorem x_not {t : TT} (h : t σ H fun c H1 => T (!c) H1) : tNot t σ H T := h
theorem x_andV {ta tb : TE} (h : ta σ H fun x H1 => ∃ c, x = .bl c ∧ if c = true then tb σ H1 Q else Q (.bl false) H1) : tAndV ta tb σ H Q := h
theorem x_orV {ta tb : TE} (h : ta σ H fun x H1 => ∃ c, x = .bl c ∧ if c = true then Q (.bl true) H1 else tb σ H1 Q) : tOrV ta tb σ H Q := h
theorem x_notV {ta : TE} (h : ta σ H fun x H1 => ∃ c, x = .bl c ∧ Q (.bl (!c)) H1) : tNotV ta σ H Q := h
theorem x_isB {c : Bool} {S : Bool → Prop} (q : S c) : ∃ c', V.bl c = .bl c' ∧ S c' := ⟨c, rfl, q⟩
theorem x_if {t : TT} {ta tb : TE} (h : t σ H fun c H1 => if c = true then ta σ H1 Q else tb σ H1 Q) : tIf t ta tb σ H Q := h
/-! statements -/
variable {n b1 c1 : L2.St → Hp → Prop} {r1 : VK} {D : Ends}
theorem x_seq {t u : TS} (h : t ⟨u ⟨n, r1, b1, c1⟩, r1, b1, c1⟩ σ H) : tSeq t u ⟨n, r1, b1, c1⟩ σ H := h
theorem x_asg {te : TE} {m : Nat} (h : te σ H fun x H1 => n (σ.set m (some x)) H1) : tAsg te (gName m) ⟨n, r1, b1, c1⟩ σ H := h
theorem x_asgG {te : TE} {g : TG} (h : te σ H fun x H1 => g x σ H1 n) : tAsg te g ⟨n, r1, b1, c1⟩ σ H := h
theorem x_ret {te : TE} (h : te σ H r1) : tRet te ⟨n, r1, b1, c1⟩ σ H := h
theorem x_drop {te : TE} (h : te σ H fun _ H1 => n σ H1) : tDrop te ⟨n, r1, b1, c1⟩ σ H := h
theorem x_ifs {c : TT} {t u : TS} (h : c σ H fun k H1 => if k = true then t ⟨n, r1, b1, c1⟩ σ H1 else u ⟨n, r1, b1, c1⟩ σ H1) : tIfS c t u ⟨n, r1, b1, c1⟩ σ H := h
theorem x_when {c : TT} {t : TS} (rest : n σ H) (h : n σ H → c σ H fun k H1 => if k = true then t ⟨n, r1, b1, c1⟩ σ H1 else n σ H1) : tIfS c t tNext ⟨n, r1, b1, c1⟩ σ H := h rest
theorem x_next (h : n σ H) : tNext ⟨n, r1, b1, c1⟩ σ H := h
theorem x_brk (h : b1 σ H) : tBreak ⟨n, r1, b1, c1⟩ σ H := h
theorem x_cnt (h : c1 σ H) : tCont ⟨n, r1, b1, c1⟩ σ H := h
theorem x_par {m l : Nat} {ta : TA} (h : ta σ H fun vs H1 => ∃ v w, vs = [v, w] ∧ n ((σ.set m (some v)).set l (some w)) H1) : tPar m l ta ⟨n, r1, b1, c1⟩ σ H := h
theorem x_par2 {v w : V} {S : V → V → Prop} (h : S v w) : ∃ v' w', [v, w] = [v', w'] ∧ S v' w' := ⟨v, w, rfl, h⟩
theorem x_par3 {m l o : Nat} {ta : TA} (h : ta σ H fun vs H1 => ∃ u v w, vs = [u, v, w] ∧ n (((σ.set m (some u)).set l (some v)).set o (some w)) H1) : tPar3 m l o ta ⟨n, r1, b1, c1⟩ σ H := h
theorem x_par33 {u v w : V} {S : V → V → V → Prop} (h : S u v w) : ∃ u' v' w', [u, v, w] = [u', v', w'] ∧ S u' v' w' := ⟨u, v, w, rfl, h⟩
theorem x_sub {to ti : TE} {t : TSet} {x : V} {q : L2.St → Hp → Prop} (h : to σ H fun o H1 => ti σ H1 fun i H2 => t o i x H2 fun H3 => q σ H3) : gSub to ti t x σ H q := h
theorem x_setl {p : Addr} {xs : List V} {m : Nat} {S : Hp → Prop} (h : H p = some (.lst xs)) (e : ixN xs.length i = some m) (q : md p (.lst (xs.set m v)) H S) : aSet (.ref p) (.int i) v H S := ⟨p, xs, i, m, rfl, rfl, h, e, q⟩
theorem x_lst {t : TA} (h : t σ H fun xs H1 => xs.length ≤ sizeLine ∧ nw (.lst xs) H1 Q) : dLst t σ H Q := h
theorem x_tup {t : TA} (h : t σ H fun xs H1 => xs.length ≤ sizeLine ∧ nw (.tup xs) H1 Q) : dTup t σ H Q := h
theorem x_dict (h : nw (.dK []) H Q) : dDict σ H Q := h
theorem x_bm {T : String} {r : V → List V → Hp → VK → Prop} {to : TE} {t : TA} (h : to σ H fun x H1 => tyV K T x H1 ∧ t σ H1 fun xs H2 => r x xs H2 Q) : tBM K T r to t σ H Q := h
theorem x_bm0 {T : String} {r : V → List V → Hp → VK → Prop} {to : TE} (h : to σ H fun x H1 => tyV K T x H1 ∧ r x [] H1 Q) : tBM0 K T r to σ H Q := h
theorem ty_l {p : Addr} {xs : List V} (h : SqL K H p xs) : tyV K "list" (.ref p) H := .inl ⟨rfl, xs, h⟩
theorem ty_s : tyV K "str" (.str a) H := rfl
theorem x_app {p : Addr} {xs : List V} (h : H p = some (.lst xs)) (hz : xs.length < sizeLine) (k : md p (.lst (xs ++ [v])) H (Q .non)) : aApp (.ref p) [v] H Q := ⟨p, xs, v, rfl, rfl, h, hz, k⟩
theorem x_popA {p : Addr} {xs : List V} {m : Nat} (h : H p = some (.lst xs)) (h0 : -(2 ^ 63) ≤ i) (h1 : i < 2 ^ 63) (e : seqIndex? i xs.length = some m) (e2 : xs[m]? = some v) (k : md p (.lst (xs.eraseIdx m)) H (Q v)) : aPopA (.ref p) [.int i] H Q := ⟨p, xs, i, m, v, rfl, rfl, h, h0, h1, e, e2, k⟩
theorem x_listL {p : Addr} {xs : List V} (h : SqL K H p xs) (k : nw (.lst xs) H Q) : aList K [.ref p] H Q := ⟨p, xs, rfl, .inl h, k⟩
theorem x_tupleL {p : Addr} {xs : List V} (h : SqL K H p xs) (k : nw (.tup xs) H Q) : aTuple K [.ref p] H Q := ⟨p, xs, rfl, .inl ⟨h, k⟩⟩
theorem x_slice {r : V → Option Int → Option Int → Hp → VK → Prop} {te : TE} {tl th : TO} (h : te σ H fun x H1 => tl σ H1 fun l H2 => th σ H2 fun u H3 => r x l u H3 Q) : tSl r te tl th σ H Q := h
theorem x_nop {S : Option Int → Hp → Prop} (h : S none H) : tNoPart σ H S := h
theorem x_part {te : TE} {S : Option Int → Hp → Prop} (h : te σ H fun x H1 => ∃ i, x = .int i ∧ S (some i) H1) : tPart te σ H S := h
theorem x_isI {S : Int → Prop} (q : S i) : ∃ i', V.int i = .int i' ∧ S i' := ⟨i, rfl, q⟩
theorem x_slL {p : Addr} {xs : List V} {lo hi : Option Int} (h : SqL K H p xs) (k : nw (.lst (cutV xs lo hi)) H Q) : aSl K (.ref p) lo hi H Q := .inl ⟨p, xs, rfl, h, k⟩
theorem x_slT {p : Addr} {xs : List V} {lo hi : Option Int} (h : SqT K H p xs) (q1 : HT.sIx xs.length 0 lo = 0 ∧ HT.sIx xs.length xs.length hi = xs.length → Q (.ref p) H)
    (q2 : ¬ (HT.sIx xs.length 0 lo = 0 ∧ HT.sIx xs.length xs.length hi = xs.length) → nw (.tup (cutV xs lo hi)) H Q) : aSl K (.ref p) lo hi H Q := .inr (.inl ⟨p, xs, rfl, h, q1, q2⟩)
theorem x_slS {lo hi : Option Int} (hz : a.length ≤ sizeLine) (q : Q (.str (cutS a lo hi)) H) : aSl K (.str a) lo hi H Q := .inr (.inr ⟨a, rfl, hz, q⟩)
theorem x_revL {te : TE} (h : te σ H fun x H1 => ∃ a xs, x = .ref a ∧ SqL K H1 a xs ∧ nw (.lst xs.reverse) H1 Q) : aRevL K te σ H Q := h
theorem ite_t {A B : Prop} (h : A) : if true = true then A else B := by rw [if_pos rfl]; exact h
theorem ite_f {A B : Prop} (h : B) : if false = true then A else B := by rw [if_neg Bool.false_ne_true]; exact h
theorem ite_b {c : Bool} {A B : Prop} (h1 : c = true → A) (h2 : c = false → B) : if c = true then A else B := by
  cases c with
  | true => rw [if_pos rfl]; exact h1 rfl
  | false => rw [if_neg Bool.false_ne_true]; exact h2 rfl
end
end G
set_option maxHeartbeats 4000000
/-! Part C: walks of lists and tuples alike; the drawing box; names of built-ins. -/
namespace G
open PySem PySem.Spec PyProof.Rows L2
/-- the built-in names are the built-ins' -/
structure Bt (mg : Str → Option Value) : Prop where
  len : mg "len" = none
  range : mg "range" = none
  abs : mg "abs" = none
  int : mg "int" = none
  str : mg "str" = none
  bool : mg "bool" = none
  list : mg "list" = none
  tuple : mg "tuple" = none
  dict : mg "dict" = none
  sum : mg "sum" = none
  all : mg "all" = none
  any : mg "any" = none
  max : mg "max" = none
  min : mg "min" = none
  sorted : mg "sorted" = none
  repr : mg "repr" = none
  isinstance : mg "isinstance" = none
  enumerate : mg "enumerate" = none
  zip : mg "zip" = none
section
variable {X : Cx} {tg e : Expr} {te : TE}
theorem PI.or {u1 u2 : TI} (h1 : PI X tg e u1) (h2 : PI X tg e u2) : PI X tg e (fun σ H R => u1 σ H R ∨ u2 σ H R) := by
  constructor
  intro pins s σ H R I h
  rcases h with h | h
  · exact h1.run pins s σ H R I h
  · exact h2.run pins s σ H R I h
end
/-! the box that draws: what is left of the great number, whether there is one, the seed, how often it drew; n: how often it may draw yet -/
def Box (n : Nat) (xs : List V) : Prop := ∃ (m k c : Int) (f : Bool), xs = [.int m, .bl f, .int k, .int c] ∧ 0 ≤ m ∧ 0 ≤ k ∧ k < 2147483629 ∧ 0 ≤ c ∧ c + n ≤ 1000000000
theorem Box.le {n m : Nat} {xs : List V} (h : Box n xs) (l : m ≤ n) : Box m xs := by
  obtain ⟨a, b, c, f, e, h1, h2, h3, h4, h5⟩ := h
  exact ⟨a, b, c, f, e, h1, h2, h3, h4, by omega⟩
end G
set_option maxHeartbeats 4000000
/-! Part D: comprehensions and loops over what is owned. -/
namespace G
open PySem PySem.Spec PyProof.Rows L2
section
variable {X : Cx} {tg e : Expr} {te : TE} {pins : List (Addr × Obj)} {σ : L2.St} {H : Hp} {s : Shared} {R : It → Hp → Prop} {E : Value → Shared → Prop}
theorem Inv.pushed (I : Inv X pins σ H s) (o : Obj) : Inv X pins σ H { s with heap := s.heap.push o } := I.kept (t' := s.toks) fun b u z => Heap.get?_push_of_some _ z
theorem piL (I : Inv X pins σ H s) {a : Addr} {xs : List V} (hq : SqL X.K H a xs) (q : R (Itl X.K a) H) : wpAny (model X.prog X.w) X.A (pyIter (.ref a)) (PIE X pins σ tg R) E s := by
  obtain ⟨its, _, p, _⟩ := I.list hq
  refine wpAny_pyIter_list p.isList ?_
  refine ⟨s.heap.objs.size, [s.heap.objs.size], _, _, H, rfl, Inv.pushed I _, turn_list a _, ⟨_, Heap.get?_push_size _ rfl, rfl, rfl⟩, ?_, q⟩
  intro b hb
  obtain rfl : b = s.heap.objs.size := by simpa using hb
  exact I.fpOk (Nat.le_refl _) (I.hok.fresh (Nat.le_refl _))
theorem piT (I : Inv X pins σ H s) {a : Addr} {xs : List V} (hq : SqT X.K H a xs) (q : R (Itt X.K a) H) : wpAny (model X.prog X.w) X.A (pyIter (.ref a)) (PIE X pins σ tg R) E s := by
  obtain ⟨its, _, p, _⟩ := I.tuple hq
  refine wpAny_pyIter_tuple (show s.heap.IsTuple a its.toArray from p) ?_
  refine ⟨s.heap.objs.size, [s.heap.objs.size], _, _, H, rfl, Inv.pushed I _, turn_tuple a _, ⟨_, Heap.get?_push_size _ rfl, rfl, rfl⟩, ?_, q⟩
  intro b hb
  obtain rfl : b = s.heap.objs.size := by simpa using hb
  exact I.fpOk (Nat.le_refl _) (I.hok.fresh (Nat.le_refl _))
/-- over a list or a tuple -/
def iSq (K : PySem.W.Frag) (tl : TE) : TI := fun σ H R => tl σ H fun x H1 => ∃ a xs, x = .ref a ∧ ((SqL K H1 a xs ∧ R (Itl K a) H1) ∨ (SqT K H1 a xs ∧ R (Itt K a) H1))
theorem pi_sq (he : PE X e te) : PI X tg e (iSq X.K te) := by
  constructor
  intro pins s σ H R I h
  refine thn (he.run pins s σ H _ I h) ?_
  rintro v s1 ⟨x, H1, I1, r1, a, xs, rfl, z⟩
  cases r1
  rcases z with ⟨z, q⟩ | ⟨z, q⟩
  · exact piL I1 z q
  · exact piT I1 z q
end
/-- a walk that has come -/
abbrev iAt (J : It) : TI := fun _ H R => R J H
section
variable {σ : L2.St} {H : Hp} {Q : VK} {K : PySem.W.Frag} {g : TG} {tt : TT} {te : TE} {vs : List Nat} {ta : TA} {tl : TE}
theorem x_lcR (h : ta σ H fun zs H1 => ∃ n : Int, zs = [.int n] ∧ -(2 ^ 62) ≤ n ∧ n < 2 ^ 62 ∧ tLc (iAt (Itr 0 n.toNat)) g tt te vs σ H1 Q) : tLc (iRng1 ta) g tt te vs σ H Q := h
theorem x_lcS (h : tl σ H fun x H1 => ∃ a xs, x = .ref a ∧ ((SqL K H1 a xs ∧ tLc (iAt (Itl K a)) g tt te vs σ H1 Q) ∨ (SqT K H1 a xs ∧ tLc (iAt (Itt K a)) g tt te vs σ H1 Q))) : tLc (iSq K tl) g tt te vs σ H Q := h
theorem x_lcI (h : tl σ H fun x H1 => ∃ z, x = .str z ∧ tLc (iAt (Its z)) g tt te vs σ H1 Q) : tLc (iStr tl) g tt te vs σ H Q := h
theorem x_sqL {p : Addr} {xs : List V} {S1 : Addr → Prop} {S2 : Addr → List V → Prop} (h : SqL K H p xs) (q : S1 p) : ∃ a xs, V.ref p = .ref a ∧ ((SqL K H a xs ∧ S1 a) ∨ S2 a xs) := ⟨p, xs, rfl, .inl ⟨h, q⟩⟩
theorem x_sqT {p : Addr} {xs : List V} {S1 : Addr → Prop} {S2 : Addr → List V → Prop} (h : SqT K H p xs) (q : S1 p) : ∃ a xs, V.ref p = .ref a ∧ (S2 a xs ∨ (SqT K H a xs ∧ S1 a)) := ⟨p, xs, rfl, .inr ⟨h, q⟩⟩
theorem x_rg {n : Int} {S : Int → Prop} (h0 : -(2 ^ 62) ≤ n) (h1 : n < 2 ^ 62) (q : S n) : ∃ n' : Int, [V.int n] = [.int n'] ∧ -(2 ^ 62) ≤ n' ∧ n' < 2 ^ 62 ∧ S n' := ⟨n, rfl, h0, h1, q⟩
theorem x_yes {T : Bool → Hp → Prop} (h : T true H) : tYes σ H T := h
section
variable {J : It} {n : Nat} {Gd : Hp → Prop} {Y : Nat → Hp → V → Hp → Prop} {G : Hp} {L : List (Addr × HO)}
/-- what holds between two turns: D the new list, what it has so far -/
def PvH (G : Hp) (Pv : Nat → Hp → List (Addr × HO) → List V → Prop) (D : Addr) (i : Nat) (H : Hp) : Prop := ∃ G' L' acc, Same G G' ∧ Own G' H ((D, .lst acc) :: L') ∧ Pv i G' L' acc
/-- what an element's value is to bring -/
def LcN (G : Hp) (Pv : Nat → Hp → List (Addr × HO) → List V → Prop) (D : Addr) (i : Nat) : VK := fun y H4 => ∃ acc, H4 D = some (.lst acc) ∧ acc.length < sizeLine ∧ PvH G Pv D (i + 1) (upd H4 D (.lst (acc ++ [y])))
theorem lcn {Pv : Nat → Hp → List (Addr × HO) → List V → Prop} {D : Addr} {i : Nat} {y : V} {G4 H4 : Hp} {L4 : List (Addr × HO)} {acc : List V} (s : Same G G4) (O : Own G4 H4 ((D, .lst acc) :: L4)) (hz : acc.length < sizeLine) (p : Pv (i + 1) G4 L4 (acc ++ [y])) : LcN G Pv D i y H4 :=
  ⟨acc, O.at0, hz, G4, L4, acc ++ [y], s, O.upd0, p⟩
/-- a comprehension by any walk; the new list is the first of what is ours -/
theorem lc_own {σw : L2.St} (hw : wipe σ vs = σw) (W : Walk J n Gd Y) (O : Own G H L) (Pv : Nat → Hp → List (Addr × HO) → List V → Prop) (h0 : Pv 0 G L [])
    (hG : ∀ (i : Nat) (G' H' : Hp) (D : Addr) (L' : List (Addr × HO)) (acc : List V), Same G G' → Own G' H' ((D, .lst acc) :: L') → Pv i G' L' acc → Gd H')
    (st : ∀ (i : Nat) (x : V) (G' H' H2 : Hp) (D : Addr) (L' : List (Addr × HO)) (acc : List V), i < n → Same G G' → Own G' H' ((D, .lst acc) :: L') → Pv i G' L' acc → Y i H' x H2 →
      g x σw H2 fun σ2 H2 => wipe σ2 vs = σw ∧ tt σ2 H2 fun k H3 => if k = true then te σ2 H3 (LcN G Pv D i) else PvH G Pv D (i + 1) H3)
    (fin : ∀ (G' H' : Hp) (D : Addr) (L' : List (Addr × HO)) (acc : List V), Same G G' → Own G' H' ((D, .lst acc) :: L') → Pv n G' L' acc → Q (.ref D) H') : tLc (iAt J) g tt te vs σ H Q := by
  subst hw
  intro D hD
  refine lc_it W (PvH G Pv D) ⟨G, L, [], Same.refl G, O.new hD, h0⟩ ?_ ?_ ?_
  · rintro i H' _ ⟨G', L', acc, s, O', p⟩
    exact hG i G' H' D L' acc s O' p
  · rintro i x H' H2 hi ⟨G', L', acc, s, O', p⟩ y
    exact st i x G' H' H2 D L' acc hi s O' p y
  · rintro H' ⟨G', L', acc, s, O', p⟩
    exact fin G' H' D L' acc s O' p
/-! for loops -/
variable {D : Ends} {tb : TS} {t2 : TS} {n1 b1 c1 : L2.St → Hp → Prop} {r1 : VK}
theorem x_forR (h : ta σ H fun zs H1 => ∃ n : Int, zs = [.int n] ∧ -(2 ^ 62) ≤ n ∧ n < 2 ^ 62 ∧ tFor (iAt (Itr 0 n.toNat)) g tb D σ H1) : tFor (iRng1 ta) g tb D σ H := h
theorem x_forS (h : tl σ H fun x H1 => ∃ a xs, x = .ref a ∧ ((SqL K H1 a xs ∧ tFor (iAt (Itl K a)) g tb D σ H1) ∨ (SqT K H1 a xs ∧ tFor (iAt (Itt K a)) g tb D σ H1))) : tFor (iSq K tl) g tb D σ H := h
def FvH (G : Hp) (Pv : Nat → L2.St → Hp → List (Addr × HO) → Prop) (i : Nat) (σ : L2.St) (H : Hp) : Prop := ∃ G' L', Same G G' ∧ Own G' H L' ∧ Pv i σ G' L'
theorem fvh {Pv : Nat → L2.St → Hp → List (Addr × HO) → Prop} {i : Nat} {σ : L2.St} {G' H' : Hp} {L' : List (Addr × HO)} (s : Same G G') (O : Own G' H' L') (p : Pv i σ G' L') : FvH G Pv i σ H' := ⟨G', L', s, O, p⟩
theorem for_own (W : Walk J n Gd Y) (O : Own G H L) (Pv : Nat → L2.St → Hp → List (Addr × HO) → Prop) (h0 : Pv 0 σ G L)
    (hG : ∀ (i : Nat) (σ : L2.St) (G' H' : Hp) (L' : List (Addr × HO)), Same G G' → Own G' H' L' → Pv i σ G' L' → Gd H')
    (st : ∀ (i : Nat) (x : V) (σ : L2.St) (G' H' H2 : Hp) (L' : List (Addr × HO)), i < n → Same G G' → Own G' H' L' → Pv i σ G' L' → Y i H' x H2 →
      g x σ H2 fun σ2 H2 => tb ⟨FvH G Pv (i + 1), r1, n1, FvH G Pv (i + 1)⟩ σ2 H2)
    (fin : ∀ (σ : L2.St) (G' H' : Hp) (L' : List (Addr × HO)), Same G G' → Own G' H' L' → Pv n σ G' L' → n1 σ H') : tFor (iAt J) g tb ⟨n1, r1, b1, c1⟩ σ H := by
  refine for_it W (FvH G Pv) ⟨G, L, Same.refl G, O, h0⟩ ?_ ?_ ?_
  · rintro i σ' H' _ ⟨G', L', s, O', p⟩
    exact hG i σ' G' H' L' s O' p
  · rintro i x σ' H' H2 hi ⟨G', L', s, O', p⟩ y
    exact st i x σ' G' H' H2 L' hi s O' p y
  · rintro σ' H' ⟨G', L', s, O', p⟩
    exact fin σ' G' H' L' s O' p
/-- while: a measure of the state -/
def WH (G : Hp) (Pv : Nat → L2.St → Hp → List (Addr × HO) → Prop) (m : Nat) (σ : L2.St) (H : Hp) : Prop := ∃ G' L', Same G G' ∧ Own G' H L' ∧ Pv m σ G' L'
def WvH (G : Hp) (Pv : Nat → L2.St → Hp → List (Addr × HO) → Prop) (m : Nat) (σ : L2.St) (H : Hp) : Prop := ∃ m', m' < m ∧ WH G Pv m' σ H
theorem wvh {Pv : Nat → L2.St → Hp → List (Addr × HO) → Prop} {m m' : Nat} {σ : L2.St} {G' H' : Hp} {L' : List (Addr × HO)} (l : m' < m) (s : Same G G') (O : Own G' H' L') (p : Pv m' σ G' L') : WvH G Pv m σ H' := ⟨m', l, G', L', s, O, p⟩
theorem w_yes {Pv : Nat → L2.St → Hp → List (Addr × HO) → Prop} {m : Nat} {σ : L2.St} {H1 : Hp} (h : tb ⟨WvH G Pv m, r1, n1, WvH G Pv m⟩ σ H1) :
    ∃ N : L2.St → Hp → Prop, (∀ σ' H', N σ' H' → ∃ m', m' < m ∧ WH G Pv m' σ' H') ∧ tb ⟨N, r1, n1, N⟩ σ H1 := ⟨WvH G Pv m, fun _ _ z => z, h⟩
theorem while_own {c : TT} {m : Nat} (O : Own G H L) (Pv : Nat → L2.St → Hp → List (Addr × HO) → Prop) (h0 : Pv m σ G L)
    (st : ∀ (m : Nat) (σ : L2.St) (G' H' : Hp) (L' : List (Addr × HO)), Same G G' → Own G' H' L' → Pv m σ G' L' →
      c σ H' fun k H1 => if k = true then ∃ N : L2.St → Hp → Prop, (∀ σ' H', N σ' H' → ∃ m', m' < m ∧ WH G Pv m' σ' H') ∧ tb ⟨N, r1, n1, N⟩ σ H1 else n1 σ H1) : tWhile c tb ⟨n1, r1, b1, c1⟩ σ H := by
  refine ⟨WH G Pv, ⟨m, G, L, Same.refl G, O, h0⟩, ?_⟩
  rintro m σ H ⟨G', L', s, O', p⟩
  exact st m σ G' H L' s O' p
end
end
end G
set_option maxHeartbeats 4000000
/-! Part E: bounds of data; expressions that bring bounded data. -/
namespace G
open PySem PySem.Spec PyProof.Rows L2
/-! ### texts of ASCII signs, short -/
def asc (x : Str) : Bool := x.cps.toList.all fun c => decide (c < 128)
/-- a text of at most n ASCII signs -/
def St (n : Nat) (x : Str) : Prop := asc x = true ∧ x.length ≤ n
theorem len_l (x : Str) : x.length = x.cps.toList.length := by simp [Str.length]
theorem asc_all {x : Str} : asc x = true ↔ ∀ c ∈ x.cps.toList, c < 128 := by
  unfold asc
  rw [List.all_eq_true]
  exact ⟨fun h c hc => of_decide_eq_true (h c hc), fun h c hc => decide_eq_true (h c hc)⟩
theorem tl_app (a b : Str) : (a ++ b).cps.toList = a.cps.toList ++ b.cps.toList := by
  show (a.cps ++ b.cps).toList = _
  exact Array.toList_append
theorem St.mono {m n : Nat} {x : Str} (s : St m x) (h : m ≤ n) : St n x := ⟨s.1, Nat.le_trans s.2 h⟩
theorem St.app {m n : Nat} {a b : Str} (s : St m a) (t : St n b) : St (m + n) (a ++ b) := by
  refine ⟨asc_all.mpr fun c hc => ?_, ?_⟩
  · rw [tl_app] at hc
    rcases List.mem_append.mp hc with hc | hc
    · exact asc_all.mp s.1 c hc
    · exact asc_all.mp t.1 c hc
  · rw [len_l, tl_app, List.length_append, ← len_l, ← len_l]
    have := s.2
    have := t.2
    omega
theorem St.up {n : Nat} {a : Str} (s : St n a) : St n (Txt.upper a) := by
  have ha := asc_all.mp s.1
  rw [upper_ascii ha]
  refine ⟨asc_all.mpr fun c hc => ?_, ?_⟩
  · rw [Array.toList_map] at hc
    obtain ⟨d, hd, rfl⟩ := List.mem_map.mp hc
    have z := ha d hd
    unfold up1
    split <;> omega
  · have := s.2
    rw [len_l] at this ⊢
    simpa using this
theorem St.join {n : Nat} : ∀ {ys : List Str}, (∀ y ∈ ys, St n y) → St (n * ys.length) (Txt.join (Str.ofString "") ys) := by
  intro ys h
  rw [show Txt.join (Str.ofString "") ys = Str.join (Str.ofString "") ys from TL.join_eq _ ys]
  induction ys with
  | nil => exact ⟨rfl, Nat.zero_le _⟩
  | cons x r ih =>
    have hx := h x List.mem_cons_self
    have hr := ih fun y hy => h y (List.mem_cons_of_mem _ hy)
    cases r with
    | nil => exact hx.mono (by simp)
    | cons z r =>
      show St _ (x ++ Str.ofString "" ++ Str.join (Str.ofString "") (z :: r))
      refine ((hx.app (n := 0) (show St 0 (Str.ofString "") from ⟨rfl, Nat.le_refl _⟩)).app hr).mono ?_
      have e : n * (x :: z :: r).length = n * (z :: r).length + n := Nat.mul_succ _ _
      rw [e]
      omega
/-! ### data of ASCII texts, small ints, empty dicts -/
mutual
def okD : PyData → Bool
  | .none => true
  | .bool _ => true
  | .int i => decide (i.natAbs < 1000)
  | .str x => asc x
  | .list ds => okDL ds
  | .tuple ds => okDL ds
  | .dict ps => ps.isEmpty
def okDL : List PyData → Bool
  | [] => true
  | d :: ds => okD d && okDL ds
end
mutual
theorem okD_short : ∀ d : PyData, okD d = true → d.leavesShort 13 = true
  | .none, _ => rfl
  | .bool _, _ => rfl
  | .int i, h => by
    simp only [okD, decide_eq_true_eq] at h
    simp only [PyData.leavesShort, decide_eq_true_eq]
    exact PyData.shown_int_le (by omega)
  | .str x, h => by
    simp only [okD] at h
    have := asc_all.mp h
    simp only [PyData.leavesShort, List.all_eq_true, decide_eq_true_eq]
    intro c hc
    exact Nat.lt_trans (this c hc) (by decide)
  | .list ds, h => by
    simp only [okD] at h
    simp only [PyData.leavesShort]
    exact okDL_short ds h
  | .tuple ds, h => by
    simp only [okD] at h
    simp only [PyData.leavesShort]
    exact okDL_short ds h
  | .dict ps, h => by
    simp only [okD, List.isEmpty_iff] at h
    subst h
    rfl
theorem okDL_short : ∀ ds : List PyData, okDL ds = true → PyData.leavesShortAll 13 ds = true
  | [], _ => rfl
  | d :: ds, h => by
    simp only [okDL, Bool.and_eq_true] at h
    simp only [PyData.leavesShortAll, Bool.and_eq_true]
    exact ⟨okD_short d h.1, okDL_short ds h.2⟩
end
theorem len_wt {ds : List PyData} : ds.length ≤ PyData.weightAll ds := by
  induction ds with
  | nil => exact Nat.zero_le _
  | cons d ds ih =>
    simp only [List.length_cons, PyData.weightAll]
    omega
theorem small_log {i : Int} (h : i.natAbs < 1000) : i.natAbs.log2 < 1920 := by
  by_cases z : i.natAbs = 0
  · rw [z]; decide
  · have := Nat.log2_self_le z
    have h2 : i.natAbs.log2 < 10 := by
      rcases Nat.lt_or_ge i.natAbs.log2 10 with a | a
      · exact a
      · have := Nat.pow_le_pow_right (show 0 < 2 by decide) a
        omega
    omega
mutual
theorem okD_fits : ∀ d : PyData, okD d = true → d.weight ≤ 2 ^ 20 → fits d = true
  | .none, _, _ => rfl
  | .bool _, _, _ => rfl
  | .int i, h, _ => by
    simp only [okD, decide_eq_true_eq] at h
    simp only [fits, decide_eq_true_eq]
    exact small_log h
  | .str x, h, w => by
    have := PyData.shown_fits (B := 13) (by decide) (by decide) (okD_short (.str x) h) w
    simp only [fits, decide_eq_true_eq]
    simpa [PyData.shown] using this
  | .list ds, h, w => by
    simp only [okD] at h
    simp only [PyData.weight] at w
    simp only [fits]
    exact okDL_fits ds h w
  | .tuple ds, h, w => by
    simp only [okD] at h
    simp only [PyData.weight] at w
    simp only [fits]
    exact okDL_fits ds h w
  | .dict ps, h, _ => by
    simp only [okD, List.isEmpty_iff] at h
    subst h
    rfl
theorem okDL_fits : ∀ ds : List PyData, okDL ds = true → PyData.weightAll ds ≤ 2 ^ 20 → fitsL ds = true
  | [], _, _ => rfl
  | d :: ds, h, w => by
    simp only [okDL, Bool.and_eq_true] at h
    simp only [PyData.weightAll] at w
    simp only [fitsL, Bool.and_eq_true]
    exact ⟨okD_fits d h.1 (by omega), okDL_fits ds h.2 (by omega)⟩
end
/-- d lies in these bounds -/
structure Bd (m n : Nat) (d : PyData) : Prop where
  ok : okD d = true
  dep : d.depth ≤ m
  wt : d.weight ≤ n
structure BdL (m n : Nat) (ds : List PyData) : Prop where
  ok : okDL ds = true
  dep : PyData.depthAll ds ≤ m
  wt : PyData.weightAll ds ≤ n
section
variable {m n m1 m2 n1 n2 : Nat} {d : PyData} {ds : List PyData} {K : PySem.W.Frag} {G G' H H' : Hp} {v : V} {vs : List V} {a : Addr} {x : Str}
theorem Bd.mono (b : Bd m n d) (h1 : m ≤ m1) (h2 : n ≤ n1) : Bd m1 n1 d := ⟨b.ok, Nat.le_trans b.dep h1, Nat.le_trans b.wt h2⟩
theorem BdL.nil : BdL 0 0 [] := ⟨rfl, Nat.le_refl _, Nat.le_refl _⟩
theorem BdL.cons (b : Bd m1 n1 d) (c : BdL m2 n2 ds) : BdL (max m1 m2) (n1 + 1 + n2) (d :: ds) := by
  refine ⟨by simp only [okDL, b.ok, c.ok, Bool.and_true], ?_, ?_⟩
  · simp only [PyData.depthAll]
    have := b.dep
    have := c.dep
    omega
  · simp only [PyData.weightAll]
    have := b.wt
    have := c.wt
    omega
theorem BdL.tup (b : BdL m n ds) : Bd (m + 1) n (.tuple ds) := ⟨by simp only [okD]; exact b.ok, by simp only [PyData.depth]; have := b.dep; omega, by simp only [PyData.weight]; exact b.wt⟩
theorem BdL.lst (b : BdL m n ds) : Bd (m + 1) n (.list ds) := ⟨by simp only [okD]; exact b.ok, by simp only [PyData.depth]; have := b.dep; omega, by simp only [PyData.weight]; exact b.wt⟩
theorem BdL.mem : ∀ {ds : List PyData}, BdL m n ds → ∀ d ∈ ds, Bd m n d
  | [], _, _, h => nomatch h
  | e :: ds, b, d, h => by
    have h1 := b.ok
    have h2 := b.dep
    have h3 := b.wt
    simp only [okDL, Bool.and_eq_true] at h1
    simp only [PyData.depthAll] at h2
    simp only [PyData.weightAll] at h3
    rcases List.mem_cons.mp h with rfl | h
    · exact ⟨h1.1, by omega, by omega⟩
    · exact BdL.mem (ds := ds) ⟨h1.2, by omega, by omega⟩ d h
theorem Bd.str (s : St n x) : Bd 0 n (.str x) := ⟨by simp only [okD]; exact s.1, by simp only [PyData.depth]; omega, by simp only [PyData.weight]; exact s.2⟩
/-- v is data in these bounds -/
def Fn (K : PySem.W.Frag) (G : Hp) (m n : Nat) (v : V) : Prop := ∃ d, Dt K G v d ∧ Bd m n d
def FnL (K : PySem.W.Frag) (G : Hp) (m n : Nat) (vs : List V) : Prop := ∃ ds, DtL K G vs ds ∧ BdL m n ds
theorem Fn.mono (f : Fn K G m1 n1 v) (h1 : m1 ≤ m) (h2 : n1 ≤ n) : Fn K G m n v := let ⟨d, a, b⟩ := f; ⟨d, a, b.mono h1 h2⟩
theorem Fn.same (f : Fn K G m n v) (s : Same G G') : Fn K G' m n v := let ⟨d, a, b⟩ := f; ⟨d, a.mono s, b⟩
theorem FnL.same (f : FnL K G m n vs) (s : Same G G') : FnL K G' m n vs := let ⟨d, a, b⟩ := f; ⟨d, a.mono s, b⟩
theorem FnL.mono (f : FnL K G m1 n1 vs) (h1 : m1 ≤ m) (h2 : n1 ≤ n) : FnL K G m n vs := let ⟨d, a, b⟩ := f; ⟨d, a, b.ok, Nat.le_trans b.dep h1, Nat.le_trans b.wt h2⟩
theorem Fn.str (s : St n x) : Fn K G 0 n (.str x) := ⟨_, .str x, Bd.str s⟩
theorem Fn.non : Fn K G 0 0 .non := ⟨_, .non, rfl, Nat.le_refl _, Nat.le_refl _⟩
theorem Fn.bl {c : Bool} : Fn K G 0 0 (.bl c) := ⟨_, .bl c, rfl, Nat.le_refl _, Nat.le_refl _⟩
theorem Fn.int {i : Int} (h : i.natAbs < 1000) : Fn K G 0 10 (.int i) := ⟨_, .int i, by simp only [okD, h, decide_true], by simp only [PyData.depth]; omega, by
  simp only [PyData.weight]
  split
  · omega
  · rename_i z
    have z2 : i.natAbs ≠ 0 := fun e => z (by rw [Int.natAbs_eq_zero.mp e]; rfl)
    rcases Nat.lt_or_ge i.natAbs.log2 10 with a | a
    · exact a
    · have := Nat.pow_le_pow_right (show 0 < 2 by decide) a
      have := Nat.log2_self_le z2
      omega⟩
theorem FnL.nil : FnL K G 0 0 [] := ⟨_, .nil, BdL.nil⟩
theorem FnL.cons (f : Fn K G m1 n1 v) (g : FnL K G m2 n2 vs) : FnL K G (max m1 m2) (n1 + 1 + n2) (v :: vs) := let ⟨_, a, b⟩ := f; let ⟨_, c, e⟩ := g; ⟨_, .cons a c, BdL.cons b e⟩
theorem FnL.tup (f : FnL K G m n vs) (h : SqT K G a vs) : Fn K G (m + 1) n (.ref a) := let ⟨_, a, b⟩ := f; ⟨_, .tup h a, b.tup⟩
theorem FnL.lst (f : FnL K G m n vs) (h : SqL K G a vs) : Fn K G (m + 1) n (.ref a) := let ⟨_, a, b⟩ := f; ⟨_, .lst h a, b.lst⟩
theorem FnL.len (f : FnL K G m n vs) : vs.length ≤ n := by
  obtain ⟨ds, a, b⟩ := f
  rw [a.length]
  exact Nat.le_trans len_wt b.wt
theorem DtL.mem : ∀ {vs : List V} {ds : List PyData}, DtL K G vs ds → ∀ v ∈ vs, ∃ d ∈ ds, Dt K G v d
  | _, _, .nil, _, h => nomatch h
  | _, _, .cons h t, v, hv => by
    rcases List.mem_cons.mp hv with rfl | hv
    · exact ⟨_, List.mem_cons_self, h⟩
    · obtain ⟨d, hd, q⟩ := t.mem v hv
      exact ⟨d, List.mem_cons_of_mem _ hd, q⟩
theorem FnL.mem (f : FnL K G m n vs) : ∀ v ∈ vs, Fn K G m n v := by
  obtain ⟨ds, a, b⟩ := f
  intro v hv
  obtain ⟨d, hd, q⟩ := a.mem v hv
  exact ⟨d, q, b.mem d hd⟩
/-- of items, each within bounds -/
theorem FnL.all : ∀ {vs : List V}, (∀ v ∈ vs, Fn K G m n v) → FnL K G m ((n + 1) * vs.length) vs
  | [], _ => FnL.nil.mono (Nat.zero_le _) (Nat.zero_le _)
  | v :: vs, h => by
    have z := (FnL.cons (h v List.mem_cons_self) (FnL.all fun w hw => h w (List.mem_cons_of_mem _ hw)))
    refine z.mono (by omega) ?_
    rw [List.length_cons, Nat.mul_add]
    omega
/-- repr of bounded data -/
theorem x_reprB {Q : VK} (h : Dt K H v d) (b : Bd m n d) (hm : m ≤ 60) (hn : n ≤ 2 ^ 20) (q : Q (.str d.shown) H) : rRepr K [v] H Q :=
  x_repr h (okD_fits d b.ok (Nat.le_trans b.wt hn)) (PyData.shown_fits (B := 13) (by decide) (by decide) (okD_short d b.ok) (Nat.le_trans b.wt hn)) (Nat.le_trans b.dep hm) q
end
/-! ### expressions that bring bounded data, whatever is ours -/
section
variable {K : PySem.W.Frag} {G0 : Hp} {σ : L2.St} {m n m1 n1 m2 n2 B B1 B2 : Nat} {te tf : TE} {t : TA} {v : V} {x : Str}
def FT (K : PySem.W.Frag) (G0 : Hp) (σ : L2.St) (m n : Nat) (te : TE) : Prop := ∀ (G H : Hp) (L : List (Addr × HO)) (Q : VK), Same G0 G → Own G H L → (∀ G' H' v, Same G G' → Own G' H' L → Fn K G' m n v → Q v H') → te σ H Q
def FA (K : PySem.W.Frag) (G0 : Hp) (σ : L2.St) (m n : Nat) (t : TA) : Prop := ∀ (G H : Hp) (L : List (Addr × HO)) (Q : List V → Hp → Prop), Same G0 G → Own G H L → (∀ G' H' vs, Same G G' → Own G' H' L → FnL K G' m n vs → Q vs H') → t σ H Q
theorem FT.mono (f : FT K G0 σ m1 n1 te) (h1 : m1 ≤ m) (h2 : n1 ≤ n) : FT K G0 σ m n te := fun G H L Q s O k => f G H L Q s O fun G' H' v s' O' q => k G' H' v s' O' (q.mono h1 h2)
theorem ft_var {i : Nat} (h : σ[i]? = some (some v)) (f : Fn K G0 m n v) : FT K G0 σ m n (tVar i) := fun G _ _ _ s O k => x_var h (k G _ v (Same.refl G) O (f.same s))
theorem ft_str (h : St n x) : FT K G0 σ 0 n (tC (.str x)) := fun G _ _ _ _ O k => x_c (k G _ _ (Same.refl G) O (Fn.str h))
theorem ft_non : FT K G0 σ 0 0 (tC .non) := fun G _ _ _ _ O k => x_c (k G _ _ (Same.refl G) O Fn.non)
theorem ft_bl {c : Bool} : FT K G0 σ 0 0 (tC (.bl c)) := fun G _ _ _ _ O k => x_c (k G _ _ (Same.refl G) O Fn.bl)
theorem ft_int {i : Int} (h : i.natAbs < 1000) : FT K G0 σ 0 10 (tC (.int i)) := fun G _ _ _ _ O k => x_c (k G _ _ (Same.refl G) O (Fn.int h))
theorem fa_nil : FA K G0 σ 0 0 tNil := fun G _ _ _ _ O k => x_anil (k G _ _ (Same.refl G) O FnL.nil)
theorem fa_cons (f : FT K G0 σ m1 n1 te) (g : FA K G0 σ m2 n2 t) : FA K G0 σ (max m1 m2) (n1 + 1 + n2) (tCons te t) := fun G H L Q s O k =>
  x_acons (f G H L _ s O fun G1 H1 v s1 O1 q1 => g G1 H1 L _ (s.trans s1) O1 fun G2 H2 vs s2 O2 q2 => k G2 H2 _ (s1.trans s2) O2 (FnL.cons (q1.same s2) q2))
theorem sz20 {a : Nat} (h : a ≤ 2 ^ 20) : a ≤ sizeLine := by rw [sizeLine_eq]; omega
theorem ft_tup (f : FA K G0 σ m n t) (hn : n ≤ 2 ^ 20) : FT K G0 σ (m + 1) n (dTup t) := fun G H L Q s O k =>
  x_tup (f G H L _ s O fun G1 H1 vs s1 O1 q1 => ⟨sz20 (Nat.le_trans q1.len hn), x_fix O1 fun p G2 H2 s2 O2 e => k G2 H2 _ (s1.trans s2) O2 ((q1.same s2).tup (SqT.of e))⟩)
theorem ft_lst (f : FA K G0 σ m n t) (hn : n ≤ 2 ^ 20) : FT K G0 σ (m + 1) n (dLst t) := fun G H L Q s O k =>
  x_lst (f G H L _ s O fun G1 H1 vs s1 O1 q1 => ⟨sz20 (Nat.le_trans q1.len hn), x_fix O1 fun p G2 H2 s2 O2 e => k G2 H2 _ (s1.trans s2) O2 ((q1.same s2).lst (SqL.of e))⟩)
theorem ft_dict : FT K G0 σ 1 0 dDict := fun G H L Q s O k => x_dict (x_fix O fun p G2 H2 s2 O2 e => k G2 H2 _ s2 O2 ⟨.dict [], .dic e .nil .nil, by simp only [okD, List.isEmpty_nil], by simp only [PyData.depth, PyData.depthKv]; omega, by simp only [PyData.weight, PyData.weightKv]; omega⟩)
/-- a list of our own making: B items, each in bounds -/
def Ls (K : PySem.W.Frag) (G : Hp) (m n B : Nat) (v : V) : Prop := ∃ p xs, v = .ref p ∧ G p = some (.lst xs) ∧ xs.length = B ∧ ∀ y ∈ xs, Fn K G m n y
theorem Ls.same {G G' : Hp} (l : Ls K G m n B v) (s : Same G G') : Ls K G' m n B v := let ⟨p, xs, e, h, z, a⟩ := l; ⟨p, xs, e, s _ _ h, z, fun y hy => (a y hy).same s⟩
def LT (K : PySem.W.Frag) (G0 : Hp) (σ : L2.St) (m n B : Nat) (te : TE) : Prop := ∀ (G H : Hp) (L : List (Addr × HO)) (Q : VK), Same G0 G → Own G H L → (∀ G' H' v, Same G G' → Own G' H' L → Ls K G' m n B v → Q v H') → te σ H Q
def LA (K : PySem.W.Frag) (G0 : Hp) (σ : L2.St) (m n B : Nat) (t : TA) : Prop := ∀ (G H : Hp) (L : List (Addr × HO)) (Q : List V → Hp → Prop), Same G0 G → Own G H L → (∀ G' H' vs, Same G G' → Own G' H' L → vs.length = B → (∀ y ∈ vs, Fn K G' m n y) → Q vs H') → t σ H Q
theorem la_nil : LA K G0 σ m n 0 tNil := fun G _ _ _ _ O k => x_anil (k G _ _ (Same.refl G) O rfl fun _ z => nomatch z)
theorem la_cons (f : FT K G0 σ m1 n1 te) (g : LA K G0 σ m n B t) (h1 : m1 ≤ m) (h2 : n1 ≤ n) : LA K G0 σ m n (B + 1) (tCons te t) := fun G H L Q s O k =>
  x_acons (f G H L _ s O fun G1 H1 v s1 O1 q1 => g G1 H1 L _ (s.trans s1) O1 fun G2 H2 vs s2 O2 z q2 => k G2 H2 _ (s1.trans s2) O2 (by rw [List.length_cons]; omega) fun y hy => by
    rcases List.mem_cons.mp hy with rfl | hy
    · exact (q1.same s2).mono h1 h2
    · exact q2 y hy)
theorem lt_lst (f : LA K G0 σ m n B t) (hn : B ≤ 2 ^ 20) : LT K G0 σ m n B (dLst t) := fun G H L Q s O k =>
  x_lst (f G H L _ s O fun G1 H1 vs s1 O1 z q1 => ⟨sz20 (Nat.le_trans (Nat.le_of_eq z) hn), x_fix O1 fun p G2 H2 s2 O2 e => k G2 H2 _ (s1.trans s2) O2 ⟨p, vs, rfl, e, z, fun y hy => (q1 y hy).same s2⟩⟩)
theorem lt_var {i : Nat} (h : σ[i]? = some (some v)) (f : Ls K G0 m n B v) : LT K G0 σ m n B (tVar i) := fun G _ _ _ s O k => x_var h (k G _ v (Same.refl G) O (f.same s))
theorem lt_add (f : LT K G0 σ m n B1 te) (g : LT K G0 σ m n B2 tf) (hn : B1 + B2 ≤ 2 ^ 20) : LT K G0 σ m n (B1 + B2) (tOp (aAdd K) te tf) := fun G H L Q s O k =>
  x_op (f G H L _ s O fun G1 H1 v s1 O1 l1 => g G1 H1 L _ (s.trans s1) O1 fun G2 H2 w s2 O2 l2 => by
    obtain ⟨p, xs, rfl, hp, z1, a1⟩ := l1.same s2
    obtain ⟨q, ys, rfl, hq, z2, a2⟩ := l2
    refine x_addl (O2.sub _ _ hp) (O2.sub _ _ hq) (sz20 (by omega)) (x_fix O2 fun r G3 H3 s3 O3 e => k G3 H3 _ ((s1.trans s2).trans s3) O3 ⟨r, _, rfl, e, by rw [List.length_append]; omega, fun y hy => ?_⟩)
    rcases List.mem_append.mp hy with hy | hy
    · exact (a1 y hy).same s3
    · exact (a2 y hy).same s3)
theorem ft_addsv {i : Nat} {a : Str} (h : σ[i]? = some (some (.str x))) (sx : St m x) (sa : St n a) (hz : n + m ≤ 2 ^ 20) : FT K G0 σ 0 (n + m) (tOp (aAdd K) (tC (.str a)) (tVar i)) := fun G _ _ _ s O k =>
  x_op (x_c (x_var h (x_adds (sz20 (by have := sx.2; have := sa.2; omega)) (k G _ _ (Same.refl G) O (Fn.str (sa.app sx))))))
end
end G
set_option maxHeartbeats 4000000
/-! Part K: the rules with the fragment named, for use within comprehensions. -/
namespace G
open PySem PySem.Spec PyProof.Rows L2
section
variable {X : Cx} {K : PySem.W.Frag} {k : Nat} {te : TE} {e tg : Expr}
theorem oAddK (h : X.K = K) : OpR X (binaryOp .Add) (aAdd K) := h ▸ oAdd
theorem oEqK (h : X.K = K) (r : Rm k X.A) : OpR X (compareOp .Eq) (aEq K) := h ▸ oEq r.q
theorem oEqQ (h : X.K = K) (r : Rq X.A) : OpR X (compareOp .Eq) (aEq K) := h ▸ oEq r
theorem oNeK (h : X.K = K) (r : Rm k X.A) : OpR X (compareOp .NotEq) (aNe K) := h ▸ oNe r.q
theorem oInK (h : X.K = K) : OpR X (compareOp .In) (rIn K false) := h ▸ oIn
theorem oNinK (h : X.K = K) : OpR X (compareOp .NotIn) (rIn K true) := h ▸ oNin
theorem oSlK (h : X.K = K) : SlR X (aSl K) := h ▸ oSl
theorem cLenK (h : X.K = K) : CallR X (.builtin "len") (aLen K) := h ▸ cLen
theorem cListK (h : X.K = K) : CallR X (.type "list") (aList K) := h ▸ cList
theorem cTupleK (h : X.K = K) : CallR X (.type "tuple") (aTuple K) := h ▸ cTuple
theorem cIsiK (h : X.K = K) : CallR X (.builtin "isinstance") (aIsi K) := h ▸ cIsi
theorem cSortedK (h : X.K = K) : CallR X (.builtin "sorted") (aSorted K) := h ▸ cSorted
theorem cReprK (h : X.K = K) (r : Rm k X.A) : CallR X (.builtin "repr") (rRepr K) := h ▸ call_repr r.q
theorem cReprQ (h : X.K = K) (r : Rq X.A) : CallR X (.builtin "repr") (rRepr K) := h ▸ call_repr r
theorem cSumK (h : X.K = K) (c : X.calm = true) : CallR X (.builtin "sum") (rSum K) := h ▸ cr_sum c
theorem cAllK (h : X.K = K) (c : X.calm = true) : CallR X (.builtin "all") (rAll K) := h ▸ cr_all c
theorem cMaxK (h : X.K = K) (c : X.calm = true) : CallR X (.builtin "max") (rMax K) := h ▸ cr_max c
theorem pg_tupK {es : List Expr} {k n : Nat} {t : TGs} {pos : Pos} (h : X.K = K) (hc : X.calm = true) (z : PGs X es t)
    (hn : (assignEach es X.env).length = n := by rfl) (hst : (assignEach es X.env).findIdx? (·.1) = none := by rfl) : PG X (.Tuple es k pos) (gTup K n t) := h ▸ pg_tup hc z hn hst
theorem mJoinK (h : X.K = K) : MtR X "str.join" (aJoin K) := h ▸ mJoin
theorem ixK (h : X.K = K) : IxR X (rIx K) := h ▸ ix_seq
theorem pi_sqK (h : X.K = K) (he : PE X e te) : PI X tg e (iSq K te) := h ▸ pi_sq he
theorem pt_truK (h : X.K = K) {a : Expr} {ta : TE} (ha : PE X a ta) (he : ∀ whole, isTrue a X.env whole = (do let v ← whole; standAt a.pos; holding [v] (truthy v)) := by intro _; rfl) : PT X a (tTru K ta) := h ▸ pt_tru ha he
theorem pe_bmK' {name : Str} {id : String} {r : V → List V → Hp → VK → Prop} {o : Expr} {es : List Expr} {to : TE} {t : TA} {apos cpos : Pos} {Ty : String} (h : X.K = K) (pa : PlainAttrs Ty) (slot : Slot Ty name id) (hty : typeOf (.builtin id) = pure (.type "method_descriptor")) (hm : MtR X id r) (ho : PE X o to) (ha : PA X (e :: es) t)
    (hbase : attributeBase o name X.env (eval o X.env) = eval o X.env := by rfl)
    (hfew : ((backTo cpos (starEach (e :: es) X.env)).all (fun x => !x.1) && (backToKw cpos (keywordEach [] X.env)).all (fun x => x.1.isSome)
      && decide ((e :: es).length + ([] : List Keyword).length + (if ([] : List Keyword).isEmpty then 0 else 1) < 30)) = true := by rfl)
    (hline : (apos.endLine == cpos.line) = true := by rfl) (hs : starEach (e :: es) X.env = (false, eval e X.env) :: starEach es X.env := by rfl) (hplain : (backTo cpos (starEach es X.env)).any (·.1) = false := by rfl) :
    PE X (.Call (.Attribute o name apos) (e :: es) [] cpos) (tBM K Ty r to t) := h ▸ pe_bm pa slot hty hm ho ha hbase hfew hline hs hplain
end
section
variable {σ : L2.St} {H : Hp} {v : V} {q : L2.St → Hp → Prop}
theorem x_gT {K : PySem.W.Frag} {n : Nat} {t : TGs} {p : Addr} {xs : List V} (h : SqT K H p xs) (hl : xs.length = n) (z : t xs σ H q) : gTup K n t (.ref p) σ H q := ⟨p, xs, rfl, h, hl, z⟩
theorem x_gC {t : TG} {u : TGs} {r : List V} (z : t v σ H fun σ' H' => u r σ' H' q) : gCons t u (v :: r) σ H q := ⟨v, r, rfl, z⟩
theorem x_gNl (z : q σ H) : gNil [] σ H q := ⟨rfl, z⟩
theorem x_gN {m : Nat} {σ' : L2.St} (hs : σ.set m (some v) = σ') (h : q σ' H) : gName m v σ H q := by
  show q (σ.set m (some v)) H
  rw [hs]
  exact h
variable {n b1 c1 : L2.St → Hp → Prop} {r1 : VK}
theorem x_start {N : List Str} {vs : List V} {t : TS} {D : Ends} {σ' : L2.St} (hs : L2.start N vs = σ') (h : t D σ' H) : t D (L2.start N vs) H := by rw [hs]; exact h
theorem x_asgN {te : TE} {m : Nat} {σ' : V → L2.St} (hs : ∀ x, σ.set m (some x) = σ' x) (h : te σ H fun x H1 => n (σ' x) H1) : tAsg te (gName m) ⟨n, r1, b1, c1⟩ σ H := by
  refine x_asg ?_
  simp only [hs]
  exact h
theorem x_parN {m l : Nat} {ta : TA} {σ' : V → V → L2.St} (hs : ∀ v w, (σ.set m (some v)).set l (some w) = σ' v w) (h : ta σ H fun vs H1 => ∃ v w, vs = [v, w] ∧ n (σ' v w) H1) : tPar m l ta ⟨n, r1, b1, c1⟩ σ H := by
  refine x_par ?_
  simp only [hs]
  exact h
theorem x_par3N {m l o : Nat} {ta : TA} {σ' : V → V → V → L2.St} (hs : ∀ u v w, ((σ.set m (some u)).set l (some v)).set o (some w) = σ' u v w) (h : ta σ H fun vs H1 => ∃ u v w, vs = [u, v, w] ∧ n (σ' u v w) H1) : tPar3 m l o ta ⟨n, r1, b1, c1⟩ σ H := by
  refine x_par3 ?_
  simp only [hs]
  exact h
end
end G
set_option maxHeartbeats 4000000
/-! Part L: comprehensions by what each element brings. -/
namespace G
open PySem PySem.Spec PyProof.Rows L2
theorem perm_eras {α : Type} : ∀ (l : List α) (n : Nat) (h : n < l.length), (l[n] :: l.eraseIdx n).Perm l
  | [], _, h => absurd h (Nat.not_lt_zero _)
  | _ :: _, 0, _ => List.Perm.refl _
  | a :: l, n + 1, h => (List.Perm.swap a _ _).trans (List.Perm.cons a (perm_eras l n (Nat.lt_of_succ_lt_succ h)))
theorem seqIndex?_nat {n m : Nat} (h : n < m) : seqIndex? (n : Int) m = some n := by
  unfold seqIndex?
  simp only [show ¬ ((n : Int) < 0) by omega, if_false]
  simp [h]
/-! a statement after which only one variable and the heap matter -/
/-! lists by their items -/
theorem eq_of_ix {α β : Type} {f : α → β} {xs : List α} {ys : List β} (hl : ys.length = xs.length) (h : ∀ (i : Nat) (y : β), ys[i]? = some y → ∃ x, xs[i]? = some x ∧ y = f x) : ys = xs.map f := by
  refine List.ext_getElem? fun i => ?_
  rw [List.getElem?_map]
  cases e : ys[i]? with
  | none =>
    have := List.getElem?_eq_none_iff.mp e
    rw [List.getElem?_eq_none (by omega)]
    rfl
  | some y =>
    obtain ⟨x, ex, rfl⟩ := h i y e
    rw [ex]
    rfl
theorem eq_of_rg {β : Type} {f : Nat → β} {n : Nat} {ys : List β} (hl : ys.length = n) (h : ∀ (i : Nat) (y : β), ys[i]? = some y → y = f i) : ys = (List.range n).map f := by
  refine eq_of_ix (by rw [List.length_range]; exact hl) fun i y e => ?_
  have := (List.getElem?_eq_some_iff.mp e).1
  exact ⟨i, by rw [List.getElem?_range (by omega)], h i y e⟩
section
variable {σ : L2.St} {H : Hp} {Q : VK} {K : PySem.W.Frag} {g : TG} {tt : TT} {te : TE} {vs : List Nat}
variable {J : It} {n : Nat} {Gd : Hp → Prop} {Y : Nat → Hp → V → Hp → Prop} {G : Hp} {L : List (Addr × HO)}
theorem lt_line {n : Nat} (h : n < 2 ^ 20) : n < sizeLine := by rw [sizeLine_eq]; omega
def PvM (L : List (Addr × HO)) (Rl : Hp → Nat → V → Prop) : Nat → Hp → List (Addr × HO) → List V → Prop := fun i G' L' acc => L' = L ∧ acc.length = i ∧ ∀ (j : Nat) (y : V), acc[j]? = some y → Rl G' j y
/-- no condition: what each element brings, kept -/
theorem lc_map {σw : L2.St} (hw : wipe σ vs = σw) (W : Walk J n Gd Y) (O : Own G H L) (hn : n ≤ 2 ^ 20) (Rl : Hp → Nat → V → Prop) (mono : ∀ G G' i y, Same G G' → Rl G i y → Rl G' i y)
    (hG : ∀ (G' H' : Hp) (D : Addr) (acc : List V), Same G G' → Own G' H' ((D, .lst acc) :: L) → Gd H')
    (st : ∀ (i : Nat) (x : V) (G' H' H2 : Hp) (D : Addr) (acc : List V), i < n → Same G G' → Own G' H' ((D, .lst acc) :: L) → Y i H' x H2 →
      (∀ y G4 H4, Same G' G4 → Own G4 H4 ((D, .lst acc) :: L) → Rl G4 i y → LcN G (PvM L Rl) D i y H4) → g x σw H2 fun σ2 H2 => wipe σ2 vs = σw ∧ te σ2 H2 (LcN G (PvM L Rl) D i))
    (gm : ∀ (x : V) (σ' : L2.St) (H' : Hp) (S S' : L2.St → Hp → Prop), (∀ a b, S a b → S' a b) → g x σ' H' S → g x σ' H' S')
    (fin : ∀ (G' H' : Hp) (p : Addr) (ys : List V), Same G G' → Own G' H' L → G' p = some (.lst ys) → ys.length = n → (∀ (i : Nat) (y : V), ys[i]? = some y → Rl G' i y) → Q (.ref p) H') : tLc (iAt J) g tYes te vs σ H Q := by
  subst hw
  refine lc_own rfl W O (PvM L Rl) ⟨rfl, rfl, fun j y e => by simp at e⟩ ?_ ?_ ?_
  · rintro i G' H' D L' acc s' O' ⟨rfl, _⟩
    exact hG G' H' D acc s' O'
  · rintro i x G' H' H2 D L' acc hi s' O' ⟨rfl, hl, hr⟩ y
    refine gm _ _ _ _ _ (fun a b => ?_) (st i x G' H' H2 D acc hi s' O' y ?_)
    · rintro ⟨e1, e2⟩
      exact ⟨e1, x_yes (ite_t e2)⟩
    · intro v G4 H4 s4 O4 r4
      refine lcn (s'.trans s4) O4 (lt_line (by omega)) ⟨rfl, by rw [List.length_append]; simp [hl], fun j w e => ?_⟩
      rcases Nat.lt_trichotomy j acc.length with h | h | h
      · rw [List.getElem?_append_left h] at e
        exact mono _ _ _ _ s4 (hr j w e)
      · subst h
        rw [List.getElem?_append_right (Nat.le_refl _), Nat.sub_self] at e
        cases e
        rw [hl]
        exact r4
      · rw [List.getElem?_eq_none (by rw [List.length_append]; simp; omega)] at e
        cases e
  · rintro G' H' D L' acc s' O' ⟨rfl, hl, hr⟩
    exact fin (upd G' D (.lst acc)) H' D acc (s'.trans (Same.new O'.no0)) O'.frz0 upd_same hl fun i y e => mono _ _ _ _ (Same.new O'.no0) (hr i y e)
theorem gm_name {m : Nat} : ∀ (x : V) (σ' : L2.St) (H' : Hp) (S S' : L2.St → Hp → Prop), (∀ a b, S a b → S' a b) → gName m x σ' H' S → gName m x σ' H' S' := fun _ _ _ _ _ h z => h _ _ z
def PvF (L : List (Addr × HO)) (xs : List V) (p : V → Bool) : Nat → Hp → List (Addr × HO) → List V → Prop := fun i _ L' acc => L' = L ∧ acc = (xs.take i).filter p
/-- the items of xs that p keeps -/
theorem lc_filt {σw : L2.St} (hw : wipe σ vs = σw) {xs : List V} {m : Nat} (W : Walk J xs.length Gd Y) (hY : ∀ i H x H', i < xs.length → Y i H x H' → H' = H ∧ xs[i]? = some x) (O : Own G H L) (hn : xs.length ≤ 2 ^ 20) (p : V → Bool)
    (hG : ∀ (G' H' : Hp) (D : Addr) (acc : List V), Same G G' → Own G' H' ((D, .lst acc) :: L) → Gd H')
    (st : ∀ (i : Nat) (x : V) (G' H' : Hp) (D : Addr) (acc : List V), i < xs.length → xs[i]? = some x → Same G G' → Own G' H' ((D, .lst acc) :: L) →
      (∀ G4 H4 σ4, Same G' G4 → Own G4 H4 ((D, .lst acc) :: L) → p x = true → σ4[m]? = some (some x) → tVar m σ4 H4 (LcN G (PvF L xs p) D i)) →
      (∀ G4 H4, Same G' G4 → Own G4 H4 ((D, .lst acc) :: L) → p x = false → PvH G (PvF L xs p) D (i + 1) H4) →
      g x σw H' fun σ2 H2 => wipe σ2 vs = σw ∧ tt σ2 H2 fun k H3 => if k = true then tVar m σ2 H3 (LcN G (PvF L xs p) D i) else PvH G (PvF L xs p) D (i + 1) H3)
    (fin : ∀ (G' H' : Hp) (q : Addr), Same G G' → Own G' H' L → G' q = some (.lst (xs.filter p)) → Q (.ref q) H') : tLc (iAt J) g tt (tVar m) vs σ H Q := by
  subst hw
  have tk : ∀ i x, xs[i]? = some x → xs.take (i + 1) = xs.take i ++ [x] := fun i x e => by
    rw [List.take_add_one, e]
    rfl
  refine lc_own rfl W O (PvF L xs p) ⟨rfl, rfl⟩ ?_ ?_ ?_
  · rintro i G' H' D L' acc s' O' ⟨rfl, _⟩
    exact hG G' H' D acc s' O'
  · rintro i x G' H' H2 D L' acc hi s' O' ⟨rfl, rfl⟩ yy
    obtain ⟨rfl, ex⟩ := hY _ _ _ _ hi yy
    refine st i x G' _ D _ hi ex s' O' ?_ ?_
    · intro G4 H4 σ4 s4 O4 px e4
      refine x_var e4 (lcn (s'.trans s4) O4 ?_ ⟨rfl, ?_⟩)
      · refine lt_line (Nat.lt_of_le_of_lt (List.length_filter_le _ _) ?_)
        rw [List.length_take]
        omega
      · rw [tk i x ex, List.filter_append]
        simp [px]
    · intro G4 H4 s4 O4 px
      refine ⟨G4, _, _, s'.trans s4, O4, rfl, ?_⟩
      rw [tk i x ex, List.filter_append]
      simp [px]
  · rintro G' H' D L' acc s' O' ⟨rfl, rfl⟩
    rw [List.take_length] at O'
    exact fin (upd G' D _) H' D (s'.trans (Same.new O'.no0)) O'.frz0 upd_same
end
end G
namespace G
open PySem PySem.Spec PyProof.Rows L2
/-! displays whose items all are of one kind -/
section
variable {G0 : Hp} {σ : L2.St} {m n : Nat} {te tf : TE} {t : TA} {K : PySem.W.Frag} {Pd : Hp → V → Prop}
end
end G
set_option maxHeartbeats 4000000
/-! Part M: types of data; sorted texts; lists with one item changed. -/
namespace G
open PySem PySem.Spec PyProof.Rows L2
def tyN : PyData → String
  | .none => "NoneType"
  | .bool _ => "bool"
  | .int _ => "int"
  | .str _ => "str"
  | .list _ => "list"
  | .tuple _ => "tuple"
  | .dict _ => "dict"
section
variable {K : PySem.W.Frag} {G H : Hp} {v : V} {d e : PyData} {ds : List PyData} {vs : List V} {Q : VK}
theorem ty_lst {a : Addr} {xs : List V} (h : SqL K H a xs) : TyX K H (.ref a) (.type "list") := by
  rcases h with (h | ⟨o, h⟩) | ⟨o, _, _, h, c, _⟩
  · exact .base (.lst h)
  · exact .base (.frz h)
  · exact .kList h c
theorem ty_tup {a : Addr} {xs : List V} (h : SqT K H a xs) : TyX K H (.ref a) (.type "tuple") := by
  rcases h with (h | ⟨o, h⟩) | ⟨o, _, _, h, c, _⟩
  · exact .base (.tup h)
  · exact .fTuple h
  · exact .kTuple h c
theorem Dt.ty (h : Dt K H v d) : TyX K H v (.type (tyN d)) := by
  cases h with
  | non => exact .base .non
  | bl b => exact .base (.bl b)
  | int i => exact .base (.int i)
  | str x => exact .base (.str x)
  | lst h _ => exact ty_lst h
  | tup h _ => exact ty_tup h
  | dic h _ _ => exact .base (.dK h)
theorem k1_tuple (d : PyData) : PySem.W.kitOne K (.type (tyN d)) (.type "tuple") = some (tyN d == "tuple") := by cases d <;> rfl
theorem k1_str (d : PyData) : PySem.W.kitOne K (.type (tyN d)) (.type "str") = some (tyN d == "str") := by cases d <;> rfl
theorem k1_list (d : PyData) : PySem.W.kitOne K (.type (tyN d)) (.type "list") = some (tyN d == "list") := by cases d <;> rfl
theorem x_isiS (h : Dt K H v d) (q : Q (.bl (tyN d == "str")) H) : aIsi K [v, .ty "str"] H Q := .inl ⟨v, _, _, _, _, rfl, .ty _, h.ty, k1_str d, q⟩
theorem x_isiLT {p : Addr} (h : Dt K H v d) (hp : H p = some (.tup [.ty "list", .ty "tuple"])) (q : Q (.bl (tyN d == "list" || tyN d == "tuple")) H) : aIsi K [v, .ref p] H Q :=
  .inr ⟨v, p, _, _, [.type "list", .type "tuple"], _, rfl, hp, .cons (.ty _) (.cons (.ty _) .nil), h.ty, by
    unfold PySem.W.kitAny PySem.W.kitAny
    rw [k1_list, k1_tuple]
    cases tyN d == "list" <;> cases tyN d == "tuple" <;> rfl, q⟩
theorem x_sortedS {a : Addr} {xs : List Str} (h : SqL K H a (xs.map V.str)) (hl : xs.length < 64) (k : ∀ ys, ys.Perm xs → sortedS ys = true → nw (.lst (ys.map V.str)) H Q) : aSorted K [.ref a] H Q := .inr ⟨a, xs, rfl, h, hl, fun ys p hp hs hn => k ys hp hs p hn⟩
theorem DtL.set : ∀ {vs : List V} {ds : List PyData} (i : Nat), DtL K H vs ds → Dt K H v e → DtL K H (vs.set i v) (ds.set i e)
  | _, _, _, .nil, _ => .nil
  | _, _, 0, .cons _ t, g => .cons g t
  | _, _, i + 1, .cons h t, g => .cons h (t.set i g)
theorem DtL.get : ∀ {vs : List V} {ds : List PyData} (i : Nat) {d : PyData}, DtL K H vs ds → ds[i]? = some d → ∃ v, vs[i]? = some v ∧ Dt K H v d
  | _, _, _, _, .nil, e => by simp at e
  | _, _, 0, _, .cons h _, e => by
    rw [List.getElem?_cons_zero] at e
    cases e
    exact ⟨_, rfl, h⟩
  | _, _, i + 1, _, .cons _ t, e => by
    rw [List.getElem?_cons_succ] at e
    obtain ⟨v, ev, hv⟩ := t.get i e
    exact ⟨v, by rw [List.getElem?_cons_succ]; exact ev, hv⟩
theorem cut1 {a : V} {xs : List V} : cutV (a :: xs) (some 1) none = xs := by
  have h : HT.sIx (a :: xs).length 0 (some 1) = 1 := by
    have := HT.sIx_nat (a :: xs).length 0 1
    rw [List.length_cons] at this ⊢
    exact this.trans (by omega)
  unfold cutV
  rw [h]
  show (List.drop 1 (a :: xs)).take ((a :: xs).length - 1) = xs
  simp
end
end G
set_option maxHeartbeats 4000000
/-! Part T: a tuple read backwards, t[::-1]. -/
namespace G
open PySem PySem.Spec PyProof.Rows L2 HT
section
variable {P : Program} {w : World} {A : Around} {E : Value → Shared → Prop} {z : Shared}
end
section
variable {X : Cx} {K : PySem.W.Frag}
theorem pe_bm0Q {name : Str} {id : String} {r : V → List V → Hp → VK → Prop} {o : Expr} {to : TE} {apos cpos : Pos} {Ty : String} (h : X.K = K) (pa : PlainAttrs Ty) (slot : Slot Ty name id) (hty : typeOf (.builtin id) = pure (.type "method_descriptor")) (hm : MtR X id r) (ho : PE X o to)
    (hbase : attributeBase o name X.env (eval o X.env) = eval o X.env := by rfl) (hline : (apos.endLine == cpos.line) = true := by rfl) : PE X (.Call (.Attribute o name apos) [] [] cpos) (tBM0 K Ty r to) := h ▸ pe_bm0 pa slot hty hm ho hbase hline
end
end G
set_option maxHeartbeats 4000000
/-! Part Z: the law's promise, at the heap behind the top; where nothing is being shown. -/
namespace G
open PySem PySem.Spec PyProof.Rows L2
theorem law_go {P : Program} {w : World} {K : PySem.W.Frag} {mg nb : Str → Option Value} {n : Nat} {fa p : Addr} {fd : FuncData} {arg : Str} {sp : Sp} {z : Shared} {us : List Value} {is : List Int}
    (kin : K.In z.heap) (glob : z.heap.Ns mainGlobals mg) (blt : z.heap.Ns builtinsNs nb) (boot : ∀ y : Str, y ≠ "__name__" → nb y = bootBuiltins y) (free : z.heap.NoLimit) (calm : z.gens = #[])
    (at_ : z.heap.get? p = some { cls := .type "list", data := .seq us.toArray }) (whole : IntsAre us is) (few : is.length ≤ sizeLine) (room : Room n callerA)
    (law : ∀ low : Heap, K.In low → low.Ns mainGlobals mg → FnG P w K mg low n fa fd [arg] sp) (binds : ∀ (t : Shared) (u : Value), BindsTo t fd ⟨[u], []⟩ [(arg, u)])
    (keep : ∀ H : Hp, Only H → SqL K H p (is.map V.int) → sp [.ref p] H (fun v _ => v = .bl true) fun _ _ _ => False) :
    codeAny (model P w) callerA (.call (.ref fa) ⟨[.ref p], []⟩) (fun r t => r = .ok (.ret (.bool true)) ∧ OldK z.heap t.heap ∧ t.os = z.os ∧ AllBare t.gens) z := by
  have rel := vals_ints whole
  have len := whole.length
  have core : ∀ H : Hp, Only H → SqL K H p (is.map V.int) → HOk P w H z.heap → (∀ c, H c ≠ none → c = p ∧ K.lookup c = none) →
      codeAny (model P w) callerA (.call (.ref fa) ⟨[.ref p], []⟩) (fun r t => r = .ok (.ret (.bool true)) ∧ OldK z.heap t.heap ∧ t.os = z.os ∧ AllBare t.gens) z := by
    intro H only seq ok one
    have hid : ∀ {c : Addr} {o : Obj}, z.heap.get? c = some o → H c = none → (hidT z.heap H).get? c = some o := fun e q => hidT_get e q
    have dicts : ∀ {c : Addr} {o : Obj} {es : Array DictEntry} {j : Nat}, z.heap.get? c = some o → o.data = .dict es j → H c = none := by
      intro c o es j e dd
      refine Classical.byContradiction fun q => ?_
      obtain ⟨rfl, _⟩ := one c q
      rw [at_] at e
      cases e
      exact nomatch (dd : Data.seq us.toArray _ = Data.dict es j)
    have spaces : ∀ {c : Addr} {m : Str → Option Value}, z.heap.Ns c m → (hidT z.heap H).Ns c m := by
      rintro c m ⟨o, es, j, e, dd, rest⟩
      exact ⟨o, es, j, hid e (dicts e dd), dd, rest⟩
    have kin' : K.In (hidT z.heap H) := by
      intro c o e
      refine hid (kin c o e) (Classical.byContradiction fun q => ?_)
      have := (one c q).2
      rw [e] at this
      cases this
    obtain ⟨lim, f1, f2⟩ := free
    have env : Env0 P w K mg (hidT z.heap H) callerA [] z H := ⟨rfl, ⟨kin', spaces glob, ⟨nb, spaces blt, boot⟩, lim, spaces f1, f2⟩, fun c o e => of_hidT e, Nat.le_of_eq (hidT_size _ _), trivial, fun c m => (List.not_mem_nil m).elim, ok, .of_eq calm⟩
    have run := (law _ kin' (spaces glob)).go callerA [] z H ⟨[.ref p], []⟩ [.ref p] [.ref p] _ _ ⟨room, rfl⟩ env (binds z (.ref p)) (.cons rfl .nil) (keep H only seq)
    refine codeAny_mono run fun r t h => ?_
    match r, h with
    | .error e, h =>
      obtain ⟨_, _, _, _, _, _, _, _, _, _, _, _, bad⟩ := (show L2.CX P w [] H z (fun _ _ _ => False) e t from h)
      exact bad.elim
    | .ok .next, h => exact h.elim
    | .ok .brk, h => exact h.elim
    | .ok .cont, h => exact h.elim
    | .ok (.ret u), ⟨v, H', os, bare, un, ok', rv, q⟩ =>
      obtain rfl : v = .bl true := q
      obtain rfl : u = Value.bool true := rv
      refine ⟨rfl, OldK.of_keep fun c o e => ?_, os, bare⟩
      rcases only c with q | ⟨ob, xs, q⟩
      · exact un.keep c o e q (fun m => (List.not_mem_nil m).elim) (fun m => (List.not_mem_nil m).elim)
      · obtain ⟨g1, _⟩ := ok c _ q
        obtain ⟨g2, _⟩ := ok' c _ (un.frzs c ob _ q)
        rw [e] at g1
        cases g1
        exact g2
  cases known : K.lookup p with
  | some o =>
    have e := kin p o known
    rw [at_] at e
    cases e
    exact core (fun _ => none) (fun _ => .inl rfl) (.inr ⟨_, us.toArray, _, known, rfl, rfl, rfl, by rw [List.size_toArray, len]; exact few, by simpa using rel⟩) (fun c u q => nomatch (q : (none : Option HO) = some u)) (fun c q => absurd rfl q)
  | none =>
    have self : (fun c => if c = p then some (HO.frz { cls := .type "list", data := .seq us.toArray } (.lst (is.map V.int))) else none : Hp) p = some (HO.frz { cls := .type "list", data := .seq us.toArray } (.lst (is.map V.int))) := if_pos rfl
    refine core (fun c => if c = p then some (HO.frz { cls := .type "list", data := .seq us.toArray } (.lst (is.map V.int))) else none) (fun c => ?_) (.inl (.inr ⟨_, self⟩)) (fun c u q => ?_) (fun c q => ?_)
    · by_cases h : c = p
      · subst h
        exact .inr ⟨_, _, self⟩
      · exact .inl (if_neg h)
    · by_cases h : c = p
      · subst h
        rw [self] at q
        cases q
        exact ⟨at_, by rw [List.length_map]; exact few, us, _, rel, at_⟩
      · exact nomatch (if_neg h).symm.trans q
    · by_cases h : c = p
      · subst h
        exact ⟨rfl, known⟩
      · exact absurd (if_neg h) q
/-- what k_head leaves -/
theorem walk {l : PySem.W.OpenLaw} {n k : Nat} {q : Program} {loose : List Str} {XP : (Str → Option Value) → Heap → Prop} {YP : World → Heap → Prop} {d : DefRec} {K : Params → PySem.W.Frag} {sp : PySem.W.Frag → Sp} {arg : Str}
    (most : l.most = some n) (few : n ≤ sizeLine) (plain : d.params.defaults = []) (room : Room k callerA)
    (kin : ∀ (w : World) (h : Heap), YP w h → (K w.params).In h)
    (F : ∀ (w : World) (mg : Str → Option Value) (fa : Addr) (h : Heap), YP w h → (K w.params).In h → h.Ns mainGlobals mg → mg d.name = some (.ref fa) →
      ∃ fd : FuncData, (∀ (t : Shared) (u : Value), BindsTo t fd ⟨[u], []⟩ [(arg, u)]) ∧ ∀ low : Heap, (K w.params).In low → low.Ns mainGlobals mg → FnG l.prog w (K w.params) mg low k fa fd [arg] (sp (K w.params)))
    (keep : ∀ (M : PySem.W.Frag) (H : Hp) (p : Addr) (is : List Int), is.length ≤ n → Only H → SqL M H p (is.map V.int) → sp M [.ref p] H (fun v _ => v = .bl true) fun _ _ _ => False) :
    PySem.W.WalkO q loose XP YP l.row.toRowW d [] (fun f vs => PySem.call f vs) := by
  refine Att.attach_call most plain fun w _ z mg nb fa o pm cd doc p us is TG Y ho hd hcd hmg hobj whole len calm => ?_
  obtain ⟨fd, hb, hF⟩ := F w mg fa _ Y (kin w _ Y) TG.T.g hmg
  exact law_go (kin w _ Y) TG.T.g TG.T.b TG.T.builtins TG.T.nolimit calm hobj whole (Nat.le_trans len few) room hF hb (fun H a b => keep _ H p is len a b)
end G
set_option maxHeartbeats 4000000
/-! Part X: methods, objects made, errors raised and caught; defs that may raise. -/
namespace G
open PySem PySem.Spec PyProof.Rows L2
theorem Rm.make {k : Nat} {A : Around} (r : Rm (k + 1) A) (C : Addr) (us : List Value) (kw : List (Str × Value)) : Rm k (A.under (.builtin "type.__call__" ⟨.ref C :: us, kw⟩)) := ⟨r.room.make C us kw, r.gd⟩
section
variable (P : Program) (w : World) (K : PySem.W.Frag) (mg : Str → Option Value) (base : Heap) (k : Nat)
/-- a method of the class at C -/
def Mt (C : Addr) (m : Str) (ps : List Str) (sp : Sp) : Prop := ∃ f fd, FnG P w K mg base k f fd ps sp ∧ Cls K C ∧ Meth K C m f ∧ Binds K fd ps []
/-- .. called by names alone, these in the parameters' order turned round -/
def MtR (C : Addr) (m : Str) (ps ks : List Str) (sp : Sp) : Prop := ∃ f fd, FnG P w K mg base k f fd ps sp ∧ Cls K C ∧ Meth K C m f ∧
  ∀ (s : Shared) (u : Value) (us : List Value), K.In s.heap → us.length = ks.length → BindsTo s fd ⟨[u], ks.zip us⟩ (ps.zip (u :: us.reverse))
/-- the class at C is made by its __init__ -/
def In (C : Addr) (x : Str) (ps : List Str) (sp : Sp) : Prop := ∃ f fd, FnG P w K mg base k f fd ps sp ∧ Mk K C f ∧ Binds K fd ps [] ∧ mg x = some (.ref C)
def InR (C : Addr) (x : Str) (ps ks : List Str) (sp : Sp) : Prop := ∃ f fd, FnG P w K mg base k f fd ps sp ∧ Mk K C f ∧ mg x = some (.ref C) ∧
  ∀ (s : Shared) (u : Value) (us : List Value), K.In s.heap → us.length = ks.length → BindsTo s fd ⟨[u], ks.zip us⟩ (ps.zip (u :: us.reverse))
/-- the __init__ of an error's class -/
def Er (C : Addr) (x : Str) (ps : List Str) (sp : Sp) : Prop := ∃ f fd, FnG P w K mg base k f fd ps sp ∧ OexC K C ∧ PySem.W.findIn K (.ref C) "__init__" = some (some (.ref f)) ∧
  PySem.W.typeIn K (.ref f) = some (.type "function") ∧ Binds K fd ps [] ∧ mg x = some (.ref C)
end
section
variable {P : Program} {w : World} {K : PySem.W.Frag} {mg : Str → Option Value} {base : Heap} {j k : Nat} {C : Addr} {m x : Str} {ps ks : List Str} {sp : Sp}
theorem Mt.up (c : Mt P w K mg base j C m ps sp) (h : j ≤ k) : Mt P w K mg base k C m ps sp := let ⟨f, fd, F, r⟩ := c; ⟨f, fd, F.up h, r⟩
theorem MtR.up (c : MtR P w K mg base j C m ps ks sp) (h : j ≤ k) : MtR P w K mg base k C m ps ks sp := let ⟨f, fd, F, r⟩ := c; ⟨f, fd, F.up h, r⟩
theorem In.up (c : In P w K mg base j C x ps sp) (h : j ≤ k) : In P w K mg base k C x ps sp := let ⟨f, fd, F, r⟩ := c; ⟨f, fd, F.up h, r⟩
theorem InR.up (c : InR P w K mg base j C x ps ks sp) (h : j ≤ k) : InR P w K mg base k C x ps ks sp := let ⟨f, fd, F, r⟩ := c; ⟨f, fd, F.up h, r⟩
theorem Er.up (c : Er P w K mg base j C x ps sp) (h : j ≤ k) : Er P w K mg base k C x ps sp := let ⟨f, fd, F, r⟩ := c; ⟨f, fd, F.up h, r⟩
end
section
variable {X : Cx} {k : Nat} {f C D : Addr} {fd : FuncData} {ps ks : List Str} {sp : Sp} {W : WX} {x m : Str} {p p1 p2 pos apos : Pos} {e o : Expr} {es : List Expr} {kws : List Keyword} {ta te : TE} {t tk : TA}
theorem fn_goS {pins : List (Addr × Obj)} {σ : L2.St} {H : Hp} {s : Shared} {Q : VK} {us all : List Value} {kv : List (Str × Value)} {vs : List V} (F : FnG X.prog X.w X.K X.mg X.base k f fd ps sp) (r : Rm k X.A) (tk : Takes X W)
    (hb : BindsTo s fd ⟨us, kv⟩ (ps.zip all)) (I : Inv X pins σ H s) (rv : Vals vs all) (h : sp vs H Q (WE W σ)) : wpAny (model X.prog X.w) X.A (call (.ref f) us kv) (EP X pins σ Q) X.xe s := by
  have run := F.go X.A X.stack s H ⟨us, kv⟩ all vs Q (WE W σ) r I.env0 hb rv h
  refine wpAny_call (codeAny_mono run ?_)
  intro res s' hq
  match res, hq with
  | .error er, hq => exact passAt tk σ pins H s er s' I hq
  | .ok (.ret u), hq => exact I.after hq
  | .ok .next, hq => exact hq.elim
  | .ok .brk, hq => exact hq.elim
  | .ok .cont, hq => exact hq.elim
/-! ### methods -/
def tM (C : Addr) (m : Str) (sp : Sp) (W : WX) (ta : TE) (t : TA) : TE := fun σ H Q => ta σ H fun x H1 => ∃ a dx fs, x = .ref a ∧ H1 a = some (.ins C dx fs) ∧ fs.lookup m = none ∧ t σ H1 fun vs H2 => sp (.ref a :: vs) H2 Q (WE W σ)
def tMR (C : Addr) (m : Str) (sp : Sp) (W : WX) (ta : TE) (t : TA) : TE := fun σ H Q => ta σ H fun x H1 => ∃ a dx fs, x = .ref a ∧ H1 a = some (.ins C dx fs) ∧ fs.lookup m = none ∧ t σ H1 fun vs H2 => sp (.ref a :: vs.reverse) H2 Q (WE W σ)
/-! ### objects made -/
def nI (C : Addr) (sp : Sp) (W : WX) (σ : L2.St) (vs : List V) (H1 : Hp) (Q : VK) : Prop :=
  ∀ y dx, H1 y = none → H1 dx = none → dx ≠ y → sp (.ref y :: vs) (upd (upd H1 dx (.own y)) y (.ins C dx [])) (fun v H2 => v = .non ∧ Q (.ref y) H2) (WE W σ)
def tI (C : Addr) (sp : Sp) (W : WX) (t : TA) : TE := fun σ H Q => t σ H fun vs H1 => nI C sp W σ vs H1 Q
def tIR (C : Addr) (sp : Sp) (W : WX) (t : TA) : TE := fun σ H Q => t σ H fun vs H1 => nI C sp W σ vs.reverse H1 Q
theorem mk_go {pins : List (Addr × Obj)} {σ : L2.St} {H : Hp} {s : Shared} {Q : VK} {us all : List Value} {kv : List (Str × Value)} {vs : List V} (F : FnG X.prog X.w X.K X.mg X.base k f fd ps sp) (M : Mk X.K C f) (r : Rm (k + 1) X.A) (tk : Takes X W)
    (hb : ∀ (z : Shared) (u : Value), X.K.In z.heap → BindsTo z fd ⟨u :: us, kv⟩ (ps.zip (u :: all))) (I : Inv X pins σ H s) (rv : Vals vs all) (h : nI C sp W σ vs H Q) : wpAny (model X.prog X.w) X.A (call (.ref C) us kv) (EP X pins σ Q) X.xe s := by
  have hq := h (s.heap.objs.size + 1) s.heap.objs.size (I.hok.fresh (Nat.le_succ _)) (I.hok.fresh (Nat.le_refl _)) (Nat.ne_of_lt (Nat.lt_succ_self _))
  have I2 := Inv.made (C := C) I
  refine wpAny_call (make_map (f := f) I.kIn M.makes M.init (beq_iff_eq.mp M.fn) (codeAny_mono (F.go _ X.stack _ _ ⟨Value.ref (s.heap.objs.size + 1) :: us, kv⟩ (Value.ref (s.heap.objs.size + 1) :: all) _ _ (WE W σ) (r.make C us kv)
    (I2.env0.make C us kv) (hb _ _ I2.kIn) (show Vals (V.ref (s.heap.objs.size + 1) :: vs) (Value.ref (s.heap.objs.size + 1) :: all) from .cons rfl rv) hq) ?_))
  intro res s' hq'
  match res, hq' with
  | .error er, hq' => exact passAt tk σ pins _ _ er s' I2 hq'
  | .ok .next, hq' => exact hq'.elim
  | .ok .brk, hq' => exact hq'.elim
  | .ok .cont, hq' => exact hq'.elim
  | .ok (.ret u), hq' =>
    obtain ⟨v, H', I3, rv', ev, q3⟩ := I2.after hq'
    subst ev
    exact ⟨rv', ⟨V.ref (s.heap.objs.size + 1), H', I3, rfl, q3⟩⟩
theorem g_make (c : In X.prog X.w X.K X.mg X.base k C x ps sp) (r : Rm (k + 1) X.A) (hg : Gl X x) (tk : Takes X W) (ha : PA X (e :: es) t) (hdb : (x == ("__debug__" : Str)) = false := by decide)
    (he : starEach (e :: es) X.env = (false, eval e X.env) :: starEach es X.env := by rfl) (hpl : (backTo pos (starEach es X.env)).any (·.1) = false := by rfl) : PE X (.Call (.Name x p) (e :: es) [] pos) (tI C sp W t) := by
  obtain ⟨f, fd, F, M, hb, hm⟩ := c
  constructor
  intro pins s σ H Q I h
  apply wpAny_Call_Name_kw
  refine ld_glob I hg hm ?_ hdb
  refine PySem.W.callWith_K (h₀ := X.base) I.ok.mod.kin M.kp ?_ he hpl
  refine thn (ha.run pos pins s σ H _ I h) ?_
  rintro us s1 ⟨vs, H1, I1, rv, q⟩
  refine ⟨I1.kIn, mk_go F M r tk (fun z u hz => ?_) I1 rv q⟩
  have hq := q (s1.heap.objs.size + 1) s1.heap.objs.size (I1.hok.fresh (Nat.le_succ _)) (I1.hok.fresh (Nat.le_refl _)) (Nat.ne_of_lt (Nat.lt_succ_self _))
  have hl : (u :: us).length = ps.length := by
    have a := F.arity _ _ _ _ hq
    rw [List.length_cons, rv.length] at a
    exact a
  have hb' := hb z (u :: us) hz (by rw [List.append_nil]; exact hl)
  rw [List.append_nil] at hb'
  exact hb'
/-! ### errors -/
/-- x.__init__(self, ..), x the parent of the errors -/
structure Par (K : PySem.W.Frag) (mg : Str → Option Value) (x : Str) (D : Addr) : Prop where
  at_ : mg x = some (.ref D)
  rd : ClX.CRead K D (.type "type")
  init : PySem.W.findCls K (.ref D) (.type "type") "__init__" = some (.val (.builtin "ValueError.__init__"))
theorem g_pinit {pl : Sem Bool} (c : Par X.K X.mg x D) (hg : Gl X x) (ha : PA X (e :: es) t) (hdb : (x == ("__debug__" : Str)) = false := by decide)
    (hc : eval (.Call (.Attribute (.Name x p1) "__init__" p2) (e :: es) [] pos) X.env = (eval (.Name x p1) X.env >>= fun ov => standAt p2.atName >>= fun _ => holding [ov] (getMethod ov "__init__" pl) >>= fun z =>
      callWith pos z.1 z.2 (backTo pos (starEach (e :: es) X.env)) (backToKw pos (keywordEach [] X.env))) := by rfl)
    (he : starEach (e :: es) X.env = (false, eval e X.env) :: starEach es X.env := by rfl) (hpl : (backTo pos (starEach es X.env)).any (·.1) = false := by rfl) : PE X (.Call (.Attribute (.Name x p1) "__init__" p2) (e :: es) [] pos) (tVeI X.K t) := by
  constructor
  intro pins s σ H Q I h
  refine PySem.W.methodCall_KW (pl := pl) (ld_glob I hg c.at_ ?_ hdb) hc
  refine PySem.W.method_cls I.kIn c.rd.ga (PySem.W.cls_value I.kIn c.rd.rd c.init (by decide +kernel) ?_)
  refine PyProof.Rows.callWith_method1 (thn (ha.run pos pins _ σ H _ (I.tok _) h) ?_) he hpl
  rintro us s1 ⟨vs, H1, I1, r1, a, C, ws, rfl, hl, T, ea, q⟩
  cases r1 with
  | @cons _ u0 _ ur ra rw' =>
    obtain rfl : u0 = Value.ref a := ra
    have hlen : ur.length ≤ sizeLine := by
      rw [← Paired.length rw', sizeLine_eq]
      omega
    exact oinit_ok T I1 ea hlen fun s' J => ⟨.non, H1, J, rfl, q⟩
/-- C(e), C an error of the program -/
theorem g_err (c : Er X.prog X.w X.K X.mg X.base k C x ps sp) (r : Rm (k + 1) X.A) (hg : Gl X x) (hx : Passes (L2.CX X.prog X.w) X (fun _ _ _ => False)) (ha : PA X (e :: es) t)
    (hdb : (x == ("__debug__" : Str)) = false := by decide) (he : starEach (e :: es) X.env = (false, eval e X.env) :: starEach es X.env := by rfl) (hpl : (backTo pos (starEach es X.env)).any (·.1) = false := by rfl) :
    PMk X (.Call (.Name x p) (e :: es) [] pos) (tMkO C sp [] t) := by
  obtain ⟨fI, fd, F1, T, iC, tI, hb, hm⟩ := c
  intro pins s σ H Q I h
  obtain ⟨nm, q, N, bs, bm, sn, sub, ab, col, dd, k0, k1, k2, k3, k5, hC, hbm⟩ := T.cls
  refine wpAny_Call_Name_kw (ld_glob I hg hm ?_ hdb)
  refine PySem.W.callWith_K (h₀ := X.base) I.ok.mod.kin T.kC ?_ he hpl
  refine thn (ha.run pos pins s σ H _ I h) ?_
  rintro us s1 ⟨vs, H1, I1, r1, hz, q1⟩
  refine ⟨I1.kIn, ?_⟩
  show wpAny _ _ (call (.ref C) us) _ _ _
  obtain ⟨hp, g, dr, tk, os⟩ := s1
  have hsz : hp.objs.size ≤ hp.objs.size + 1 := Nat.le_succ _
  have hn : H1 (hp.objs.size + 1) = none := I1.hok.fresh hsz
  have hq := q1 (hp.objs.size + 1) hn
  have kk : ∀ b o, hp.get? b = some o → ((hp.push (PySem.W.kdv_tup us)).push (PySem.HandSPX.excO C hp.objs.size)).get? b = some o := fun b o e => Heap.get?_push_of_some _ (Heap.get?_push_of_some _ e)
  have hget : ((hp.push (PySem.W.kdv_tup us)).push (PySem.HandSPX.excO C hp.objs.size)).get? (hp.objs.size + 1) = some (PySem.HandSPX.excO C hp.objs.size) := by heap_get
  have I2 : Inv X pins σ (upd H1 (hp.objs.size + 1) (exo (hp.objs.size + 1) C none)) ⟨(hp.push (PySem.W.kdv_tup us)).push (PySem.HandSPX.excO C hp.objs.size), g, dr, tk, os⟩ :=
    I1.laid (t' := tk) (a := hp.objs.size + 1) (o := exo (hp.objs.size + 1) C none) (h' := (hp.push (PySem.W.kdv_tup us)).push (PySem.HandSPX.excO C hp.objs.size)) kk hsz (exo_ok hget)
  rw [List.append_nil] at hq
  have r2 : Vals (V.ref (hp.objs.size + 1) :: vs) (Value.ref (hp.objs.size + 1) :: us) := .cons rfl r1
  have hl : (Value.ref (hp.objs.size + 1) :: us).length = ps.length := r2.length.symm.trans (F1.arity _ _ _ _ hq)
  have hb' := hb ⟨(hp.push (PySem.W.kdv_tup us)).push (PySem.HandSPX.excO C hp.objs.size), g, dr, tk, os⟩ (Value.ref (hp.objs.size + 1) :: us) I2.kIn (by rw [List.append_nil]; exact hl)
  rw [List.append_nil] at hb'
  have hus : us.length ≤ sizeLine := by
    rw [← Paired.length r1, sizeLine_eq]
    omega
  refine wpAny_call (PySem.HandSPX.call_own F.excBase_ValueError (fun Y => PySem.HandSPX.refsVE_contains Y bm hbm) (I1.kIn _ _ hC) (PySem.W.looks_findIn I1.kIn iC) (fun self => PySem.W.bind_fn I1.kIn self tI) hus
    (codeAny_mono (F1.go _ X.stack _ _ ⟨Value.ref (hp.objs.size + 1) :: us, []⟩ (Value.ref (hp.objs.size + 1) :: us) _ _ (fun _ _ _ => False) (r.make C us []) (I2.env0.make C us []) hb' r2 hq) fun r s' hq' => ?_))
  match r, hq' with
  | .error er, hq' => exact hx pins σ _ _ er s' I2 hq'
  | .ok .next, hq' => exact hq'.elim
  | .ok .brk, hq' => exact hq'.elim
  | .ok .cont, hq' => exact hq'.elim
  | .ok (.ret u), hq' =>
    obtain ⟨v, H2, os2, bare2, un2, hok2, rv, ev, d, fs, ea, ed, hd1, q2⟩ := hq'
    subst ev
    obtain ⟨h2, g2, d2, t2, os'⟩ := s'
    exact ⟨rv, mk_end (raises_own T.exC T.tyC) I1 hsz kk un2 hok2 os2 bare2 ea ed hd1 q2⟩
end
end G
namespace G
open PySem PySem.Spec PyProof.Rows L2
/-! ### fields -/
def gFld (K : PySem.W.Frag) (to : TE) (f : Str) : TG := fun v σ H Q => to σ H fun x H1 => ∃ a C dx fs, x = .ref a ∧ H1 a = some (.ins C dx fs) ∧ Cls K C ∧ NoAttr K C f ∧ fs.length < 1000 ∧ Q σ (upd H1 a (.ins C dx (putF f v fs)))
section
variable {X : Cx} {K : PySem.W.Frag} {o e : Expr} {f : Str} {to te : TE} {pos pos' : Pos}
theorem pe_fldK (hk : X.K = K) (he : PE X e te) (hb : attributeBase e f X.env (eval e X.env) = eval e X.env) : PE X (.Attribute e f pos) (tFld K te f) := hk ▸ pe_fld he hb
theorem ps_fldK (hk : X.K = K) (ho : PE X o to) (he : PE X e te) (hs : swapsWith e (some (.Attribute o f pos')) pos.line X.env = pure false) : PS X (.Assign [.Attribute o f pos'] e pos) (sFld K to te f) := hk ▸ ps_fld ho he hs
theorem pg_unlK {es : List Expr} {k n : Nat} {t : TGs} (h : X.K = K) (hc : X.calm = true) (z : PGs X es t)
    (hn : (assignEach es X.env).length = n := by rfl) (hst : (assignEach es X.env).findIdx? (·.1) = none := by rfl) : PG X (.Tuple es k pos) (gUnl K n t) := h ▸ pg_unl hc z hn hst
end
section
variable {K : PySem.W.Frag} {σ : L2.St} {H : Hp} {Q : VK} {te ta : TE} {t : TA} {v : V} {a C dx : Addr} {fs : List (Str × V)} {f m : Str} {sp : Sp} {W : WX}
theorem x_fld (h : te σ H fun x H1 => ∃ a C dx fs v, x = .ref a ∧ H1 a = some (.ins C dx fs) ∧ Cls K C ∧ NoAttr K C f ∧ fs.lookup f = some v ∧ Q v H1) : tFld K te f σ H Q := h
theorem x_fldI {S : V → Prop} (e : H a = some (.ins C dx fs)) (c : Cls K C) (n : NoAttr K C f) (l : fs.lookup f = some v) (q : S v) : ∃ a' C dx fs v, V.ref a = .ref a' ∧ H a' = some (.ins C dx fs) ∧ Cls K C ∧ NoAttr K C f ∧ fs.lookup f = some v ∧ S v := ⟨a, C, dx, fs, v, rfl, e, c, n, l, q⟩
theorem x_sfld {D : Ends} {tv : TE} (h : tv σ H fun y H1 => te σ H1 fun x H2 => ∃ a C dx fs, x = .ref a ∧ H2 a = some (.ins C dx fs) ∧ Cls K C ∧ NoAttr K C f ∧ fs.length < 1000 ∧ D.nx σ (upd H2 a (.ins C dx (putF f y fs)))) : sFld K te tv f D σ H := h
theorem x_sfldI {S : Addr → Addr → Addr → List (Str × V) → Prop} (e : H a = some (.ins C dx fs)) (c : Cls K C) (n : NoAttr K C f) (l : fs.length < 1000) (z : S a C dx fs) : ∃ a' C dx fs, V.ref a = .ref a' ∧ H a' = some (.ins C dx fs) ∧ Cls K C ∧ NoAttr K C f ∧ fs.length < 1000 ∧ S a' C dx fs := ⟨a, C, dx, fs, rfl, e, c, n, l, z⟩
theorem x_gfld {q : L2.St → Hp → Prop} (h : te σ H fun x H1 => ∃ a C dx fs, x = .ref a ∧ H1 a = some (.ins C dx fs) ∧ Cls K C ∧ NoAttr K C f ∧ fs.length < 1000 ∧ q σ (upd H1 a (.ins C dx (putF f v fs)))) : gFld K te f v σ H q := h
theorem x_m (h : ta σ H fun x H1 => ∃ a dx fs, x = .ref a ∧ H1 a = some (.ins C dx fs) ∧ fs.lookup m = none ∧ t σ H1 fun vs H2 => sp (.ref a :: vs) H2 Q (WE W σ)) : tM C m sp W ta t σ H Q := h
theorem x_mr (h : ta σ H fun x H1 => ∃ a dx fs, x = .ref a ∧ H1 a = some (.ins C dx fs) ∧ fs.lookup m = none ∧ t σ H1 fun vs H2 => sp (.ref a :: vs.reverse) H2 Q (WE W σ)) : tMR C m sp W ta t σ H Q := h
theorem x_i (h : t σ H fun vs H1 => nI C sp W σ vs H1 Q) : tI C sp W t σ H Q := h
theorem x_ir (h : t σ H fun vs H1 => nI C sp W σ vs.reverse H1 Q) : tIR C sp W t σ H Q := h
theorem x_ul {n : Nat} {u : TGs} {xs : List V} {q : L2.St → Hp → Prop} (h : SqL K H a xs) (hl : xs.length = n) (z : u xs σ H q) : gUnl K n u (.ref a) σ H q := ⟨a, xs, rfl, h, hl, z⟩
end
end G
set_option maxHeartbeats 4000000
/-! Part Y: several except clauses, each with a name; what a suite asks of the error. -/
namespace G
open PySem PySem.Spec PyProof.Rows L2
inductive Cls2 (X : Cx) (n : Str) : List ExceptHandler → List (Value × (Addr → Value → Option Addr → TS)) → Prop
  | nil : Cls2 X n [] []
  | cons {x : Str} {c : Value} {ts : Addr → Value → Option Addr → TS} {b₀ : Stmt} {suite : List Stmt} {np q : Pos} {hds : List ExceptHandler} {l : List (Value × (Addr → Value → Option Addr → TS))} (hc : Names X x c)
      (hsu : ∀ (a : Addr) (oe : Obj) (cls : Value) (d : Option Addr) (pn : List (Addr × Obj)), Zc cls d oe → (∃ vs, oe.data = .fields vs) → PSs (X.suite a ((a, oe) :: pn)) (b₀ :: suite) (ts a cls d)) (r : Cls2 X n hds l) :
      Cls2 X n (.ExceptHandler (some (.Name x np)) (some n) (b₀ :: suite) q :: hds) ((c, ts) :: l)
section
variable {X : Cx} {n : Str} {i : Nat} {body : List Stmt} {hd0 : ExceptHandler} {hds : List ExceptHandler} {l : List (Value × (Addr → Value → Option Addr → TS))} {pos : Pos} {tb : WX → TS} {Wo : WX}
end
/-- isinstance(e, c), e the error in hand, of a class of the program, with its dict -/
structure XisC (K : PySem.W.Frag) (C : Addr) : Prop where
  cl : (PySem.W.clsIn K C).isSome = true
  ga : PySem.W.findIn K (.ref C) "__getattribute__" = some (some (.builtin "BaseException.__getattribute__"))
  gt : PySem.W.findIn K (.ref C) "__getattr__" = some none
  sub : PySem.W.subIn K (.ref C) (.type "BaseException") = some true
  ha : PySem.W.findIn K (.ref C) "__class__" = some (some (.builtin "object.__class__"))
  hn : PySem.W.specialIn K (.builtin "object.__class__") "__get__" = some (some (.builtin "getset_descriptor.__get__"))
  ht : PySem.W.takesIn K (.builtin "object.__class__") = some true
  hm : PySem.W.mroIn K C (.type "object") = some true
end G
set_option maxHeartbeats 4000000
/-! Part U: texts times numbers, a dict of one pair, what is ours in another order, errors of the program. -/
namespace G
open PySem PySem.Spec PyProof.Rows L2
theorem putF_ne {f g : Str} {v u : V} {r : List (Str × V)} (h : ¬ g = f) : putF f v ((g, u) :: r) = (g, u) :: putF f v r := if_neg h
theorem putF_nil {f : Str} {v : V} : putF f v [] = [(f, v)] := rfl
theorem x_rep {H : Hp} {Q : VK} {p : Addr} {xs : List V} {n : Int} (h : H p = some (.lst xs)) (h0 : 0 ≤ n) (h1 : n ≤ 1000) (hz : xs.length ≤ 1000) (q : nw (.lst (List.replicate n.toNat xs).flatten) H Q) : aMul (.ref p) (.int n) H Q := by
  refine .inr ⟨p, n, xs, rfl, rfl, h, by omega, by omega, ?_, q⟩
  have h2 : n.toNat ≤ 1000 := by omega
  exact Nat.le_trans (Nat.mul_le_mul hz h2) (by decide)
theorem x_make {C : Addr} {sp : Sp} {W : WX} {σ : L2.St} {vs : List V} {G H : Hp} {L : List (Addr × HO)} {Q : VK} (O : Own G H L)
    (h : ∀ (y dx : Addr) (H' : Hp), Own G H' ((y, .ins C dx []) :: (dx, .own y) :: L) → sp (.ref y :: vs) H' (fun v H2 => v = .non ∧ Q (.ref y) H2) (WE W σ)) : nI C sp W σ vs H Q := fun y dx hy hd hne => by
  have O1 := O.new (o := .own y) hd
  have O2 := O1.new (p := y) (o := .ins C dx []) (by rw [upd_ne (Ne.symm hne)]; exact hy)
  exact h y dx _ O2
theorem ite_nt {A B : Prop} (h : B) : if (!true) = true then A else B := by rw [if_neg (by decide)]; exact h
theorem ite_nf {A B : Prop} (h : A) : if (!false) = true then A else B := by rw [if_pos (by decide)]; exact h
section
variable {X : Cx} {K : PySem.W.Frag} {σ : L2.St} {H : Hp} {Q : VK} {i : Nat} {v : V} {x : Str} {e1 e2 : Expr} {t1 t2 : TE} {pos : Pos}
end
section
variable {G H : Hp} {A B C D R L : List (Addr × HO)}
theorem Own.ab (O : Own G H (A ++ (B ++ R))) : Own G H (B ++ (A ++ R)) := O.perm (by rw [← List.append_assoc, ← List.append_assoc]; exact List.Perm.append_right R List.perm_append_comm)
theorem Own.rab (O : Own G H (L ++ (A ++ (B ++ R)))) : Own G H (L ++ (B ++ (A ++ R))) := O.perm (List.Perm.append_left L (by rw [← List.append_assoc, ← List.append_assoc]; exact List.Perm.append_right R List.perm_append_comm))
/-- the third to the front -/
theorem Own.c1 (O : Own G H (A ++ (B ++ (C ++ R)))) : Own G H (C ++ (A ++ (B ++ R))) := (Own.rab O).ab
theorem Own.c3 (O : Own G H (C ++ (A ++ (B ++ R)))) : Own G H (A ++ (B ++ (C ++ R))) := (O.ab).rab
theorem Own.dropA (O : Own G H (A ++ R)) : Own G H R := by
  induction A with
  | nil => exact O
  | cons a A ih => exact ih O.tail
end
section
variable {G H : Hp} {A R L : List (Addr × HO)} {p : Addr} {o o' : HO} {S : Hp → Prop}
theorem Own.in_ (O : Own G H (A ++ ((p, o) :: R))) : H p = some o := (O.has (p, o) (List.mem_append_right _ List.mem_cons_self)).1
end
/-! ### the errors -/
/-- what __init__(self, given) of an error does -/
def sp_xi (C : Addr) : Sp := fun vs H Q _ => ∃ (a : Addr) (v : V), vs = [.ref a, v] ∧ H a = some (exo a C none) ∧ ∀ d, H d = none → d ≠ a → Q .non (upd (upd H d (exd d [("given", v)])) a (exo a C (some d)))
structure Xk (P : Program) (w : World) (K : PySem.W.Frag) (mg : Str → Option Value) (base : Heap) (k : Nat) (x : Str) (C D : Addr) : Prop where
  at_ : mg x = some (.ref C)
  er : Er P w K mg base k C x ["self", "given"] (sp_xi C)
  xf : XfC K C
  ng : PySem.W.findIn K (.ref C) "given" = some none
  xi : XisC K C
  te : PySem.W.exmOne K (.ref C) (.ref C) = some true
  kf : PySem.W.kitOne K (.ref C) (.ref D) = some true
theorem Xk.up {P : Program} {w : World} {K : PySem.W.Frag} {mg : Str → Option Value} {base : Heap} {j k : Nat} {x : Str} {C D : Addr} (c : Xk P w K mg base j x C D) (h : j ≤ k) : Xk P w K mg base k x C D :=
  ⟨c.at_, c.er.up h, c.xf, c.ng, c.xi, c.te, c.kf⟩
section
variable {σ : L2.St} {H : Hp} {C : Addr} {t : TA} {Wd : Value → Option Addr → Hp → Prop}
theorem x_mko {sp : Sp} {Q : XK} (h : t σ H fun vs H1 => vs.length ≤ 1000 ∧ ∀ a, H1 a = none → sp (.ref a :: (vs ++ [])) (upd H1 a (exo a C none))
    (fun v H2 => v = .non ∧ ∃ (d : Addr) (fs : List (Str × V)), H2 a = some (exo a C (some d)) ∧ H2 d = some (exd d fs) ∧ H1 d = none ∧ Q (.ref C) (some d) (upd (del H2 a) d (.xd fs))) (fun _ _ _ => False)) : tMkO C sp [] t σ H Q := h
theorem x_vei {K : PySem.W.Frag} {Q : VK} (h : t σ H fun vs H1 => ∃ (a C : Addr) (ws : List V), vs = .ref a :: ws ∧ ws.length ≤ 1000 ∧ OexC K C ∧ H1 a = some (exo a C none) ∧ Q .non H1) : tVeI K t σ H Q := h
theorem x_ost {K : PySem.W.Frag} {D : Ends} {f : Str} {to te : TE} (h : te σ H fun y H1 => to σ H1 fun x H2 => ∃ a C : Addr, x = .ref a ∧ OexC K C ∧ PySem.W.findIn K (.ref C) f = some none ∧
  ((H2 a = some (exo a C none) ∧ ∀ dx, H2 dx = none → dx ≠ a → D.nx σ (upd (upd H2 dx (exd dx [(f, y)])) a (exo a C (some dx)))) ∨
    ∃ (dx : Addr) (fs : List (Str × V)), H2 a = some (exo a C (some dx)) ∧ H2 dx = some (exd dx fs) ∧ fs.length ≤ 900 ∧ D.nx σ (upd H2 dx (exd dx ((f, y) :: fs))))) : tOst K f to te D σ H := h
end
end G
set_option maxHeartbeats 4000000
/-! Part Xf: errors of the program with a field of any name. -/
namespace G
open PySem PySem.Spec PyProof.Rows L2
/-- what __init__(self, f) of an error with the field f does -/
def sp_xf (f : Str) (C : Addr) : Sp := fun vs H Q _ => ∃ (a : Addr) (v : V), vs = [.ref a, v] ∧ H a = some (exo a C none) ∧ ∀ d, H d = none → d ≠ a → Q .non (upd (upd H d (exd d [(f, v)])) a (exo a C (some d)))
structure XkF (P : Program) (w : World) (K : PySem.W.Frag) (mg : Str → Option Value) (base : Heap) (k : Nat) (x f : Str) (C D : Addr) : Prop where
  at_ : mg x = some (.ref C)
  er : Er P w K mg base k C x ["self", f] (sp_xf f C)
  xf : XfC K C
  ng : PySem.W.findIn K (.ref C) f = some none
  xi : XisC K C
  te : PySem.W.exmOne K (.ref C) (.ref C) = some true
  kf : PySem.W.kitOne K (.ref C) (.ref D) = some true
theorem XkF.up {P : Program} {w : World} {K : PySem.W.Frag} {mg : Str → Option Value} {base : Heap} {j k : Nat} {x f : Str} {C D : Addr} (c : XkF P w K mg base j x f C D) (h : j ≤ k) : XkF P w K mg base k x f C D :=
  ⟨c.at_, c.er.up h, c.xf, c.ng, c.xi, c.te, c.kf⟩
theorem upd_errF {f : Str} {H1 : Hp} {a d : Addr} {v : V} {C : Addr} (ha : H1 a = none) (hda : d ≠ a) :
    upd (del (upd (upd (upd H1 a (exo a C none)) d (exd d [(f, v)])) a (exo a C (some d))) a) d (.xd [(f, v)]) = upd H1 d (.xd [(f, v)]) := by
  funext b
  by_cases hb : b = d
  · rw [hb, upd_same, upd_same]
  · rw [upd_ne hb, upd_ne hb]
    by_cases hc : b = a
    · rw [hc, del_same, ha]
    · rw [del_ne hc, upd_ne hc, upd_ne hb, upd_ne hc]
section
variable {σ : L2.St} {H : Hp} {C : Addr} {t : TA} {f : Str} {Wd : Value → Option Addr → Hp → Prop}
theorem x_errF {v : V} (h : ∀ d, H d = none → Wd (.ref C) (some d) (upd H d (.xd [(f, v)]))) : [v].length ≤ 1000 ∧ ∀ a, H a = none → sp_xf f C (.ref a :: ([v] ++ [])) (upd H a (exo a C none))
    (fun v H2 => v = .non ∧ ∃ (d : Addr) (fs : List (Str × V)), H2 a = some (exo a C (some d)) ∧ H2 d = some (exd d fs) ∧ H d = none ∧ Wd (.ref C) (some d) (upd (del H2 a) d (.xd fs))) (fun _ _ _ => False) := by
  refine ⟨by show 1 ≤ 1000; decide, fun a ha => ⟨a, v, rfl, upd_same, fun d hd hda => ⟨rfl, d, _, upd_same, by rw [upd_ne hda, upd_same], ?_, ?_⟩⟩⟩
  · rw [upd_ne hda] at hd
    exact hd
  · rw [upd_errF ha hda]
    rw [upd_ne hda] at hd
    exact h d hd
/-- raise C(v): what is ours stays so -/
theorem x_raiseF {G : Hp} {L : List (Addr × HO)} {v : V} (O : Own G H L) (h : ∀ (d : Addr) (G' H' : Hp), Same G G' → Own G' H' L → G' d = some (.xd [(f, v)]) → Wd (.ref C) (some d) H') :
    [v].length ≤ 1000 ∧ ∀ a, H a = none → sp_xf f C (.ref a :: ([v] ++ [])) (upd H a (exo a C none))
    (fun v H2 => v = .non ∧ ∃ (d : Addr) (fs : List (Str × V)), H2 a = some (exo a C (some d)) ∧ H2 d = some (exd d fs) ∧ H d = none ∧ Wd (.ref C) (some d) (upd (del H2 a) d (.xd fs))) (fun _ _ _ => False) :=
  x_errF fun d hd => h d _ _ (Same.new (O.free hd)) (O.fix hd) upd_same
end
end G
set_option maxHeartbeats 4000000
/-! Part V: small lemmas that more than one law wants. -/
namespace G
open PySem PySem.Spec PyProof.Rows L2
section
variable {K : PySem.W.Frag} {H : Hp} {Q : VK} {a : Addr} {xs : List V} {σ : L2.St} {v : V}
theorem inV_str {x : Str} {ts : List Str} : inV (.str x) (ts.map V.str) = ts.contains x := by
  unfold inV
  rw [List.any_map]
  induction ts with
  | nil => rfl
  | cons t ts ih =>
    rw [List.any_cons, List.contains_cons, ih]
    congr 1
    show eqV (.str t) (.str x) = _
    simp only [eqV]
    rw [Bool.eq_iff_iff]
    simp only [beq_iff_eq, decide_eq_true_eq]
    exact eq_comm
theorem flat_strs {ts : List Str} : (ts.map V.str).all flatV = true := by
  rw [List.all_map]
  exact List.all_eq_true.mpr fun _ _ => rfl
theorem x_inS {H : Hp} {Q : VK} {a : Addr} {x : Str} {ts : List Str} (h : SqL K H a (ts.map V.str) ∨ SqT K H a (ts.map V.str)) (q : Q (.bl (ts.contains x)) H) : rIn K false (.str x) (.ref a) H Q := by
  rcases h with h | h
  · exact x_inl h rfl flat_strs (by rw [inV_str]; exact q)
  · exact x_int h rfl flat_strs (by rw [inV_str]; exact q)
theorem x_ninS {H : Hp} {Q : VK} {a : Addr} {x : Str} {ts : List Str} (h : SqL K H a (ts.map V.str) ∨ SqT K H a (ts.map V.str)) (q : Q (.bl (!ts.contains x)) H) : rIn K true (.str x) (.ref a) H Q := by
  rcases h with h | h
  · exact x_inl h rfl flat_strs (by rw [inV_str]; exact q)
  · exact x_int h rfl flat_strs (by rw [inV_str]; exact q)
theorem Own.sq {G H : Hp} {L : List (Addr × HO)} {a : Addr} {xs : List V} (O : Own G H L) (h : SqL K G a xs ∨ SqT K G a xs) : SqL K H a xs ∨ SqT K H a xs := h.imp O.seq O.set
theorem x_chain {r r' : R2} {ta tb tc : TE} (h : ta σ H fun x H1 => tb σ H1 fun y H2 => r x y H2 fun z H3 => ∃ k, z = .bl k ∧ (if k = true then tc σ H3 fun w' H4 => r' y w' H4 Q else Q (.bl false) H3)) : tChain r r' ta tb tc σ H Q := h
end
end G
set_option maxHeartbeats 4000000
/-! Part P: errors without a field. -/
namespace G
open PySem PySem.Spec PyProof.Rows L2
section
variable {X : Cx} {pins : List (Addr × Obj)} {σ : L2.St} {H1 H2 : Hp} {Q : XK} {hp hp2 h2 : Heap} {g1 g2 : Array GenState} {d1 d2 : Drawn} {t1 t2 : Nat} {os1 os2 : OsState} {a C : Addr}
end
section
variable {X : Cx} {k : Nat} {C : Addr} {sp : Sp} {x : Str} {p pos : Pos}
/-- what __init__(self) of an error does -/
def sp_x0 (C : Addr) : Sp := fun vs H Q _ => ∃ a : Addr, vs = [.ref a] ∧ H a = some (exo a C none) ∧ Q .non H
end
structure Xk0 (P : Program) (w : World) (K : PySem.W.Frag) (mg : Str → Option Value) (base : Heap) (k : Nat) (x : Str) (C D : Addr) : Prop where
  at_ : mg x = some (.ref C)
  er : Er P w K mg base k C x ["self"] (sp_x0 C)
  xi : XisC K C
  te : PySem.W.exmOne K (.ref C) (.ref C) = some true
  kf : PySem.W.kitOne K (.ref C) (.ref D) = some true
theorem Xk0.up {P : Program} {w : World} {K : PySem.W.Frag} {mg : Str → Option Value} {base : Heap} {j k : Nat} {x : Str} {C D : Addr} (c : Xk0 P w K mg base j x C D) (h : j ≤ k) : Xk0 P w K mg base k x C D := ⟨c.at_, c.er.up h, c.xi, c.te, c.kf⟩
end G
set_option maxHeartbeats 4000000
/-! Part S: sets of tuples of ints and texts. -/
namespace G
open PySem PySem.Spec PyProof.Rows L2

abbrev kHash (P : Program) (w : World) (k : List Key) : Int := tupleKeyHash (mixKind P w) k
abbrev TupK (P : Program) (w : World) (h : Heap) (k : List Key) (a : Addr) : Prop := IsTupleKey (mixKind P w) h k a

section
variable {P : Program} {w : World} {A : Around} {E : Value → Shared → Prop} {s : Shared}
theorem key_items {k : List Key} {vs : List Value} (h : ItemsAre (mixKind P w) k vs) : ∀ v ∈ vs, (∃ i t, v = Value.int i t) ∨ ∃ x t, v = Value.str x t := by
  induction h with
  | nil => intro v hv; cases hv
  | @cons k0 v' ks vs h1 _ ih =>
    intro v hv
    rcases List.mem_cons.mp hv with e | hv
    · rw [e]
      rcases keyIs_shape h1 with ⟨i, t, _, e2⟩ | ⟨x, t, _, e2⟩
      · exact .inl ⟨i, t, e2⟩
      · exact .inr ⟨x, t, e2⟩
    · exact ih v hv
theorem ofAClass_flat (n : Nat) {v : Value} (h : (∃ i t, v = Value.int i t) ∨ ∃ x t, v = Value.str x t) : ofAClassStatement n v = pure false := by
  rcases h with ⟨i, t, rfl⟩ | ⟨x, t, rfl⟩ <;> cases n <;> rfl
theorem hashBy_flat (n : Nat) {v : Value} (h : (∃ i t, v = Value.int i t) ∨ ∃ x t, v = Value.str x t) : ∃ b, hashByValue n v = pure b := by
  rcases h with ⟨i, t, rfl⟩ | ⟨x, t, rfl⟩
  · exact ⟨true, by cases n <;> rfl⟩
  · exact ⟨false, by cases n <;> rfl⟩
/-- a loop over flat items that looks for the first of which something holds finds none -/
theorem loop_none {items : List Value} {body : Value → (Option Bool × Unit) → Sem (ForInStep ((Option Bool × Unit)))} {Q : (Option Bool × Unit) → Shared → Prop}
    (hb : ∀ v ∈ items, ∀ r, r.1 = none → ∀ Q', (∀ r', r'.1 = none → Q' (.yield r') s) → wpAny (model P w) A (body v r) Q' E s) (r : (Option Bool × Unit)) (hr : r.1 = none) (hq : ∀ r, r.1 = none → Q r s) :
    wpAny (model P w) A (forIn items r body) Q E s := by
  refine wpAny_forIn_list _ (fun rest r s' => r.1 = none ∧ s' = s ∧ ∀ v ∈ rest, v ∈ items) _ ?_ ?_ _ _ ⟨hr, rfl, fun v hv => hv⟩
  · rintro v rest r s' ⟨hr, rfl, hall⟩
    exact hb v (hall v List.mem_cons_self) r hr _ fun r' hr' => ⟨hr', rfl, fun u hu => hall u (List.mem_cons_of_mem _ hu)⟩
  · rintro r s' ⟨hr, rfl, _⟩
    exact hq r hr
theorem ofAClass_key {k : List Key} {b : Addr} {Q : Bool → Shared → Prop} (hk : TupK P w s.heap k b) (h : Q false s) : wpAny (model P w) A (ofAClassStatement 8 (.ref b)) Q E s := by
  have hT := hk.typeIs
  obtain ⟨o, items, n, ho, _, hd, hi⟩ := hk
  unfold ofAClassStatement
  refine wpAny_bind (wpAny_typeOf hT ?_)
  dsimp only
  have e : (("tuple" : String) == "tuple") = true := by decide
  simp only [e, if_true, Bool.not_true, Bool.false_eq_true, if_false]
  try refine wpAny_bind (wpAny_pure ?_)
  try simp only [Bool.not_true, Bool.false_eq_true, if_false]
  show wpAny _ _ (seqItems? (.ref b) >>= _) _ _ s
  refine wpAny_bind (wpAny_seqItems ho hd ?_)
  dsimp only
  refine wpAny_bind ?_
  show wpAny _ _ (forIn items _ _) _ _ s
  rw [← Array.forIn_toList]
  refine loop_none (fun v hv r hr Q' hq => ?_) _ ?_ fun r hr => ?_
  · rw [ofAClass_flat _ (key_items hi v hv)]
    refine wpAny_bind (wpAny_pure ?_)
    simp only [Bool.false_eq_true, if_false]
    exact wpAny_pure (hq _ rfl)
  · exact rfl
  · obtain ⟨r1, r2⟩ := r
    simp only at hr
    subst hr
    exact wpAny_pure h
theorem hashBy_key {k : List Key} {b : Addr} {Q : Bool → Shared → Prop} (hk : TupK P w s.heap k b) (h : ∀ r, Q r s) : wpAny (model P w) A (hashByValue 8 (.ref b)) Q E s := by
  have hT := hk.typeIs
  obtain ⟨o, items, n, ho, _, hd, hi⟩ := hk
  unfold hashByValue
  refine wpAny_bind (wpAny_specialOf hT PySem.F.slot_tuple_hash.lookup ?_)
  show wpAny _ _ (seqItems? (.ref b) >>= _) _ _ s
  refine wpAny_bind (wpAny_seqItems ho hd ?_)
  refine wpAny_bind ?_
  show wpAny _ _ (forIn items _ _) _ _ s
  rw [← Array.forIn_toList]
  refine wpAny_forIn_list _ (fun rest r s' => s' = s ∧ ∀ v ∈ rest, v ∈ items.toList) _ ?_ ?_ _ _ ⟨rfl, fun v hv => hv⟩
  · rintro v rest r s' ⟨rfl, hall⟩
    obtain ⟨c, hc⟩ := hashBy_flat 7 (key_items hi v (hall v List.mem_cons_self))
    rw [hc]
    refine wpAny_bind (wpAny_pure ?_)
    cases c
    · simp only [Bool.not_false, if_true]
      exact wpAny_pure (wpAny_pure (h _))
    · simp only [Bool.not_true, Bool.false_eq_true, if_false]
      exact wpAny_pure ⟨rfl, fun u hu => hall u (List.mem_cons_of_mem _ hu)⟩
  · rintro ⟨r1, r2⟩ s' hs'
    cases r1 with
    | none => exact wpAny_pure (by first | (obtain ⟨rfl, _⟩ := hs'; exact h _) | (subst hs'; exact h _))
    | some c => exact wpAny_pure (by first | (obtain ⟨rfl, _⟩ := hs'; exact h _) | (subst hs'; exact h _))
/-- a search among such tuples shows nothing -/
theorem seen_key {k : List Key} {b : Addr} {Q : Bool → Shared → Prop} (hk : TupK P w s.heap k b) {ys : List Value} (hy : ∀ y ∈ ys, ∃ k' c, y = Value.ref c ∧ TupK P w s.heap k' c) (h : Q false s) :
    wpAny (model P w) A (searchCouldBeSeen (.ref b) ys) Q E s := by
  unfold searchCouldBeSeen
  refine wpAny_bind ?_
  refine loop_none (fun v hv r hr Q' hq => ?_) _ ?_ fun r hr => ?_
  · obtain ⟨k', c, rfl, hc⟩ := hy v hv
    dsimp only
    by_cases hv : (b == c || (carriedByValue (.ref b) && carriedByValue (.ref c))) = true
    · exact wp_if_pos hv (wpAny_pure (hq _ rfl))
    · refine wp_if_neg hv ?_
      refine wpAny_bind (wpAny_eqIsQuiet_tuple hk ?_)
      simp only [Bool.not_true, Bool.false_eq_true, if_false]
      refine wpAny_bind (wpAny_eqIsQuiet_tuple hc ?_)
      simp only [Bool.not_true, Bool.false_eq_true, if_false]
      refine wpAny_bind (ofAClass_key hk ?_)
      simp only [Bool.false_eq_true, if_false]
      refine wpAny_bind (ofAClass_key hc ?_)
      simp only [Bool.false_eq_true, if_false]
      exact wpAny_pure (hq _ rfl)
  · exact rfl
  · obtain ⟨r1, r2⟩ := r
    simp only at hr
    subst hr
    exact wpAny_pure h
end
end G
set_option maxHeartbeats 4000000
/-! Part Sa: the set of tuples: search, add. -/
namespace G
open PySem PySem.Spec PyProof.Rows L2

section
variable {P : Program} {w : World} {A : Around} {E : Value → Shared → Prop} {s : Shared}
/-- the entries of a set whose members are the tuples L, by the order of the slots -/
def entsK (P : Program) (w : World) (L : List (Addr × List Key)) : List (Int × Value) := L.map fun p => (kHash P w p.2, Value.ref p.1)
theorem entsK_len {L : List (Addr × List Key)} {es : Array (Int × Value)} (h : es.toList = entsK P w L) : es.size = L.length := by
  have q := congrArg List.length h
  unfold entsK at q
  rw [Array.length_toList, List.length_map] at q
  exact q
theorem entsK_at {L : List (Addr × List Key)} {es : Array (Int × Value)} (h : es.toList = entsK P w L) {i : Nat} {p : Addr × List Key} (e : L[i]? = some p) : es[i]? = some (kHash P w p.2, Value.ref p.1) := by
  rw [← Array.getElem?_toList, h]
  unfold entsK
  rw [List.getElem?_map, e] <;> rfl
structure SetR (P : Program) (w : World) (h : Heap) (a : Addr) (L : List (Addr × List Key)) (es : Array (Int × Value)) (ep : Nat) (t : SetTable) : Prop where
  ob : ∃ o, h.get? a = some o ∧ o.ExactSet ∧ o.data = .set es ep t
  ents : es.toList = entsK P w L
  tab : TabOk t (L.map fun p => kHash P w p.2)
  nd : (L.map (·.2)).Nodup
  tup : ∀ p ∈ L, TupK P w h p.2 p.1
  led : w.params.followText "set-order" = true ∨ t.led = true
  room : L.length * 5 < t.mask * 3
  few : L.length < 76
variable {a : Addr} {L : List (Addr × List Key)} {es : Array (Int × Value)} {ep : Nat} {t : SetTable}
theorem fits_of (T : TabOk t (L.map fun p => kHash P w p.2)) (h : es.toList = entsK P w L) (r : L.length ≤ t.mask) : t.fits es.size = true := by
  have h1 := T.sz
  rw [List.length_map] at h1
  have h2 := entsK_len h
  unfold SetTable.fits SetTable.fill
  rw [T.dm, Bool.and_eq_true, beq_iff_eq, decide_eq_true_eq]
  show t.place.size = es.size ∧ t.place.size + 0 ≤ t.mask
  omega
theorem SetR.fits (R : SetR P w s.heap a L es ep t) : t.fits es.size = true := fits_of R.tab R.ents (by have := R.room; omega)
theorem probe_dm {m : Nat} : ∀ (n : Nat) (p : SetTable.Probe), p.dummy = none → (nth m p n).dummy = none
  | 0, _, h => h
  | n + 1, p, h => probe_dm n (adv m p) (by unfold adv; split <;> exact h)
/-- the c-th probe of a hash -/
abbrev pr0 (m : Nat) (h : Int) (c : Nat) : SetTable.Probe := nth m (runAt m (SetTable.bits h % (m + 1)) (SetTable.bits h)) c
theorem pr0_add (m : Nat) (h : Int) (c q : Nat) : nth m (pr0 m h c) q = pr0 m h (c + q) := (nth_add m c _ q).symm
/-- what the next probe meets, from the c-th one on -/
theorem SetR.meets (R : SetR P w s.heap a L es ep t) {H : Int} {K c : Nat} (hKf : K < 10 * SetTable.turns t.mask) (hc : c ≤ K) (hK : way t.mask H K ∉ t.place.toList) (hKb : ∀ c, c < K → way t.mask H c ∈ t.place.toList) :
    (∃ (q i : Nat) (p : Addr × List Key), c + q < K ∧ t.place.toList[i]? = some (way t.mask H (c + q)) ∧ L[i]? = some p ∧ kHash P w p.2 = H ∧ (∀ (c' i' : Nat) (p' : Addr × List Key), c ≤ c' → c' < c + q → t.place.toList[i']? = some (way t.mask H c') → L[i']? = some p' → kHash P w p'.2 ≠ H) ∧
      t.probe (fun i => (es[i]?.map (·.1)).getD 0) H (pr0 t.mask H c) = some (.candidate (way t.mask H (c + q)) i (pr0 t.mask H (c + (q + 1))))) ∨
    ((∀ (c' i' : Nat) (p' : Addr × List Key), c ≤ c' → c' < K → t.place.toList[i']? = some (way t.mask H c') → L[i']? = some p' → kHash P w p'.2 ≠ H) ∧ t.probe (fun i => (es[i]?.map (·.1)).getD 0) H (pr0 t.mask H c) = some (.empty (way t.mask H K) none)) := by
  have e1 : ∀ q, (nth t.mask (pr0 t.mask H c) q).j = way t.mask H (c + q) := fun q => congrArg SetTable.Probe.j (pr0_add t.mask H c q)
  have hash : ∀ (i : Nat) p, L[i]? = some p → (fun i => (es[i]?.map (·.1)).getD 0) i = kHash P w p.2 := fun i p hp => by
    show (es[i]?.map (·.1)).getD 0 = _
    rw [entsK_at R.ents hp] <;> rfl
  have hsz : t.place.toList.length = L.length := by
    have h := R.tab.sz
    rw [List.length_map] at h
    rw [Array.length_toList, h]
  rcases go_spec t R.tab.ris R.tab.dm (fun i => (es[i]?.map (·.1)).getD 0) H (10 * SetTable.turns t.mask) (K - c) _ (probe_dm c _ rfl) (by omega) (fun q hq => by rw [e1]; exact hKb (c + q) (by omega)) (by rw [e1, show c + (K - c) = K by omega]; exact hK) with ⟨q, i, hq, hi, hh, hno, hpr⟩ | ⟨hno, hpr⟩
  · have hi' : t.place.toList[i]? = some (way t.mask H (c + q)) := by rw [← e1]; exact hi
    have hil : i < L.length := by rw [← hsz]; exact (List.getElem?_eq_some_iff.mp hi').1
    refine .inl ⟨q, i, L[i], by omega, hi', List.getElem?_eq_getElem hil, ?_, fun c' i' p' h1 h2 h3 h4 => ?_, ?_⟩
    · rw [← hash i _ (List.getElem?_eq_getElem hil)]; exact hh
    · have z := hno (c' - c) i' (by omega) (by rw [e1, show c + (c' - c) = c' by omega]; exact h3)
      rw [← hash i' p' h4]
      exact z
    · rw [← e1, ← pr0_add]
      exact hpr
  · refine .inr ⟨fun c' i' p' h1 h2 h3 h4 => ?_, ?_⟩
    · have z := hno (c' - c) i' (by omega) (by rw [e1, show c + (c' - c) = c' by omega]; exact h3)
      rw [← hash i' p' h4]
      exact z
    · have e2 : way t.mask H K = (nth t.mask (pr0 t.mask H c) (K - c)).j := by rw [e1, show c + (K - c) = K by omega]
      rw [e2]
      exact hpr
/-- the search for a tuple, from the c-th probe on -/
theorem SetR.search (R : SetR P w s.heap a L es ep t) {x : Addr} {k : List Key} (hx : TupK P w s.heap k x) (hu : A.units < cLine) {K : Nat} (hKf : K < 10 * SetTable.turns t.mask)
    (hK : way t.mask (kHash P w k) K ∉ t.place.toList) (hKb : ∀ c, c < K → way t.mask (kHash P w k) c ∈ t.place.toList) {Q : SetFound → Shared → Prop}
    (hin : k ∈ L.map (·.2) → Q (.there none) s) (hout : k ∉ L.map (·.2) → Q (.free (way t.mask (kHash P w k) K) false) s) :
    ∀ (f c : Nat) (stand : Option SetTable.Probe), stand.getD (t.probeStart (kHash P w k)) = pr0 t.mask (kHash P w k) c → c ≤ K → K - c < f →
      (∀ (i : Nat) p, L[i]? = some p → p.2 = k → ∃ c', c ≤ c' ∧ c' < K ∧ t.place.toList[i]? = some (way t.mask (kHash P w k) c')) →
      wpAny (model P w) A (setSearchFrom a (.ref x) (kHash P w k) true f stand) Q E s := by
  intro f
  induction f with
  | zero => intro c stand _ _ hf; exact absurd hf (Nat.not_lt_zero _)
  | succ f ih =>
    intro c stand hst hc hf hre
    obtain ⟨o, ho, hex, hd⟩ := R.ob
    have hst' := fun T => wpAny_setState_of (prog := P) (w := w) (A := A) (E := E) (Q := T) ho hd R.fits
    rw [setSearchFrom_succ]
    refine wpAny_bind (hst' _ ?_)
    dsimp only
    refine wp_if_neg (by unfold SetTable.gaveWay; rw [mask_odd R.tab.mok]; decide) ?_
    try refine wpAny_bind (wpAny_pure ?_)
    rw [hst]
    rcases R.meets hKf hc hK hKb with ⟨q, i, p, hq, hi, hp, hh, hno, hpr⟩ | ⟨hno, hpr⟩
    · rw [hpr]
      dsimp only
      have hmem : p ∈ L := List.mem_of_getElem? hp
      have rest : wpAny (model P w) A (searchRest a (.ref x) (kHash P w k) true f es t (way t.mask (kHash P w k) (c + q)) i (pr0 t.mask (kHash P w k) (c + (q + 1)))) Q E s := by
        unfold searchRest
        rw [entsK_at R.ents hp]
        dsimp only
        refine wpAny_bind (wpAny_holding (wpAny_eqBool_tuple hu (R.tup p hmem) hx ?_))
        refine wpAny_bind (hst' _ ?_)
        dsimp only
        by_cases hkk : p.2 = k
        · exact wp_if_pos (by simp [hkk]) (wpAny_pure (hin (List.mem_map.mpr ⟨p, hmem, hkk⟩)))
        · refine wp_if_neg (by simp [hkk]) ?_
          try refine wpAny_bind (wpAny_pure ?_)
          rw [sameMem]
          dsimp only
          have hsl := slot_live R.tab.ris hi
          simp only [if_true, hsl, entsK_at R.ents hp]
          refine wpAny_bind (wpAny_isSame_ref_self (wpAny_bind (wpAny_pure ?_)))
          simp only [if_true]
          refine wp_if_neg (by simp [hkk]) ?_
          refine ih (c + (q + 1)) _ rfl (by omega) (by omega) fun i0 p0 h0 hk0 => ?_
          obtain ⟨c', a1, a2, a3⟩ := hre i0 p0 h0 hk0
          refine ⟨c', Nat.le_of_not_lt fun z => ?_, a2, a3⟩
          rcases Nat.lt_or_ge c' (c + q) with y | y
          · exact hno c' i0 p0 a1 y a3 h0 (congrArg (kHash P w) hk0)
          · obtain rfl : c' = c + q := by omega
            have s0 := slot_live R.tab.ris a3
            rw [hsl] at s0
            injection s0 with s0
            rw [← s0, hp] at h0
            exact hkk ((congrArg Prod.snd (Option.some.inj h0)).trans hk0)
      by_cases hl : t.led = true
      · refine wp_if_neg (by simp [hl]) ?_
        try refine wpAny_bind (wpAny_pure ?_)
        exact rest
      · refine wp_if_pos (by simp [hl]) ?_
        refine wpAny_bind (seen_key hx (fun y hy => ?_) ?_)
        · obtain ⟨e, he, ee⟩ := List.mem_map.mp hy
          have he1 : e ∈ es ∧ e.1 = kHash P w k := by simpa using he
          have he2 : e ∈ es.toList := by simpa using he1.1
          rw [R.ents] at he2
          obtain ⟨p2, hp2, e2⟩ := List.mem_map.mp he2
          exact ⟨p2.2, p2.1, by rw [← ee, ← e2], R.tup p2 hp2⟩
        · refine wp_if_neg (by decide) ?_
          try refine wpAny_bind (wpAny_pure ?_)
          exact rest
    · rw [hpr]
      dsimp only
      refine wpAny_pure (hout fun hm => ?_)
      obtain ⟨p0, h0, hk0⟩ := List.mem_map.mp hm
      obtain ⟨i0, hi0, e0⟩ := List.getElem_of_mem h0
      have h00 : L[i0]? = some p0 := by rw [List.getElem?_eq_getElem hi0, e0]
      obtain ⟨c', a1, a2, a3⟩ := hre i0 p0 h00 hk0
      exact hno c' i0 p0 a1 a2 a3 h00 (congrArg (kHash P w) hk0)
/-- the search as adding asks for it -/
theorem SetR.find (R : SetR P w s.heap a L es ep t) {x : Addr} {k : List Key} (hx : TupK P w s.heap k x) (hu : A.units < cLine) {Q : SetFound → Shared → Prop}
    (hin : k ∈ L.map (·.2) → Q (.there none) s)
    (hout : ∀ K, k ∉ L.map (·.2) → way t.mask (kHash P w k) K ∉ t.place.toList → (∀ c, c < K → way t.mask (kHash P w k) c ∈ t.place.toList) → Q (.free (way t.mask (kHash P w k) K) false) s) :
    wpAny (model P w) A (setSearch a (.ref x) (kHash P w k) true) Q E s := by
  have hroom := R.room
  obtain ⟨K, hKf, hK, hKb⟩ := R.tab.first (by rw [List.length_map]; omega) (kHash P w k)
  have hbig : K < 100000 := by
    have : 10 * SetTable.turns t.mask ≤ 1420 := by
      unfold SetTable.turns
      rcases R.tab.mok with e | e | e <;> omega
    omega
  unfold setSearch
  refine R.search hx hu hKf hK hKb hin (fun hn => hout K hn hK hKb) 100000 0 none rfl (Nat.zero_le _) (by omega) fun i p hp hk => ?_
  have hi : (L.map fun p => kHash P w p.2)[i]? = some (kHash P w k) := by rw [List.getElem?_map, hp, ← hk] <;> rfl
  have hil : i < t.place.toList.length := by
    have h1 : i < L.length := (List.getElem?_eq_some_iff.mp hp).1
    have h2 := R.tab.sz
    rw [List.length_map] at h2
    rw [Array.length_toList]
    omega
  have hj := List.getElem?_eq_getElem hil
  obtain ⟨c, hc, e⟩ := R.tab.before hK hi hj
  exact ⟨c, Nat.zero_le _, hc, by rw [hj, e]⟩
theorem tupK_but {h h' : Heap} {k : List Key} {a b : Addr} {o : Obj} {es : Array (Int × Value)} {ep : Nat} {t : SetTable} (hb : TupK P w h k b) (ho : h.get? a = some o) (hd : o.data = .set es ep t) (hs : Heap.SameBut a h h') : TupK P w h' k b := by
  obtain ⟨o', items, n, ho', hc, hd', hi⟩ := hb
  refine ⟨o', items, n, (hs.2 b fun e => ?_).trans ho', hc, hd', hi⟩
  rw [e, ho] at ho'
  cases ho'
  rw [hd] at hd'
  exact nomatch hd'
theorem ins_perm {α : Type} (L : List α) (p : Nat) (x : α) : (L.take p ++ x :: L.drop p).Perm (x :: L) := by
  have h : (L.take p ++ x :: L.drop p).Perm (x :: (L.take p ++ L.drop p)) := List.perm_middle
  rw [List.take_append_drop] at h
  exact h
/-- the entries taken in another order are the entries of the members taken so -/
theorem ents_order (L : List (Addr × List Key)) (es : Array (Int × Value)) (order : Array Nat) (hr : es.toList = entsK P w L) (hp : order.toList.Perm (List.range L.length)) :
    ∃ L2, (order.filterMap (es[·]?)).toList = entsK P w L2 ∧ L2.Perm L ∧ (L2.map fun p => kHash P w p.2) = order.toList.map fun i => (es.map (·.1)).getD i 0 := by
  have hsz := entsK_len hr
  have key : ∀ l : List Nat, (∀ i ∈ l, i < L.length) → l.filterMap (fun i => es[i]?) = entsK P w (l.filterMap (fun i => L[i]?)) ∧ ((l.filterMap (fun i => L[i]?)).map fun p => kHash P w p.2) = l.map fun i => (es.map (·.1)).getD i 0 := by
    intro l
    induction l with
    | nil => intro _; exact ⟨rfl, rfl⟩
    | cons i l ih =>
      intro hl
      have hi := hl i List.mem_cons_self
      obtain ⟨e1, e3⟩ := ih fun j hj => hl j (List.mem_cons_of_mem _ hj)
      have eL := List.getElem?_eq_getElem hi
      have eE := entsK_at hr eL
      refine ⟨?_, ?_⟩
      · rw [List.filterMap_cons_some eE, List.filterMap_cons_some eL, e1] <;> rfl
      · rw [List.filterMap_cons_some eL, List.map_cons, List.map_cons, e3]
        have e5 : (es.map (·.1))[i]? = some (kHash P w (L[i]).2) := by rw [Array.getElem?_map, eE] <;> rfl
        have e4 : (es.map (·.1)).getD i 0 = kHash P w (L[i]).2 := by simp [Array.getD_eq_getD_getElem?, e5]
        rw [e4]
  obtain ⟨e1, e3⟩ := key order.toList fun i hi => List.mem_range.mp (hp.mem_iff.mp hi)
  refine ⟨order.toList.filterMap fun i => L[i]?, by first | (rw [Array.toList_filterMap]; exact e1) | simpa using e1, ?_, e3⟩
  have h1 := hp.filterMap fun i => L[i]?
  have h2 : (List.range L.length).filterMap (fun i => L[i]?) = L := by
    have key2 : ∀ n, n ≤ L.length → (List.range n).filterMap (fun i => L[i]?) = L.take n := by
      intro n
      induction n with
      | zero => intro _; rfl
      | succ n ih =>
        intro hn
        rw [List.range_succ, List.filterMap_append, ih (Nat.le_of_lt hn), List.take_succ, List.getElem?_eq_getElem hn]
        rw [List.filterMap_cons_some (List.getElem?_eq_getElem hn)] <;> rfl
    rw [key2 L.length (Nat.le_refl _), List.take_length]
  rw [h2] at h1
  exact h1
/-- the table laid anew, larger -/
theorem relay_ok {o : Obj} (ho : s.heap.get? a = some o) (hex : o.ExactSet) (hd : o.data = .set es ep t) (hE : es.toList = entsK P w L) (T : TabOk t (L.map fun p => kHash P w p.2)) (hfl : L.length ≤ t.mask)
    (nd : (L.map (·.2)).Nodup) (tup : ∀ p ∈ L, TupK P w s.heap p.2 p.1) (ld : w.params.followText "set-order" = true ∨ t.led = true) (few : L.length < 76) {wanted M : Nat}
    (hw : SetTable.sizeAbove wanted - 1 = M) (hM : MaskOk M) (hw2 : SetTable.sizeAbove wanted ≤ 128) (hn : L.length * 5 < M * 3) {Q : Unit → Shared → Prop}
    (hQ : ∀ h' L' es' ep' t', Heap.SameBut a s.heap h' → SetR P w h' a L' es' ep' t' → L'.Perm L → Q () { s with heap := h' }) : wpAny (model P w) A (setRelay a wanted) Q E s := by
  have hsl := entsK_len hE
  obtain ⟨t', order, e, hp, T', em, el, _, ed⟩ := relaid_ok t (hs := es.map (·.1)) (wanted := wanted) hw hM (by rw [Array.size_map, hsl]; omega)
  rw [Array.size_map, hsl] at hp
  obtain ⟨L2, r1, r2, r3⟩ := ents_order L es order hE hp
  rw [← r3] at T'
  have hs2 : (order.filterMap (es[·]?)).size = es.size := by rw [entsK_len r1, r2.length_eq, hsl]
  rw [setRelay_eq]
  refine wpAny_bind (wpAny_setState_of ho hd (fits_of T hE hfl) ?_)
  dsimp only
  refine wp_if_neg (by rw [sizeLine_eq]; omega) ?_
  try refine wpAny_bind (wpAny_pure ?_)
  rw [e]
  dsimp only
  refine wpAny_bind ?_
  refine wp_if_neg (by rw [hs2]; simp) ?_
  try refine wpAny_bind (wpAny_pure ?_)
  refine wpAny_pure ?_
  dsimp only
  refine wpAny_storeSet_of ho hd ?_ (by rw [hs2, hsl, sizeLine_eq]; omega)
  have sb : Heap.SameBut a s.heap (s.heap.update a (Obj.putSet (order.filterMap (es[·]?)) t')) := Heap.SameBut.update ..
  exact hQ _ L2 (order.filterMap (es[·]?)) (ep + 1) t' sb ⟨⟨_, store_at ho hd, ⟨hex.1, hex.2.1, hex.2.2⟩, rfl⟩, r1, T', (r2.map (·.2)).nodup_iff.mpr nd, fun p hpm => tupK_but (tup p (r2.mem_iff.mp hpm)) ho hd sb, by rw [el]; exact ld, by rw [r2.length_eq, em]; exact hn, by rw [r2.length_eq]; exact few⟩ r2
theorem TabOk.flag {t : SetTable} {hs : List Int} (T : TabOk t hs) (b : Bool) : TabOk { t with plain := b } hs := ⟨T.ris, T.dm, T.sz, T.mok, T.bd, T.reach⟩
end
end G
set_option maxHeartbeats 4000000
/-! Part Sb: a tuple added to the set; set(xs). -/
namespace G
open PySem PySem.Spec PyProof.Rows L2

section
variable {P : Program} {w : World} {A : Around} {E : Value → Shared → Prop} {s : Shared}
variable {a : Addr} {L : List (Addr × List Key)} {es : Array (Int × Value)} {ep : Nat} {t : SetTable}
/-- adding a tuple: it is there, or it is a new member -/
theorem SetR.add (R : SetR P w s.heap a L es ep t) {x : Addr} {k : List Key} (hx : TupK P w s.heap k x) (hu : A.units < cLine) (hfew : L.length + 1 < 76) {Q : Bool → Shared → Prop}
    (hQ : ∀ b h' L' es' ep' t', Heap.SameBut a s.heap h' → SetR P w h' a L' es' ep' t' → (k ∈ L.map (·.2) → L' = L) → (k ∉ L.map (·.2) → L'.Perm ((x, k) :: L)) → Q b { s with heap := h' }) :
    wpAny (model P w) A (setAddHashed a (.ref x) (kHash P w k)) Q E s := by
  obtain ⟨o, ho, hex, hd⟩ := R.ob
  have hsl := entsK_len R.ents
  have hroom := R.room
  have hst := fun T => wpAny_setState_of (prog := P) (w := w) (A := A) (E := E) (Q := T) ho hd R.fits
  unfold setAddHashed
  refine wpAny_holding ?_
  rw [show (100000 : Nat) = 99999 + 1 from rfl, setAddHashedIn_succ]
  refine wpAny_bind (hst _ ?_)
  dsimp only
  refine wp_if_neg (by simp [byScan, Value.scannable]) ?_
  try refine wpAny_bind (wpAny_pure ?_)
  refine wpAny_bind (R.find hx hu (fun hm => ?_) fun K hm hK hb => ?_)
  · dsimp only
    exact wpAny_pure (hQ false s.heap L es ep t (Heap.SameBut.refl a s.heap) R (fun _ => rfl) fun z => absurd hm z)
  · dsimp only
    refine wpAny_bind (hst _ ?_)
    dsimp only
    obtain ⟨q1, q2, q3, q4, q5, _, _, _, q9⟩ := R.tab.put hK hb
    generalize hpt : t.put (way t.mask (kHash P w k) K) = pt at q1 q3 q4 q5 q9 ⊢
    obtain ⟨t1, p⟩ := pt
    dsimp only at q1 q3 q4 q5 q9 ⊢
    have hin : (SetTable.insertAt es p (kHash P w k, Value.ref x)).toList = entsK P w (L.take p ++ (x, k) :: L.drop p) := by
      rw [SetTable.toList_insertAt, R.ents]
      unfold entsK
      rw [List.map_append, List.map_cons, List.map_take, List.map_drop]
    rw [← q1] at q2 q3
    have pm := ins_perm L p (x, k)
    have hlen : (L.take p ++ (x, k) :: L.drop p).length = L.length + 1 := pm.length_eq
    have hhs : (L.take p ++ (x, k) :: L.drop p).map (fun p => kHash P w p.2) = (L.map fun p => kHash P w p.2).take p ++ kHash P w k :: (L.map fun p => kHash P w p.2).drop p := by
      rw [List.map_append, List.map_cons, List.map_take, List.map_drop]
    rw [← hhs] at q3
    have nd1 : ((L.take p ++ (x, k) :: L.drop p).map (·.2)).Nodup := by
      refine (pm.map (·.2)).nodup_iff.mpr ?_
      rw [List.map_cons]
      exact List.nodup_cons.mpr ⟨hm, R.nd⟩
    have hes := entsK_len hin
    rw [hlen] at hes
    generalize SetTable.insertAt es p (kHash P w k, Value.ref x) = es1 at hin hes ⊢
    generalize L.take p ++ (x, k) :: L.drop p = L1 at pm hlen q3 nd1 hin
    -- whatever the flag is
    have main : ∀ t2 : SetTable, TabOk t2 (L1.map fun p => kHash P w p.2) → t2.mask = t.mask → t2.led = t.led → t2.fill = L.length + 1 →
        wpAny (model P w) A (do
          storeSet a es1 t2
          if !false && t2.tooFull then setRelay a (SetTable.grown (es.size + 1))
          return true) Q E s := fun t2 T2 m2 l2 f2 => by
      refine wpAny_bind (wpAny_storeSet_of ho hd ?_ (by rw [hes, sizeLine_eq]; omega))
      have sb : Heap.SameBut a s.heap (s.heap.update a (Obj.putSet es1 t2)) := Heap.SameBut.update ..
      have ho1 := store_at (es' := es1) (t' := t2) ho hd
      generalize s.heap.update a (Obj.putSet es1 t2) = h1 at sb ho1 ⊢
      have tup1 : ∀ p ∈ L1, TupK P w h1 p.2 p.1 := fun p hp => by
        rcases List.mem_cons.mp (pm.mem_iff.mp hp) with e | hp
        · rw [e]; exact tupK_but hx ho hd sb
        · exact tupK_but (R.tup p hp) ho hd sb
      have ld1 : w.params.followText "set-order" = true ∨ t2.led = true := by rw [l2]; exact R.led
      by_cases hf : t2.tooFull = true
      · first
          | (refine wpAny_bind ?_; refine wp_if_pos (by simp [hf]) ?_)
          | (refine wp_if_pos (by simp [hf]) ?_; refine wpAny_bind ?_)
        have hfull : (L.length + 1) * 5 ≥ t2.mask * 3 := by
          have h := hf
          unfold SetTable.tooFull at h
          rw [decide_eq_true_eq, f2] at h
          exact h
        rw [hsl]
        have two : (t.mask = 7 ∧ L.length = 4) ∨ (t.mask = 31 ∧ L.length = 18) := by
          rcases R.tab.mok with e | e | e
          · left; rw [m2, e] at hfull; rw [e] at hroom; exact ⟨e, by omega⟩
          · right; rw [m2, e] at hfull; rw [e] at hroom; exact ⟨e, by omega⟩
          · exfalso; rw [m2, e] at hfull; omega
        have go : ∀ M, SetTable.sizeAbove (SetTable.grown (L.length + 1)) - 1 = M → MaskOk M → SetTable.sizeAbove (SetTable.grown (L.length + 1)) ≤ 128 → (L.length + 1) * 5 < M * 3 →
            wpAny (model P w) A (setRelay a (SetTable.grown (L.length + 1))) (fun _ s' => wpAny (model P w) A (pure true) Q E s') E { s with heap := h1 } := fun M h1' h2' h3' h4' => by
          refine relay_ok (s := { s with heap := h1 }) ho1 ⟨hex.1, hex.2.1, hex.2.2⟩ rfl hin T2 (by rw [hlen, m2]; rcases two with ⟨e, e2⟩ | ⟨e, e2⟩ <;> omega) nd1 tup1 ld1 (by rw [hlen]; exact hfew) h1' h2' h3' (by rw [hlen]; exact h4') ?_
          intro h2 L2 es2 ep2 t2' sb2 R2 pm2
          exact wpAny_pure (hQ true h2 L2 es2 ep2 t2' (sb.trans sb2) R2 (fun z => absurd z hm) fun _ => pm2.trans pm)
        rcases two with ⟨_, e2⟩ | ⟨_, e2⟩
        · exact go 31 (by rw [e2, size_20]) (.inr (.inl rfl)) (by rw [e2, size_20]; decide) (by omega)
        · exact go 127 (by rw [e2, size_76]) (.inr (.inr rfl)) (by rw [e2, size_76]; decide) (by omega)
      · first
          | refine wp_if_neg (by simp [hf]) ?_
          | (refine wpAny_bind ?_; refine wp_if_neg (by simp [hf]) ?_; refine wpAny_pure ?_)
        refine wpAny_pure (hQ true h1 L1 es1 (ep + 1) t2 sb ⟨⟨_, ho1, ⟨hex.1, hex.2.1, hex.2.2⟩, rfl⟩, hin, T2, nd1, tup1, ld1, ?_, by rw [hlen]; exact hfew⟩ (fun z => absurd z hm) fun _ => pm)
        have h := hf
        unfold SetTable.tooFull at h
        rw [decide_eq_true_eq, f2] at h
        rw [hlen]
        omega
    rw [List.length_map] at q9
    have both : ∀ b : Bool, wpAny (model P w) A (do
          storeSet a es1 (if b = true then t1 else { t1 with plain := false })
          if !false && (if b = true then t1 else { t1 with plain := false }).tooFull then setRelay a (SetTable.grown (es.size + 1))
          return true) Q E s := fun b => by
      refine main _ ?_ ?_ ?_ ?_
      · cases b
        · exact TabOk.flag q3 false
        · exact q3
      · cases b <;> exact q4
      · cases b <;> exact q5
      · cases b <;> exact q9
    cases hp1 : t1.plain with
    | true =>
      simp only [if_true]
      refine wpAny_bind (hashBy_key hx fun b => ?_)
      exact both b
    | false =>
      simp only [Bool.false_eq_true, if_false]
      refine wpAny_bind (wpAny_pure ?_)
      exact both true
/-- what is in the set of the first i tuples -/
structure GotK (ks : List (Addr × List Key)) (L : List (Addr × List Key)) : Prop where
  sub : ∀ p ∈ L, p ∈ ks
  all : ∀ p ∈ ks, p.2 ∈ L.map (·.2)
  len : L.length ≤ ks.length
theorem GotK.nil : GotK [] [] := ⟨(fun _ h => nomatch h), (fun _ h => nomatch h), Nat.le_refl _⟩
theorem GotK.step {ks L L' : List (Addr × List Key)} {x : Addr × List Key} (g : GotK ks L) (c1 : x.2 ∈ L.map (·.2) → L' = L) (c2 : x.2 ∉ L.map (·.2) → L'.Perm (x :: L)) : GotK (ks ++ [x]) L' := by
  by_cases c : x.2 ∈ L.map (·.2)
  · rw [c1 c]
    refine ⟨fun p hp => List.mem_append_left _ (g.sub p hp), fun p hp => ?_, by rw [List.length_append]; exact Nat.le_trans g.len (Nat.le_add_right _ _)⟩
    rcases List.mem_append.mp hp with z | z
    · exact g.all p z
    · rw [List.mem_singleton.mp z]; exact c
  · have pm := c2 c
    refine ⟨fun p hp => ?_, fun p hp => ?_, ?_⟩
    · rcases List.mem_cons.mp (pm.mem_iff.mp hp) with e | z
      · rw [e]; exact List.mem_append_right _ (List.mem_singleton.mpr rfl)
      · exact List.mem_append_left _ (g.sub p z)
    · rw [(pm.map (·.2)).mem_iff, List.map_cons]
      rcases List.mem_append.mp hp with z | z
      · exact List.mem_cons_of_mem _ (g.all p z)
      · rw [List.mem_singleton.mp z]; exact List.mem_cons_self
    · rw [pm.length_eq, List.length_cons, List.length_append]
      exact Nat.succ_le_succ g.len
theorem SetR.keep {h h' : Heap} (R : SetR P w h a L es ep t) (ha : ∀ o, h.get? a = some o → h'.get? a = some o) (ht : ∀ p ∈ L, TupK P w h' p.2 p.1) : SetR P w h' a L es ep t := by
  obtain ⟨o, ho, r⟩ := R.ob
  exact ⟨⟨o, ha o ho, r⟩, R.ents, R.tab, R.nd, ht, R.led, R.room, R.few⟩
abbrev newSetO (w : World) : Obj := { cls := .type "set", dict := none, data := .set #[] 0 (.fresh 0 0 (!w.params.followText "set-order")) }
theorem take_snoc {α : Type} {l : List α} {i : Nat} {x : α} (h : l[i]? = some x) : l.take (i + 1) = l.take i ++ [x] := by
  rw [List.take_succ, h] <;> rfl
end
end G
set_option maxHeartbeats 4000000
/-! Part Sg: set(xs), whatever the items are: the walk that fills the set is told by the caller. -/
namespace G
open PySem PySem.Spec PyProof.Rows L2
section
variable {P : Program} {w : World} {A : Around} {E : Value → Shared → Prop} {s : Shared}
theorem call_set_by {l : Addr} {ol io : Obj} {ty : String} {Fin : Shared → Prop} {Q : Value → Shared → Prop} (hol : s.heap.get? l = some ol) (hty : ol.cls = .type ty) (sub1 : isSubtype (.type ty) (.type "set") = pure false) (sub2 : isSubtype (.type ty) (.type "frozenset") = pure false)
    (ned : (Value.type ty == Value.type "dict") = false)
    (iter : ∀ (B : Around) (z : Shared) (E' : Value → Shared → Prop) (Q' : Value → Shared → Prop), z.heap.get? l = some ol → Q' (.ref z.heap.objs.size) { z with heap := z.heap.push io } → wpAny (model P w) B (pyIter (.ref l)) Q' E' z)
    (loop : ∀ R : Result → Shared → Prop, (∀ z, Fin z → R (.ok (.ret .none)) z) → codeAny (model P w) A.in1.in1 (.builtin "set.update.loop" ⟨[.ref s.heap.objs.size, .ref (s.heap.objs.size + 1)], []⟩) R { s with heap := (s.heap.push (newSetO w)).push io })
    (h : ∀ z, Fin z → Q (.ref s.heap.objs.size) z) :
    wpAny (model P w) A (call (.type "set") [.ref l]) Q E s := by
  obtain ⟨c, tl, hmro⟩ := F.called_set.mro
  have hmade := F.called_set.made
  have hsub := F.called_set.sub
  refine wpAny_call (codeAny_of_tree ?_)
  show wpAny _ _ (callAny (.type "set") _) _ _ _
  refine wpAny_pure ⟨Code.quiet_builtin _ (by decide +kernel), codeAny_builtin F.entry_type_call ?_⟩
  rw [Around.under_plain (weight_type_call_type "set" [.ref l] []) rfl]
  have h1 := F.called_set.notType
  have h2 := F.called_set.canCreate
  have hct := F.typeCall_set_1 (.ref l)
  repeat (any_goals (first | assumption | wp_step))
  refine codeAny_mono (code_set_led1 (.ref l) (E := E) (Q₁ := fun obj s₁ => obj = .ref s.heap.objs.size ∧ s₁ = { s with heap := s.heap.push (newSetO w) }) ⟨rfl, rfl⟩) fun r s₁ hr => ?_
  cases r with
  | error e => exact hr
  | ok fl =>
    cases fl with
    | ret obj =>
      obtain ⟨rfl, rfl⟩ := hr
      have hS : (s.heap.push (newSetO w)).get? s.heap.objs.size = some (newSetO w) := Heap.get?_push_size _ rfl
      have hT : Shared.TypeIs { s with heap := s.heap.push (newSetO w) } (.ref s.heap.objs.size) "set" := ⟨_, hS, rfl⟩
      have hli := F.called_set.init.lookup
      have hbi := F.called_set.init.bind (.ref s.heap.objs.size)
      repeat (any_goals (first | assumption | wp_step))
      refine codeAny_mono (codeAny_call_builtin (R := wants (fun r s₂ => r = .none ∧ Fin s₂) E) F.called_set.init.plain F.entry_set_init (check_set_init_1 hT ?_)) fun r₂ s₂ hr₂ => ?_
      · obtain ⟨ocls, odict, odata, oslots⟩ := ol
        simp only at hty
        subst hty
        have hol' : (s.heap.push (newSetO w)).get? l = some { cls := .type ty, dict := odict, data := odata, slots := oslots } := Heap.get?_push_of_some _ hol
        have hne := ned
        have hsls := sub1
        have hslf := sub2
        unfold Builtin.«set.__init__» noKeywords Builtin.Frozenset.updateFrom
        generalize hPI : pyIter = PI
        wp_walk
        subst hPI
        refine iter _ _ _ _ hol' ?_
        refine wpAny_bind (wpAny_runValue ?_)
        have hz1 : (s.heap.push (newSetO w)).objs.size = s.heap.objs.size + 1 := Heap.size_push ..
        show codeAny _ _ (.builtin "set.update.loop" ⟨[.ref s.heap.objs.size, .ref (s.heap.push (newSetO w)).objs.size], []⟩) _ _
        rw [hz1]
        refine loop _ fun z hz => ?_
        show wpAny _ _ _ _ _ _
        refine wpAny_pure ?_
        show wpAny _ _ (ret Value.none) _ _ _
        exact wpAny_pure ⟨rfl, hz⟩
      · cases r₂ with
        | error e => exact hr₂
        | ok fl₂ =>
          cases fl₂ with
          | ret r =>
            obtain ⟨rfl, hz⟩ := hr₂
            repeat (any_goals (first | assumption | wp_step))
            exact h _ hz
          | _ => exact hr₂.elim
    | _ => exact hr.elim
end
end G
set_option maxHeartbeats 4000000
/-! Part Sc: set(xs), sorted(set) for tuples of texts. -/
namespace G
open PySem PySem.Spec PyProof.Rows L2

section
variable {P : Program} {w : World} {A : Around} {E : Value → Shared → Prop} {s : Shared}
/-! ### sorted -/
def keyD : Key → PyData
  | .inl i => .int i
  | .inr x => .str x
abbrev tupD (k : List Key) : PyData := .tuple (k.map keyD)
/-- keys of one make: so many texts -/
def TxtK (d : Nat) (k : List Key) : Prop := ∃ xs : List Str, k = xs.map Sum.inr ∧ xs.length = d
abbrev leK (k k' : List Key) : Bool := PySem.W.dataLe false tupD k k'
end
end G
set_option maxHeartbeats 4000000
/-! Part Ht: len(set(xs)), xs a list or a tuple of texts, these the same or not. -/
namespace G
open PySem PySem.Spec PyProof.Rows L2
/-- the different ones among the first i texts -/
def metT (xs : List Str) (i : Nat) : List Str := (xs.take i).foldl (fun l x => if l.contains x then l else l ++ [x]) []
theorem metT_succ {xs : List Str} {i : Nat} (h : i < xs.length) : metT xs (i + 1) = if (metT xs i).contains xs[i] then metT xs i else metT xs i ++ [xs[i]] := by
  unfold metT
  rw [take_snoc (List.getElem?_eq_getElem h), List.foldl_append]
  rfl
theorem metT_facts {xs : List Str} : ∀ i, i ≤ xs.length → (∀ x, x ∈ metT xs i ↔ x ∈ xs.take i) ∧ (metT xs i).length ≤ i ∧ ((metT xs i).length = i ↔ (xs.take i).Nodup)
  | 0, _ => ⟨fun x => Iff.rfl, Nat.le_refl _, fun _ => List.nodup_nil, fun _ => rfl⟩
  | i + 1, hi => by
    have lt : i < xs.length := hi
    obtain ⟨h1, h2, h3⟩ := metT_facts (xs := xs) i (by omega)
    rw [metT_succ lt, take_snoc (List.getElem?_eq_getElem lt)]
    have nd : (xs.take i ++ [xs[i]]).Nodup ↔ (xs.take i).Nodup ∧ xs[i] ∉ xs.take i := by
      rw [List.nodup_append]
      constructor
      · rintro ⟨a, _, c⟩
        exact ⟨a, fun hm => c _ hm _ (List.mem_singleton.mpr rfl) rfl⟩
      · rintro ⟨a, b⟩
        refine ⟨a, by simp, fun x hx y hy z => b ?_⟩
        rw [List.mem_singleton] at hy
        rw [← hy, ← z]
        exact hx
    cases c : (metT xs i).contains xs[i] with
    | true =>
      rw [if_pos rfl]
      have m := List.contains_iff_mem.mp c
      refine ⟨fun x => ?_, by omega, fun e => by omega, fun e => absurd ((h1 _).mp m) (nd.mp e).2⟩
      rw [h1, List.mem_append, List.mem_singleton]
      exact ⟨.inl, fun z => z.elim id fun z => by rw [z]; exact (h1 _).mp m⟩
    | false =>
      rw [if_neg Bool.false_ne_true]
      have m : xs[i] ∉ metT xs i := fun m => by rw [List.contains_iff_mem.mpr m] at c; cases c
      refine ⟨fun x => by rw [List.mem_append, List.mem_append, h1], by rw [List.length_append, List.length_singleton]; omega, fun e => ?_, fun e => ?_⟩
      · rw [List.length_append, List.length_singleton] at e
        exact nd.mpr ⟨h3.mp (by omega), fun z => m ((h1 _).mpr z)⟩
      · rw [List.length_append, List.length_singleton, h3.mpr (nd.mp e).1]
section
variable {P : Program} {w : World} {A : Around} {E : Value → Shared → Prop} {s : Shared}
theorem loop_texts {R : Result → Shared → Prop} {I : Addr} {fp wr : List Addr} {Gn : Array GenState → Array GenState → Prop} {n : Nat} {Pv : Nat → Value → Prop} {St : Nat → Shared → Prop} (W : WalksS P w A.in1 I fp wr Gn n Pv St) (D : Addr) (far : D ∉ fp) (xs : List Str) (many : xs.length = n)
    (vals : ∀ i v, Pv i v → ∃ t, v = .str (xs.getD i Str.empty) t) (few : n + 1 < scanBound) :
    ∀ (k i : Nat) (z : Shared), n - i = k → i ≤ n → St i z → z.heap.SetOf (PySem.strKind P w) D (fun k' => (metT xs i).any (· == k')) (metT xs i).length →
      (∀ z', Moved (D :: wr) Gn z z' → z'.heap.SetOf (PySem.strKind P w) D (fun k' => (metT xs n).any (· == k')) (metT xs n).length → R (.ok (.ret .none)) z') →
      codeAny (model P w) A (.builtin "set.update.loop" ⟨[.ref D, .ref I], []⟩) R z := by
  have off : D ∉ wr := fun h => far (W.sub _ h)
  have more : ∀ b ∈ wr, b ∈ D :: wr := fun b hb => List.mem_cons_of_mem _ hb
  have stay : ∀ {i : Nat} {z z' : Shared}, Moved wr Gn z z' → z.heap.SetOf (PySem.strKind P w) D (fun k' => (metT xs i).any (· == k')) (metT xs i).length → z'.heap.SetOf (PySem.strKind P w) D (fun k' => (metT xs i).any (· == k')) (metT xs i).length := fun mv hS => by
    obtain ⟨o, es, ep, t, at_, rest⟩ := hS
    exact ⟨o, es, ep, t, mv.heap D _ off at_, rest⟩
  intro k
  induction k with
  | zero =>
    intro i z hk hi st hS done
    obtain rfl : i = n := by omega
    refine codeAny_builtin PyProof.Rows.F.entry_set_update_loop ?_
    rw [Around.under_plainId PyProof.Rows.F.plain_set_update_loop _]
    show wpAny _ A.in1 (pyNext (.ref I) >>= _) _ _ z
    exact wpAny_bind (W.done z _ _ st fun z' mv => wpAny_pure (done z' (mv.mono more) (stay mv hS)))
  | succ k ih =>
    intro i z hk hi st hS done
    have lt : i < n := by omega
    have lt2 : i < xs.length := by omega
    refine codeAny_builtin PyProof.Rows.F.entry_set_update_loop ?_
    rw [Around.under_plainId PyProof.Rows.F.plain_set_update_loop _]
    show wpAny _ A.in1 (pyNext (.ref I) >>= _) _ _ z
    refine wpAny_bind (W.item i z _ _ lt st fun v z' hv st' mv => ?_)
    obtain ⟨t, rfl⟩ := vals i v hv
    have hS' := stay mv hS
    obtain ⟨f1, f2, _⟩ := metT_facts (xs := xs) i (by omega)
    show wpAny _ A.in1 (holding [Value.str (xs.getD i Str.empty) t] (setAdd D (.str (xs.getD i Str.empty) t)) >>= _) _ _ z'
    refine wpAny_bind (wpAny_holding ?_)
    unfold setAdd
    refine wpAny_holding ?_
    refine wpAny_bind ((PySem.strKind P w).pyHash (k := xs.getD i Str.empty) (strKind_is _ _ _ _) ?_)
    refine wpAny_setAddHashed_of (knd := PySem.strKind P w) (s := { z' with toks := z'.toks + 1 }) (strKind_is _ _ _ _) rfl hS' (by omega) fun h' sb hS2 => ?_
    have eg : xs.getD i Str.empty = xs[i] := by rw [List.getD_eq_getElem?_getD, List.getElem?_eq_getElem lt2]; rfl
    rw [eg] at hS2
    have ec : (metT xs i).any (· == xs[i]) = (metT xs i).contains xs[i] := by
      rw [Bool.eq_iff_iff, List.any_eq_true, List.contains_iff_mem]
      exact ⟨fun ⟨y, a, b⟩ => by rw [← eq_of_beq b]; exact a, fun m => ⟨_, m, beq_self_eq_true _⟩⟩
    have hSi : h'.SetOf (PySem.strKind P w) D (fun k' => (metT xs (i + 1)).any (· == k')) (metT xs (i + 1)).length := by
      refine SetOf_congr hS2 (fun k' => ?_) ?_
      · show ((metT xs i).any (· == k') || decide (k' = xs[i])) = _
        rw [metT_succ lt2, ← ec]
        cases c : (metT xs i).any (· == xs[i]) with
        | true =>
          rw [if_pos rfl]
          by_cases e : k' = xs[i]
          · rw [e, c, decide_eq_true rfl]
            rfl
          · rw [decide_eq_false e, Bool.or_false]
        | false =>
          rw [if_neg Bool.false_ne_true, List.any_append]
          congr 1
          show decide (k' = xs[i]) = ((xs[i] == k') || false)
          rw [Bool.or_false, Bool.eq_iff_iff, decide_eq_true_eq, beq_iff_eq]
          exact eq_comm
      · show (if (metT xs i).any (· == xs[i]) then (metT xs i).length else (metT xs i).length + 1) = _
        rw [metT_succ lt2, ← ec]
        cases (metT xs i).any (· == xs[i]) with
        | true => rfl
        | false => rw [if_neg Bool.false_ne_true, if_neg Bool.false_ne_true, List.length_append] <;> rfl
    refine wpAny_pure ⟨plainId_quiet PyProof.Rows.F.plain_set_update_loop _, ih (i + 1) _ (by omega) lt (W.frame _ z' _ _ st' (Nat.le_succ _) fun b hb o e => (sb.2 b (fun h : b = D => far (by rw [← h]; exact hb))).trans e) hSi fun z'' mv' hS'' => ?_⟩
    exact done z'' (Moved.trans W.gtrans ((mv.mono more).then_heap (Nat.le_succ _) fun b o hb e => (sb.2 b (fun h : b = D => hb (by rw [h]; exact List.mem_cons_self))).trans e) mv') hS''
/-- set(xs), xs a tuple of texts -/
theorem call_setTS {l : Addr} {items : Array Value} {xs : List Str} {Q : Value → Shared → Prop} (hh : A.handled = none) (hl : s.heap.IsTuple l items) (hi : PyProof.Rows.StrsAre items.toList xs) (hb : items.size + 1 < scanBound)
    (h : ∀ (h' : Heap) (tk : Nat), h'.SetOf (PySem.strKind P w) s.heap.objs.size (fun k' => (metT xs items.size).any (· == k')) (metT xs items.size).length →
      (∀ b o, b < s.heap.objs.size → s.heap.get? b = some o → h'.get? b = some o) → Q (.ref s.heap.objs.size) { s with heap := h', toks := tk }) :
    wpAny (model P w) A (call (.type "set") [.ref l]) Q E s := by
  have hsz : xs.length = items.size := by have := StrsAre.length hi; rw [Array.length_toList] at this; exact this.symm
  obtain ⟨ol, hol, hcl, nl, hdl⟩ := hl
  have hlS : l < s.heap.objs.size := Heap.lt_size hol
  have hz1 : (s.heap.push (newSetO w)).objs.size = s.heap.objs.size + 1 := Heap.size_push ..
  refine call_set_by (io := { cls := .type "tuple_iterator", data := .fields #[.ref l, .int 0 0] }) (Fin := fun z => ∃ (h' : Heap) (tk : Nat), z = { s with heap := h', toks := tk } ∧ h'.SetOf (PySem.strKind P w) s.heap.objs.size (fun k' => (metT xs items.size).any (· == k')) (metT xs items.size).length ∧
      ∀ b o, b < s.heap.objs.size → s.heap.get? b = some o → h'.get? b = some o)
    hol hcl PySem.F.sub_tuple_set PySem.F.sub_tuple_frozenset (by decide) (fun B z E' Q' e q => wpAny_pyIter_tuple ⟨ol, e, hcl, nl, hdl⟩ q) (fun R fin => ?_) fun z ⟨h', tk, e, S, kp⟩ => ?_
  · have hh3 : A.in1.in1.in1.handled = none := by simp [hh]
    have hl1 : (s.heap.push (newSetO w)).IsTuple l items := ⟨ol, Heap.get?_push_of_some _ hol, hcl, nl, hdl⟩
    have hneI : l ≠ s.heap.objs.size + 1 := Nat.ne_of_lt (Nat.lt_succ_of_lt hlS)
    have hSf : s.heap.objs.size ∉ [s.heap.objs.size + 1, l] := by
      simp only [List.mem_cons, List.not_mem_nil, or_false, not_or]
      exact ⟨Nat.ne_of_lt (Nat.lt_succ_self _), Nat.ne_of_gt hlS⟩
    refine loop_texts ((Walks.tuple hh3 _ l hneI items).toS) s.heap.objs.size hSf xs hsz (fun i v hv => SS.strs_at hi i v (by rw [Array.getElem?_toList]; exact hv)) hb (items.size - 0) 0 _ (by omega) (Nat.zero_le _)
      ⟨⟨_, by rw [← hz1]; exact Heap.get?_push_size _ rfl, rfl, rfl⟩, (hl1.push _)⟩ (SetOf_congr ((setObjOf_fresh (knd := PySem.strKind P w) (!w.params.followText "set-order")).setOf (Heap.get?_push_of_some _ (Heap.get?_push_size _ rfl)) (by unfold scanBound; omega)) (fun _ => rfl) rfl) ?_
    intro s' hm hS'
    obtain ⟨h', g', d', tk', os'⟩ := s'
    have eg : g' = s.gens := hm.gens
    have ed : d' = s.drawn := hm.drawn
    have eo : os' = s.os := hm.os
    subst eg; subst ed; subst eo
    refine fin _ ⟨h', tk', rfl, hS', fun b o hb e => hm.heap b o ?_ (Heap.get?_push_of_some _ (Heap.get?_push_of_some _ e))⟩
    simp only [List.mem_cons, List.not_mem_nil, or_false, not_or]
    exact ⟨Nat.ne_of_lt hb, Nat.ne_of_lt (Nat.lt_succ_of_lt hb)⟩
  · rw [e]
    exact h _ _ S kp
/-- set(xs), xs a list of texts -/
theorem call_setLS {l : Addr} {items : Array Value} {xs : List Str} {Q : Value → Shared → Prop} (hh : A.handled = none) (hl : s.heap.IsList l items) (hi : PyProof.Rows.StrsAre items.toList xs) (hb : items.size + 1 < scanBound)
    (h : ∀ (h' : Heap) (tk : Nat), h'.SetOf (PySem.strKind P w) s.heap.objs.size (fun k' => (metT xs items.size).any (· == k')) (metT xs items.size).length →
      (∀ b o, b < s.heap.objs.size → s.heap.get? b = some o → h'.get? b = some o) → Q (.ref s.heap.objs.size) { s with heap := h', toks := tk }) :
    wpAny (model P w) A (call (.type "set") [.ref l]) Q E s := by
  have hsz : xs.length = items.size := by have := StrsAre.length hi; rw [Array.length_toList] at this; exact this.symm
  obtain ⟨ol, hol, hcl, nl, hdl⟩ := hl
  have hlS : l < s.heap.objs.size := Heap.lt_size hol
  have hz1 : (s.heap.push (newSetO w)).objs.size = s.heap.objs.size + 1 := Heap.size_push ..
  refine call_set_by (io := { cls := .type "list_iterator", data := .fields #[.ref l, .int 0 0] }) (Fin := fun z => ∃ (h' : Heap) (tk : Nat), z = { s with heap := h', toks := tk } ∧ h'.SetOf (PySem.strKind P w) s.heap.objs.size (fun k' => (metT xs items.size).any (· == k')) (metT xs items.size).length ∧
      ∀ b o, b < s.heap.objs.size → s.heap.get? b = some o → h'.get? b = some o)
    hol hcl F.sub_list_set F.sub_list_frozenset (by decide) (fun B z E' Q' e q => wpAny_pyIter_list ⟨ol, e, hcl, nl, hdl⟩ q) (fun R fin => ?_) fun z ⟨h', tk, e, S, kp⟩ => ?_
  · have hh3 : A.in1.in1.in1.handled = none := by simp [hh]
    have hl1 : (s.heap.push (newSetO w)).IsList l items := ⟨ol, Heap.get?_push_of_some _ hol, hcl, nl, hdl⟩
    have hneI : l ≠ s.heap.objs.size + 1 := Nat.ne_of_lt (Nat.lt_succ_of_lt hlS)
    have hSf : s.heap.objs.size ∉ [s.heap.objs.size + 1, l] := by
      simp only [List.mem_cons, List.not_mem_nil, or_false, not_or]
      exact ⟨Nat.ne_of_lt (Nat.lt_succ_self _), Nat.ne_of_gt hlS⟩
    refine loop_texts ((Walks.list hh3 _ l hneI items).toS) s.heap.objs.size hSf xs hsz (fun i v hv => SS.strs_at hi i v (by rw [Array.getElem?_toList]; exact hv)) hb (items.size - 0) 0 _ (by omega) (Nat.zero_le _)
      ⟨⟨_, by rw [← hz1]; exact Heap.get?_push_size _ rfl, rfl, rfl⟩, (hl1.push _)⟩ (SetOf_congr ((setObjOf_fresh (knd := PySem.strKind P w) (!w.params.followText "set-order")).setOf (Heap.get?_push_of_some _ (Heap.get?_push_size _ rfl)) (by unfold scanBound; omega)) (fun _ => rfl) rfl) ?_
    intro s' hm hS'
    obtain ⟨h', g', d', tk', os'⟩ := s'
    have eg : g' = s.gens := hm.gens
    have ed : d' = s.drawn := hm.drawn
    have eo : os' = s.os := hm.os
    subst eg; subst ed; subst eo
    refine fin _ ⟨h', tk', rfl, hS', fun b o hb e => hm.heap b o ?_ (Heap.get?_push_of_some _ (Heap.get?_push_of_some _ e))⟩
    simp only [List.mem_cons, List.not_mem_nil, or_false, not_or]
    exact ⟨Nat.ne_of_lt hb, Nat.ne_of_lt (Nat.lt_succ_of_lt hb)⟩
  · rw [e]
    exact h _ _ S kp
end
/-- len(set(e)), e texts -/
def tLenSetS (K : PySem.W.Frag) (ta : TE) : TE := fun σ H Q => ta σ H fun x H1 => ∃ (l : Addr) (xs : List Str), x = .ref l ∧ (SqL K H1 l (xs.map V.str) ∨ SqT K H1 l (xs.map V.str)) ∧ xs.length ≤ 4000 ∧ ∀ n : Nat, n ≤ xs.length → (n = xs.length ↔ xs.Nodup) → Q (.int (n : Nat)) H1
theorem vals_texts : ∀ {xs : List Str} {us : List Value}, Vals (xs.map V.str) us → PyProof.Rows.StrsAre us xs
  | [], _, .nil => .nil
  | x :: xs, _, .cons r t => by
    obtain ⟨z, rfl⟩ := r
    exact .cons x z (vals_texts t)
theorem pe_lenSetS {X : Cx} {K : PySem.W.Frag} {a : Expr} {ta : TE} {p p2 q pos : Pos} (hK : X.K = K) (hc : X.calm = true) (hg : Gl X "len") (hm : X.mg "len" = none) (hg2 : Gl X "set") (hm2 : X.mg "set" = none) (ha : PE X a ta)
    (na : starEach [a] X.env = (false, eval a X.env) :: starEach [] X.env := by rfl) : PE X (.Call (.Name "len" p) [.Call (.Name "set" p2) [a] [] q] [] pos) (tLenSetS K ta) := by
  subst hK
  constructor
  intro pins s σ H Q I h
  refine Call_ (ld_blt I hg hm boot_len ?_)
  refine callWith_builtin1 (args_cons ?_ rfl) rfl rfl
  refine Call_ (ld_blt I hg2 hm2 boot_set ?_)
  refine callWith_type1 (args_cons (thn (ha.run pins s σ H _ I h) ?_) na) na rfl
  rintro v s1 ⟨x, H1, I1, r1, l, xs, rfl, hq, hl, q1⟩
  refine args_nil ?_
  cases r1
  obtain ⟨_, f1, f2⟩ := metT_facts (xs := xs) xs.length (Nat.le_refl _)
  rw [List.take_length] at f2
  have fin : ∀ (its : List Value), Vals (xs.map V.str) its → ∀ (h' : Heap) (tk : Nat), h'.SetOf (PySem.strKind X.prog X.w) s1.heap.objs.size (fun k' => (metT xs its.toArray.size).any (· == k')) (metT xs its.toArray.size).length →
      (∀ b o, b < s1.heap.objs.size → s1.heap.get? b = some o → h'.get? b = some o) →
      wpAny (model X.prog X.w) X.A (spliced (backTo pos (starEach [] X.env))) (fun vs s₂ => wpAny (model X.prog X.w) X.A (call (.builtin "len") (Value.ref s1.heap.objs.size :: vs)) (EP X pins σ Q) X.xe s₂) X.xe { s1 with heap := h', toks := tk } := by
    intro its r h' tk hS hk
    refine args_nil ?_
    have hlen : its.toArray.size = xs.length := by rw [List.size_toArray, ← r.length, List.length_map]
    rw [hlen] at hS
    obtain ⟨o, es, ep, t, ho, hex, hd, _, _, _, hf, hn⟩ := hS
    have I2 : Inv X pins σ H1 { s1 with heap := h', toks := tk } := I1.kept fun b o e => hk b o (Heap.lt_size e) e
    exact call_len_set ho hex hd hf (by rw [hn]; omega) ⟨.int (es.size : Nat), H1, I2.tok _, ⟨_, rfl⟩, by rw [hn]; exact q1 _ f1 f2⟩
  rcases hq with hq | hq
  · obtain ⟨its, r, pl, hz⟩ := I1.list hq
    have hlen : its.toArray.size = xs.length := by rw [List.size_toArray, ← r.length, List.length_map]
    exact call_setLS (I1.ok.hd hc) pl.isList (by simpa using vals_texts r) (by rw [hlen]; unfold scanBound; omega) fun h' tk hS hk => fin its r h' tk hS hk
  · obtain ⟨its, r, pl, hz⟩ := I1.tuple hq
    have hlen : its.toArray.size = xs.length := by rw [List.size_toArray, ← r.length, List.length_map]
    exact call_setTS (I1.ok.hd hc) pl (by simpa using vals_texts r) (by rw [hlen]; unfold scanBound; omega) fun h' tk hS hk => fin its r h' tk hS hk
section
variable {K : PySem.W.Frag} {σ : L2.St} {H : Hp} {Q : VK} {ta : TE}
theorem x_lenSS (h : ta σ H fun x H1 => ∃ (l : Addr) (xs : List Str), x = .ref l ∧ (SqL K H1 l (xs.map V.str) ∨ SqT K H1 l (xs.map V.str)) ∧ xs.length ≤ 4000 ∧ ∀ n : Nat, n ≤ xs.length → (n = xs.length ↔ xs.Nodup) → Q (.int (n : Nat)) H1) : tLenSetS K ta σ H Q := h
end
end G
set_option maxHeartbeats 4000000
/-! Part Hs: len(set(xs)), xs a list or a tuple of ints, these the same or not. -/
namespace G
open PySem PySem.Spec PyProof.Rows L2
section
variable {P : Program} {w : World} {A : Around} {E : Value → Shared → Prop} {s : Shared}
end
/-- len(set(e)) -/
def tLenSetN (K : PySem.W.Frag) (ta : TE) : TE := fun σ H Q => ta σ H fun x H1 => ∃ (l : Addr) (ns : List Int), x = .ref l ∧ (SqL K H1 l (ns.map V.int) ∨ SqT K H1 l (ns.map V.int)) ∧ ns.length ≤ 4000 ∧ ∀ n : Nat, n ≤ ns.length → (n = ns.length ↔ ns.Nodup) → Q (.int (n : Nat)) H1
section
variable {K : PySem.W.Frag} {σ : L2.St} {H : Hp} {Q : VK} {ta : TE}
theorem x_lenS (h : ta σ H fun x H1 => ∃ (l : Addr) (ns : List Int), x = .ref l ∧ (SqL K H1 l (ns.map V.int) ∨ SqT K H1 l (ns.map V.int)) ∧ ns.length ≤ 4000 ∧ ∀ n : Nat, n ≤ ns.length → (n = ns.length ↔ ns.Nodup) → Q (.int (n : Nat)) H1) : tLenSetN K ta σ H Q := h
end
end G
set_option maxHeartbeats 4000000
/-! Part G: comprehensions of several clauses, whatever they make. -/
namespace G
open PySem PySem.Spec PyProof.Rows L2

/-- one turn of the loop of a clause: what is done with an item that the tests let through is body -/
def TurnIs (e : Expr) (c : Nat) (t : Expr) (ifs : List Expr) (p : Pos) (body : Sem Unit) (acc : Value) (env : Env) : Prop := ∀ it : Value, compTurn e c it acc env = (do
  standAt p
  match ← pyNext it with
  | none => pure (.done .next)
  | some v =>
    letOwnedTupleGo t it v
    assign t env v
    let mut ok := true
    for c in ifs do
      if ok then ok ← isTrue c env (eval c env)
    if ok then body
    again (.compLoop e c it acc env))
/-- the next clause, begun: what the body of all clauses but the last one is -/
def nextClause (e : Expr) (c : Nat) (iter : Expr) (acc : Value) (env : Env) : Sem Unit := do
  let x ← eval iter env
  standAt iter.pos
  let x ← foldedSetIterable iter env x
  let _ ← runOwn (.compStart e c (← holding [x] (pyIter x)) acc env) env
/-- the loops of e are no frames of their own -/
structure CompE (e : Expr) : Prop where
  loopD : ∀ (P : Program) (w : World) (c : Nat) (it acc : Value) (env : Env), (model P w).den (.compLoop e c it acc env) = (compTurn e c it acc env).onRaise (fun x => do noteFrame x env; theTreesLotGoes x)
  startD : ∀ (P : Program) (w : World) (c : Nat) (it acc : Value) (env : Env), (model P w).den (.compStart e c it acc env) = (compStart e c it acc env).onRaise (fun x => do noteFrame x env; standAt theWindowsPlace)
  loopU : ∀ (A : Around) (c : Nat) (it acc : Value) (env : Env), A.under (.compLoop e c it acc env) = A
  startU : ∀ (A : Around) (c : Nat) (it acc : Value) (env : Env), A.under (.compStart e c it acc env) = A
theorem compE_list {elt : Expr} {gs : List Comprehension} {sc : Scope} {p : Pos} : CompE (.ListComp elt gs sc p) := ⟨fun _ _ _ _ _ _ => rfl, fun _ _ _ _ _ _ => rfl, fun _ _ _ _ _ => rfl, fun _ _ _ _ _ => rfl⟩
section
variable {prog : Program} {w : World} {A : Around} {R : Result → Shared → Prop} {s : Shared} {e : Expr} {c : Nat} {t : Expr} {ifs : List Expr} {p : Pos} {body : Sem Unit} {it acc : Value} {env : Env}
theorem loopG (ce : CompE e) (heq : TurnIs e c t ifs p body acc env) (I : Nat → Shared → Prop)
    (turn : ∀ n s, I n s → wpAny (model prog w) A (pyNext it) (fun r s₁ => match r with
      | none => R (.ok .next) s₁
      | some v => wpAny (model prog w) A (letOwnedTupleGo t it v) (fun _ s₁' => wpAny (model prog w) A (assign t env v) (fun _ s₂ =>
          wpAny (model prog w) A (forIn ifs true fun c r => if r = true then do let ok ← isTrue c env (eval c env); pure (ForInStep.yield ok) else pure (ForInStep.yield r)) (fun ok s₃ =>
            if ok = true then wpAny (model prog w) A body (fun _ s₄ => ∃ m, m < n ∧ I m s₄) (notedBy (model prog w) A env fun e s' => R (.error e) s') s₃
            else ∃ m, m < n ∧ I m s₃) (notedBy (model prog w) A env fun e s' => R (.error e) s') s₂) (notedBy (model prog w) A env fun e s' => R (.error e) s') s₁') (notedBy (model prog w) A env fun e s' => R (.error e) s') s₁) (notedBy (model prog w) A env fun e s' => R (.error e) s') s)
    (n : Nat) (h : I n s) : codeAny (model prog w) A (.compLoop e c it acc env) R s := by
  refine codeAny_loop rfl I (fun n s hI => ?_) n h
  rw [ce.loopU, ce.loopD]
  refine wpAny_noted ?_
  rw [heq it]
  refine wpAny_bind (wpAny_standAt (wpAny_bind (wpAny_mono (turn n s hI) (fun r s₁ h₁ => ?_) fun _ _ h' => h')))
  cases r with
  | none => exact wpAny_pure h₁
  | some v =>
    refine wpAny_bind (wpAny_mono h₁ (fun _ s₁' h₁' => ?_) fun _ _ h' => h')
    refine wpAny_bind (wpAny_mono h₁' (fun _ s₂ h₂ => wpAny_bind (wpAny_mono h₂ (fun ok s₃ h₃ => ?_) fun _ _ h' => h')) fun _ _ h' => h')
    cases ok with
    | false => exact wpAny_pure ⟨rfl, h₃⟩
    | true => exact wpAny_bind (wpAny_mono h₃ (fun _ s₄ h₄ => wpAny_pure ⟨rfl, h₄⟩) fun _ _ h' => h')
theorem startG (ce : CompE e) {tg iter : Expr} {fs : List Expr} (hg : (clausesOf e)[c]? = some ⟨tg, iter, fs, 0⟩) (h0 : codeAny (model prog w) A (.compLoop e c it acc env) R s)
    (h : wpAny (model prog w) A (pyIter it) (fun it' s' => codeAny (model prog w) A (.compLoop e c it' acc env) R s') (notedBy (model prog w) A env fun x s' => R (.error x) s') s) :
    codeAny (model prog w) A (.compStart e c it acc env) R s := by
  refine codeAny_of_tree ?_
  rw [ce.startU, ce.startD]
  refine wpAny_notedAt ?_
  unfold compStart
  rw [hg]
  show wpAny _ _ (ask >>= _) _ _ s
  refine wpAny_bind (wpAny_askSetting (wpAny_ite ?_))
  split
  · first
      | exact wpAny_bind (wpAny_pure (wpAny_pure (And.intro rfl h0)))
      | exact wpAny_pure (And.intro rfl h0)
  · first
      | exact wpAny_bind (wpAny_rule (wpAny_bind (wpAny_standAt (wpAny_bind (wpAny_mono h (fun it' s' h' => wpAny_pure (And.intro rfl h')) fun _ _ x => x)))))
      | (refine wpAny_bind (wpAny_rule ?_); show wpAny _ _ (standAt iter.pos >>= _) _ _ s; exact wpAny_bind (wpAny_standAt (wpAny_bind (wpAny_mono h (fun it' s' h' => wpAny_pure (And.intro rfl h')) fun _ _ x => x))))
end
theorem thnX {α : Type} {t : Sem α} {Q Q' : α → Shared → Prop} {M : Model} {A : Around} {E Ex : Value → Shared → Prop} {s : Shared} (hx : Ex = fun _ _ => False) (h : wpAny M A t Q Ex s) (hQ : ∀ a s, Q a s → Q' a s) : wpAny M A t Q' E s :=
  wpAny_mono h hQ fun _ _ z => by rw [hx] at z; exact z.elim
theorem wipe_sub {σ : L2.St} {vs vs1 : List Nat} (h : ∀ i ∈ vs, i ∈ vs1) {j : Nat} {v : V} (e : (wipe σ vs1)[j]? = some (some v)) : (wipe σ vs)[j]? = some (some v) := by
  obtain ⟨e1, e2⟩ := wipe_some e
  rw [wipe_out fun z => e2 (h j z)]
  exact e1
section
variable {X : Cx}
/-- body does what tb says, and stores at the slots vs at most -/
def BodyOk (X : Cx) (body : Sem Unit) (vs : List Nat) (tb : L2.St → Hp → (Hp → Prop) → Prop) : Prop :=
  ∀ (pins : List (Addr × Obj)) (s : Shared) (σ : L2.St) (H : Hp) (Nx : Hp → Prop), Inv X pins σ H s → tb σ H Nx → wpAny (model X.prog X.w) X.A body (fun _ s' => ∃ H', Inv X pins (wipe σ vs) H' s' ∧ Nx H') (fun _ _ => False) s
/-- a clause's own loop, from which Nx is reached -/
def tIn (wi : TI) (g : TG) (tt : TT) (tb : L2.St → Hp → (Hp → Prop) → Prop) (vs : List Nat) : L2.St → Hp → (Hp → Prop) → Prop := fun σ H Nx => wi σ H fun J H4 => ∃ W1 : Nat → Nat → Hp → Prop, (∃ m, W1 0 m H4) ∧ ∀ j k H, W1 j k H →
  (J.stop j H ∧ Nx H) ∨ (J.go j H ∧ ∃ Nx1 : Hp → Prop, (∀ H', Nx1 H' → ∃ k', k' < k ∧ W1 (j + 1) k' H') ∧ ∀ x H', J.yld j H x H' → g x (wipe σ vs) H' fun σ3 H5 => wipe σ3 vs = wipe σ vs ∧ tt σ3 H5 fun b H6 =>
    if b = true then tb σ3 H6 Nx1 else Nx1 H6)
/-- a further clause as the body of the one before it -/
theorem body_next (hc : X.calm = true) (hx : X.xe = fun _ _ => False) {e : Expr} (ce : CompE e) {c : Nat} {acc : Value} {tg iter : Expr} {ifs : List Expr} {p : Pos} {body : Sem Unit} {vs vs1 : List Nat} {wi : TI} {g : TG} {tt : TT} {tb : L2.St → Hp → (Hp → Prop) → Prop}
    (heq : TurnIs e c tg ifs p body acc X.env) (hcl : (clausesOf e)[c]? = some ⟨tg, iter, ifs, 0⟩) (hi : PI X tg iter wi) (hg : PG X tg g) (ht : PTs X ifs tt) (hb : BodyOk X body vs tb) (hs : ∀ env x, foldedSetIterable iter env x = pure x) (hvs : ∀ i ∈ vs, i ∈ vs1) :
    BodyOk X (nextClause e c iter acc X.env) vs1 (tIn wi g tt tb vs1) := by
  intro pins s σ H Nx I h
  unfold nextClause
  unfold tIn at h
  refine wpAny_bind (thnX hx (hi.run pins s σ H _ I h) fun xv s10 hx2 => ?_)
  refine wpAny_bind (wpAny_standAt (wpAny_bind (wpAny_of_eq (hs X.env xv) (wpAny_bind (wpAny_holding (thnX hx hx2 fun itv s11 h11 => ?_))))))
  obtain ⟨it1, fp1, tn1, J1, H11, rfl, I11, T1, st11, f11, W1, ⟨m1, w1⟩, turn1⟩ := h11
  refine wpAny_bind (wpAny_runOwn ?_)
  rw [Around.mark_none]
  have stat1 : ∀ {H' : Hp}, (∀ b ∈ fp1, H' b = none) → ∀ b ∈ fp1, FpOk X pins H' b := fun hn b hb => ⟨hn b hb, (f11 b hb).2⟩
  have loop1 : codeAny (model X.prog X.w) X.A (.compLoop e c (.ref it1) acc X.env)
      (fun r s' => match r with
        | .ok _ => ∃ H', Inv X pins (wipe σ vs1) H' s' ∧ Nx H'
        | .error _ => False) s11 := by
    refine loopG ce heq (fun k s' => ∃ j H', Inv X pins (wipe σ vs1) H' s' ∧ tn1 j s'.heap ∧ (∀ b ∈ fp1, H' b = none) ∧ W1 j k H') ?_ m1 ⟨0, H11, I11.weak (wipe_length _ _) (fun j v e => (wipe_some e).1), st11, fun b hb => (f11 b hb).1, w1⟩
    rintro k s12 ⟨j, H12, I12, st12, n12, w12⟩
    rcases turn1 j k H12 w12 with ⟨stop1, nx1⟩ | ⟨go1, Nx1, hNx1, step1⟩
    · refine thnF (T1.done X rfl rfl rfl hc j _ s12 (wipe σ vs1) H12 (fun _ _ => False) I12 (stat1 n12) st12 stop1) fun r s13 ⟨hr, I13⟩ => ?_
      subst hr
      exact ⟨H12, I13, nx1⟩
    · refine thnF (T1.item X rfl rfl rfl hc j _ s12 (wipe σ vs1) H12 (fun _ _ => False) I12 (stat1 n12) st12 go1) fun r s13 ⟨u1, hr, h13⟩ => ?_
      subst hr
      refine thnF h13 fun _ s14 ⟨x1, H14, I14, r14, y14, st14, n14⟩ => ?_
      have I14' := I14.pinned (stat1 n14) (T1.obj _ _ st14)
      refine thnX hx (hg.run _ s14 (wipe σ vs1) H14 x1 u1 _ I14' r14 (step1 x1 H14 y14)) fun _ s15 ⟨σ15, H15, I15, hw15, q15⟩ => ?_
      refine thnX hx (ht.run _ s15 σ15 H15 _ I15 q15) fun b1 s16 ⟨H16, I16, q16⟩ => ?_
      have fin1 : ∀ {σ' : L2.St} {s' : Shared} {H' : Hp}, Inv X (pins ++ pinsAt fp1 s14.heap) σ' H' s' → (wipe σ vs1).length = σ'.length → (∀ (j : Nat) v, (wipe σ vs1)[j]? = some (some v) → σ'[j]? = some (some v)) → Nx1 H' →
          ∃ m, m < k ∧ ∃ j H', Inv X pins (wipe σ vs1) H' s' ∧ tn1 j s'.heap ∧ (∀ b ∈ fp1, H' b = none) ∧ W1 j m H' := fun {σ' s' H'} I' hl hk nx => by
        obtain ⟨m', hm, w'⟩ := hNx1 H' nx
        have pin' : ∀ b ∈ fp1, ∀ o, s14.heap.get? b = some o → s'.heap.get? b = some o ∧ H' b = none := fun b hb o e =>
          let z := I'.pin (b, o) (List.mem_append_right _ (List.mem_append_right _ (mem_pinsAt hb e)))
          ⟨z.1, z.2.1⟩
        refine ⟨m', hm, j + 1, H', I'.unpinned.weak hl hk, T1.keep _ _ _ st14 fun b hb o e => (pin' b hb o e).1, fun b hb => ?_, w'⟩
        obtain ⟨o, e, _⟩ := T1.obj _ _ st14 b hb
        exact (pin' b hb o e).2
      cases b1 with
      | false =>
        simp only [Bool.false_eq_true, if_false] at q16 ⊢
        exact fin1 I16 (by rw [← hw15, wipe_length]) (fun j v e => by rw [← hw15] at e; exact (wipe_some e).1) q16
      | true =>
        simp only [if_true] at q16 ⊢
        refine thnF (hb _ s16 σ15 H16 _ I16 q16) fun _ s17 ⟨H17, I17, nx⟩ => ?_
        exact fin1 I17 (by rw [← hw15, wipe_length, wipe_length]) (fun j v e => by rw [← hw15] at e; exact wipe_sub hvs e) nx
  refine codeAny_mono (startG ce hcl loop1 (T1.self X.A 0 _ _ _ st11 loop1)) fun r s' hr => ?_
  cases r with
  | ok f =>
    first
      | exact wpAny_pure hr
      | exact wpAny_bind (wpAny_pure (wpAny_pure hr))
  | error e => exact hr.elim
end
end G
set_option maxHeartbeats 4000000
/-! Part Ga: a comprehension's value; what the last clause does: dicts with tuple keys, sets of tuples. -/
namespace G
open PySem PySem.Spec PyProof.Rows L2
section
variable {X : Cx}
/-- the whole comprehension; the new thing at D is u0 D at the start -/
def tComp (wi : TI) (g : TG) (tt : TT) (u0 : Addr → HO) (tb : Addr → L2.St → Hp → (Hp → Prop) → Prop) (vs : List Nat) : TE := fun σ H Q => wi σ H fun J H1 => ∀ D, H1 D = none → ∃ W : Nat → Nat → Hp → Prop, (∃ m, W 0 m (upd H1 D (u0 D))) ∧ ∀ i m H, W i m H →
  (J.stop i H ∧ Q (.ref D) H) ∨ (J.go i H ∧ ∃ Nx : Hp → Prop, (∀ H', Nx H' → ∃ m', m' < m ∧ W (i + 1) m' H') ∧ ∀ x H', J.yld i H x H' → g x (wipe σ vs) H' fun σ2 H2 => wipe σ2 vs = wipe σ vs ∧ tt σ2 H2 fun b H3 =>
    if b = true then tb D σ2 H3 Nx else Nx H3)
theorem comp_core {pins : List (Addr × Obj)} {s : Shared} {σ : L2.St} {H : Hp} {Q : VK} {e tg iter : Expr} {ifs : List Expr} {gs : List Comprehension} {scope : Scope} {own : List (Str × Nat)} {p pos' : Pos} {wi : TI} {g : TG} {tt : TT} {use : Option (Value → Sem Unit)} {Qf : Value → Shared → Prop}
    {mk : Sem Value} {o0 : Obj} {u0 : Addr → HO} {body : Addr → Env → Sem Unit} {vb : List Nat} {tb : Addr → L2.St → Hp → (Hp → Prop) → Prop} (ce : CompE e) (hcl : clausesOf e = ⟨tg, iter, ifs, 0⟩ :: gs)
    (hmk : ∀ (Q' : Value → Shared → Prop) (E : Value → Shared → Prop) (s : Shared), Q' (.ref s.heap.objs.size) { s with heap := s.heap.push o0 } → wpAny (model X.prog X.w) X.A mk Q' E s)
    (hok : ∀ (pins : List (Addr × Obj)) (σ : L2.St) (H : Hp) (s : Shared), Inv X pins σ H s → ObjOk X.prog X.w (upd H s.heap.objs.size (u0 s.heap.objs.size)) (s.heap.push o0) s.heap.objs.size (u0 s.heap.objs.size))
    (heq : ∀ (D : Addr) (env : Env), TurnIs e 0 tg ifs p (body D env) (.ref D) env)
    (hc : X.calm = true) (hN : X.N.Nodup) (I : Inv X pins σ H s) (hi : PI X tg iter wi) (ok : BlkOk X.N X.env.scope scope own)
    (hg : ∀ (s : Shared) (H : Hp) (C : Addr) (cl : List (Str × Addr)) (fp : List Addr), PG (X.blk s H scope (compEnvC scope cl C X.env) fp) tg g) (ht : ∀ (s : Shared) (H : Hp) (C : Addr) (cl : List (Str × Addr)) (fp : List Addr), PTs (X.blk s H scope (compEnvC scope cl C X.env) fp) ifs tt)
    (hb : ∀ (s : Shared) (H : Hp) (C : Addr) (cl : List (Str × Addr)) (fp : List Addr) (D : Addr), BodyOk (X.blk s H scope (compEnvC scope cl C X.env) fp) (body D (compEnvC scope cl C X.env)) vb (tb D)) (hvb : ∀ i ∈ vb, i ∈ own.map (·.2)) (hs : ∀ x, foldedSetIterable iter X.env x = pure x)
    (h : tComp wi g tt u0 tb (own.map (·.2)) σ H Q)
    (hRR : ∀ D C s' m H', Inv X pins σ H' s' → Q (.ref D) H' → s'.heap.Ns C m → FpOk X pins H' C → compPost (model X.prog X.w) X.A X.xe use Qf (.ref D) C (.ok .next) s') :
    wpAny (model X.prog X.w) X.A (comprehension e scope X.env pos' mk false (eval iter X.env) use) Qf X.xe s := by
  have hfree : ∀ y ∈ scope.names, y.2 = .free → ∃ c, X.env.cells.lookup y.1 = some c := fun y hy e => by
    rcases ok.free y hy e with k | k
    · exact I.ok.has _ (.inl k)
    · exact I.ok.has _ (.inr k)
  refine wpAny_comprehension_free (use := use) hcl hs (closure_ok hfree) ok.kind (fun y hy e => by rw [ok.uniq y hy, e])
    (thn (hi.run pins s σ H _ I h) fun xv s1 hx => thn hx fun itv s2 h2 => ?_)
  obtain ⟨it, fp, tn, J, H2, rfl, I2, T, st2, f2, q⟩ := h2
  refine hmk _ _ _ (newEnv_comp ?_)
  have hDn : H2 s2.heap.objs.size = none := I2.hok.fresh (Nat.le_refl _)
  have new := hok pins σ H2 s2 I2
  generalize hD : s2.heap.objs.size = D at hDn new ⊢
  obtain ⟨W, ⟨m0, w0⟩, turn⟩ := q D hDn
  generalize hs3 : ({ s2 with heap := s2.heap.push o0 } : Shared) = s3
  have h3 : s3.heap = s2.heap.push o0 := by rw [← hs3]
  have I3 : Inv X pins σ (upd H2 D (u0 D)) s3 := by
    rw [← hs3]
    exact I2.laid (t' := s2.toks) (fun b o e => Heap.get?_push_of_some _ e) (Nat.le_of_eq hD) new
  have f3 : ∀ b ∈ fp, FpOk X pins (upd H2 D (u0 D)) b ∧ b < s3.heap.objs.size := fun b hb => by
    obtain ⟨o, e, _⟩ := T.obj _ _ st2 b hb
    have hlt := Heap.lt_size e
    refine ⟨⟨?_, (f2 b hb).2⟩, by rw [h3, Heap.size_push]; exact Nat.lt_succ_of_lt hlt⟩
    rw [upd_ne (by rw [← hD]; exact Nat.ne_of_lt hlt)]
    exact (f2 b hb).1
  have st3 : tn 0 s3.heap := T.keep _ _ _ st2 fun b _ o e => by rw [h3]; exact Heap.get?_push_of_some _ e
  have I4 := block_start I3 ok hN f3
  have pg := hg s3 (upd H2 D (u0 D)) s3.heap.objs.size (cellsFrom (s3.heap.objs.size + 1) scope.names (cloFrom X.env.cells scope.names [])) fp
  have pt := ht s3 (upd H2 D (u0 D)) s3.heap.objs.size (cellsFrom (s3.heap.objs.size + 1) scope.names (cloFrom X.env.cells scope.names [])) fp
  have pb := hb s3 (upd H2 D (u0 D)) s3.heap.objs.size (cellsFrom (s3.heap.objs.size + 1) scope.names (cloFrom X.env.cells scope.names [])) fp D
  have nfp : ∀ b ∈ fp, (upd H2 D (u0 D)) b = none := fun b hb => (f3 b hb).1.1
  show codeAny _ _ (.compStart e 0 (.ref it) (.ref D) (compEnvC scope (cellsFrom (s3.heap.objs.size + 1) scope.names (cloFrom X.env.cells scope.names [])) s3.heap.objs.size X.env)) (compPost (model X.prog X.w) X.A X.xe use Qf (.ref D) s3.heap.objs.size) { s3 with heap := pushCells (s3.heap.push { cls := .type "dict", data := .dict #[] }) scope.names }
  generalize hce : compEnvC scope (cellsFrom (s3.heap.objs.size + 1) scope.names (cloFrom X.env.cells scope.names [])) s3.heap.objs.size X.env = ce2 at I4 pg pt pb ⊢
  have cL : ce2.locals = s3.heap.objs.size := by subst hce; rfl
  generalize upd H2 D (u0 D) = H3 at I3 I4 pg pt pb w0 nfp f3
  generalize hs4 : ({ s3 with heap := pushCells (s3.heap.push { cls := .type "dict", data := .dict #[] }) scope.names } : Shared) = s4 at I4 ⊢
  have st4 : tn 0 s4.heap := T.keep _ _ _ st3 fun b _ o e => by rw [← hs4]; exact pushCells_keeps _ _ _ _ (Heap.get?_push_of_some _ e)
  have stat : ∀ {σ' : L2.St} {H' : Hp} {s' : Shared}, Inv (X.blk s3 H3 scope ce2 fp) [] σ' H' s' → (∀ b ∈ fp, H' b = none) → ∀ b ∈ fp, FpOk (X.blk s3 H3 scope ce2 fp) [] H' b := fun {σ' H' s'} I' hn b hb =>
    ⟨hn b hb, (I'.ok.exf b hb).1, I'.ok.exfs b hb, .inl hb, fun x c e => (I'.ok.exf b hb).2 x c e, fun p hp => absurd (show p ∈ ([] : List (Addr × Obj)) ++ [] from hp) (by simp)⟩
  have loop : codeAny (model X.prog X.w) X.A (.compLoop e 0 (.ref it) (.ref D) ce2) (compPost (model X.prog X.w) X.A X.xe use Qf (.ref D) s3.heap.objs.size) s4 := by
    refine loopG ce (heq D ce2) (fun n s' => ∃ i H', Inv (X.blk s3 H3 scope ce2 fp) [] (wipe σ (own.map (·.2))) H' s' ∧ tn i s'.heap ∧ (∀ b ∈ fp, H' b = none) ∧ W i n H') ?_ m0 ⟨0, H3, I4, st4, nfp, w0⟩
    rintro n s5 ⟨i, H5, I5, st5, n5, w5⟩
    rcases turn i n H5 w5 with ⟨stop, qq⟩ | ⟨go, Nx, hNx, step⟩
    · refine thnF (T.done (X.blk s3 H3 scope ce2 fp) rfl rfl rfl hc i [] s5 _ H5 (fun _ _ => False) I5 (stat I5 n5) st5 stop) fun r s6 ⟨hr, I6⟩ => ?_
      subst hr
      have I7 : Inv X pins σ H5 s6 := I3.call' (ch := fp) I6.os I6.base I6.hok I6.bare fun b hb => ⟨(f3 b hb).1.2.2.2.1, (f3 b hb).1.2.1, (f3 b hb).1.2.2.2.2.1, (f3 b hb).1.2.2.2.2.2⟩
      have nC : H5 s3.heap.objs.size = none := by
        have z : H5 ce2.locals = none := I6.free
        rw [cL] at z
        exact z
      obtain ⟨m, hn, _⟩ := I6.loc
      have hn : s6.heap.Ns ce2.locals m := hn
      rw [cL] at hn
      exact hRR D s3.heap.objs.size s6 m H5 I7 qq hn (I3.fpOk (Nat.le_refl _) nC)
    · refine thnF (T.item (X.blk s3 H3 scope ce2 fp) rfl rfl rfl hc i [] s5 _ H5 (fun _ _ => False) I5 (stat I5 n5) st5 go) fun r s6 ⟨u, hr, h6⟩ => ?_
      subst hr
      refine thnF h6 fun _ s7 ⟨x, H7, I7, r7, y7, st7, n7⟩ => ?_
      have I7' := I7.pinned (stat I7 n7) (T.obj _ _ st7)
      refine thnF (pg.run _ s7 _ H7 x u _ I7' r7 (step x H7 y7)) fun _ s8 ⟨σ8, H8, I8, hw8, q8⟩ => ?_
      refine thnF (pt.run _ s8 σ8 H8 _ I8 q8) fun b s9 ⟨H9, I9, q9⟩ => ?_
      have fin : ∀ {σ' : L2.St} {s' : Shared} {H' : Hp}, Inv (X.blk s3 H3 scope ce2 fp) ([] ++ pinsAt fp s7.heap) σ' H' s' → (wipe σ (own.map (·.2))).length = σ'.length → (∀ (j : Nat) v, (wipe σ (own.map (·.2)))[j]? = some (some v) → σ'[j]? = some (some v)) → Nx H' →
          ∃ m, m < n ∧ ∃ i H', Inv (X.blk s3 H3 scope ce2 fp) [] (wipe σ (own.map (·.2))) H' s' ∧ tn i s'.heap ∧ (∀ b ∈ fp, H' b = none) ∧ W i m H' := fun {σ' s' H'} I' hl hk nx => by
        obtain ⟨m', hm, w'⟩ := hNx H' nx
        have pin' : ∀ b ∈ fp, ∀ o, s7.heap.get? b = some o → s'.heap.get? b = some o ∧ H' b = none := fun b hb o e =>
          let z := I'.pin (b, o) (List.mem_append_right _ (List.mem_append_right _ (mem_pinsAt hb e)))
          ⟨z.1, z.2.1⟩
        refine ⟨m', hm, i + 1, H', (I'.unpinned (pins := [])).weak hl hk, T.keep _ _ _ st7 fun b hb o e => (pin' b hb o e).1, fun b hb => ?_, w'⟩
        obtain ⟨o, e, _⟩ := T.obj _ _ st7 b hb
        exact (pin' b hb o e).2
      have hl8 : (wipe σ (own.map (·.2))).length = σ8.length := by rw [← hw8, wipe_length]
      cases b with
      | false =>
        simp only [Bool.false_eq_true, if_false] at q9 ⊢
        exact fin I9 hl8 (fun j v e => by rw [← hw8] at e; exact (wipe_some e).1) q9
      | true =>
        simp only [if_true] at q9 ⊢
        refine thnF (pb _ s9 σ8 H9 _ I9 q9) fun _ s10 ⟨H10, I10, nx⟩ => ?_
        exact fin I10 (hl8.trans (wipe_length _ _).symm) (fun j v e => by rw [← hw8] at e; exact wipe_sub hvb e) nx
  exact startG ce (by rw [hcl]; rfl) loop (T.self X.A 0 _ _ _ st4 loop)
end
end G
set_option maxHeartbeats 4000000
/-! Part Gb: the leaves of comprehensions; sets in the abstract heap. -/
namespace G
open PySem PySem.Spec PyProof.Rows L2
/-- the set at a, told without its members' own objects -/
structure Set0 (P : Program) (w : World) (h : Heap) (a : Addr) (L : List (Addr × List Key)) : Prop where
  ex : ∃ (es : Array (Int × Value)) (ep : Nat) (t : SetTable), (∃ o, h.get? a = some o ∧ o.ExactSet ∧ o.data = .set es ep t) ∧ es.toList = entsK P w L ∧ TabOk t (L.map fun p => kHash P w p.2) ∧ (L.map (·.2)).Nodup ∧
    (w.params.followText "set-order" = true ∨ t.led = true) ∧ L.length * 5 < t.mask * 3 ∧ L.length < 76
def SetKO (P : Program) (w : World) (a : Addr) (L : List (Addr × List Key)) : HO := .ext fun h => Set0 P w h a L
theorem SetR.t0 {P : Program} {w : World} {h : Heap} {a : Addr} {L : List (Addr × List Key)} {es : Array (Int × Value)} {ep : Nat} {t : SetTable} (R : SetR P w h a L es ep t) : Set0 P w h a L := ⟨es, ep, t, R.ob, R.ents, R.tab, R.nd, R.led, R.room, R.few⟩
section
variable {X : Cx} {pins : List (Addr × Obj)} {σ : L2.St} {H : Hp} {s : Shared}
end
/-! ### leaves -/
section
variable {X : Cx}
/-- d[tuple] = v by a comprehension -/
def tPutT (tk tv : TE) (D : Addr) : L2.St → Hp → (Hp → Prop) → Prop := fun σ H Nx => tk σ H fun y H4 => tv σ H4 fun z H5 => ∃ kvs k b, y = .ref b ∧ H5 b = some (.tup (k.map kV)) ∧ H5 D = some (.dT kvs) ∧ kvs.length < sizeLine ∧ Nx (upd H5 D (.dT (putK kvs k z)))
/-- {elt for ..}: a tuple added -/
def tAddK (P : Program) (w : World) (K : PySem.W.Frag) (te : TE) (D : Addr) : L2.St → Hp → (Hp → Prop) → Prop := fun σ H Nx => te σ H fun y H1 => ∃ (q : Addr) (k : List Key) (L : List (Addr × List Key)), y = .ref q ∧ SqT K H1 q (k.map kV) ∧ H1 D = some (SetKO P w D L) ∧ (∀ p ∈ L, SqT K H1 p.1 (p.2.map kV)) ∧ L.length + 1 < 76 ∧
  ∀ L', (k ∈ L.map (·.2) → L' = L) → (k ∉ L.map (·.2) → L'.Perm ((q, k) :: L)) → Nx (upd H1 D (SetKO P w D L'))
end
end G
namespace G
open PySem PySem.Spec PyProof.Rows L2
theorem turn_next {e : Expr} {c : Nat} {t iter : Expr} {ifs : List Expr} {p : Pos} {acc : Value} {env : Env} (h : ∀ it : Value, compTurn e c it acc env = (do
      standAt p
      match ← pyNext it with
      | none => pure (.done .next)
      | some v =>
        letOwnedTupleGo t it v
        assign t env v
        let mut ok := true
        for c in ifs do
          if ok then ok ← isTrue c env (eval c env)
        if ok then
          let x ← eval iter env
          standAt iter.pos
          let x ← foldedSetIterable iter env x
          let _ ← runOwn (.compStart e (c + 1) (← holding [x] (pyIter x)) acc env) env
        again (.compLoop e c it acc env))) : TurnIs e c t ifs p (nextClause e (c + 1) iter acc env) acc env := fun it => by
  rw [h it]
  unfold nextClause
  congr 1
  funext _
  congr 1
  funext r
  cases r with
  | none => rfl
  | some v =>
    dsimp only
    congr 1
    funext _
    congr 1
    funext _
    congr 1
    funext ok
    simp only [bind_assoc, pure_bind]
end G
namespace G
open PySem PySem.Spec PyProof.Rows L2
section
variable {X : Cx}
end
end G
set_option maxHeartbeats 4000000
/-! Part Gc: comprehensions of several clauses over what is owned. -/
namespace G
open PySem PySem.Spec PyProof.Rows L2
section
variable {J : It} {n : Nat} {Gd : Hp → Prop} {Y : Nat → Hp → V → Hp → Prop} {G H : Hp} {L : List (Addr × HO)} {K : PySem.W.Frag} {σ : L2.St} {Q : VK} {g : TG} {tt : TT} {vs : List Nat} {tl : TE} {ta : TA}
theorem x_compS {u0 : Addr → HO} {tb : Addr → L2.St → Hp → (Hp → Prop) → Prop} (h : tl σ H fun x H1 => ∃ a xs, x = .ref a ∧ ((SqL K H1 a xs ∧ tComp (iAt (Itl K a)) g tt u0 tb vs σ H1 Q) ∨ (SqT K H1 a xs ∧ tComp (iAt (Itt K a)) g tt u0 tb vs σ H1 Q))) : tComp (iSq K tl) g tt u0 tb vs σ H Q := h
theorem x_innS {tb : L2.St → Hp → (Hp → Prop) → Prop} {Nx : Hp → Prop} (h : tl σ H fun x H1 => ∃ a xs, x = .ref a ∧ ((SqL K H1 a xs ∧ tIn (iAt (Itl K a)) g tt tb vs σ H1 Nx) ∨ (SqT K H1 a xs ∧ tIn (iAt (Itt K a)) g tt tb vs σ H1 Nx))) : tIn (iSq K tl) g tt tb vs σ H Nx := h
theorem x_putT {tk tv : TE} {D : Addr} {Nx : Hp → Prop} (h : tk σ H fun y H4 => tv σ H4 fun z H5 => ∃ kvs k b, y = .ref b ∧ H5 b = some (.tup (k.map kV)) ∧ H5 D = some (.dT kvs) ∧ kvs.length < sizeLine ∧ Nx (upd H5 D (.dT (putK kvs k z)))) : tPutT tk tv D σ H Nx := h
theorem x_addK {P : Program} {w : World} {te : TE} {D : Addr} {Nx : Hp → Prop} (h : te σ H fun y H1 => ∃ (q : Addr) (k : List Key) (L : List (Addr × List Key)), y = .ref q ∧ SqT K H1 q (k.map kV) ∧ H1 D = some (SetKO P w D L) ∧ (∀ p ∈ L, SqT K H1 p.1 (p.2.map kV)) ∧ L.length + 1 < 76 ∧
  ∀ L', (k ∈ L.map (·.2) → L' = L) → (k ∉ L.map (·.2) → L'.Perm ((q, k) :: L)) → Nx (upd H1 D (SetKO P w D L'))) : tAddK P w K te D σ H Nx := h
/-- what holds between two turns: all that is ours, and D the new thing -/
def CvH (G : Hp) (Pv : Nat → Hp → List (Addr × HO) → Prop) (i : Nat) (H : Hp) : Prop := ∃ G' L', Same G G' ∧ Own G' H L' ∧ Pv i G' L'
theorem cvh {Pv : Nat → Hp → List (Addr × HO) → Prop} {i : Nat} {G' H' : Hp} {L' : List (Addr × HO)} (s : Same G G') (O : Own G' H' L') (p : Pv i G' L') : CvH G Pv i H' := ⟨G', L', s, O, p⟩
theorem loop_own {W0 : Hp} {tb : L2.St → Hp → (Hp → Prop) → Prop} {σw : L2.St} {Qd : Hp → Prop} (hw : wipe σ vs = σw) (W : Walk J n Gd Y) (Pv : Nat → Hp → List (Addr × HO) → Prop) (h0 : CvH G Pv 0 W0)
    (hG : ∀ (i : Nat) (G' H' : Hp) (L' : List (Addr × HO)), Same G G' → Own G' H' L' → Pv i G' L' → Gd H')
    (st : ∀ (i : Nat) (x : V) (G' H' H2 : Hp) (L' : List (Addr × HO)), i < n → Same G G' → Own G' H' L' → Pv i G' L' → Y i H' x H2 →
      g x σw H2 fun σ2 H2 => wipe σ2 vs = σw ∧ tt σ2 H2 fun k H3 => if k = true then tb σ2 H3 (CvH G Pv (i + 1)) else CvH G Pv (i + 1) H3)
    (fin : ∀ (G' H' : Hp) (L' : List (Addr × HO)), Same G G' → Own G' H' L' → Pv n G' L' → Qd H') :
    ∃ W1 : Nat → Nat → Hp → Prop, (∃ m, W1 0 m W0) ∧ ∀ i m H, W1 i m H →
      (J.stop i H ∧ Qd H) ∨ (J.go i H ∧ ∃ Nx : Hp → Prop, (∀ H', Nx H' → ∃ m', m' < m ∧ W1 (i + 1) m' H') ∧ ∀ x H', J.yld i H x H' → g x (wipe σ vs) H' fun σ2 H2 => wipe σ2 vs = wipe σ vs ∧ tt σ2 H2 fun b H3 =>
        if b = true then tb σ2 H3 Nx else Nx H3) := by
  subst hw
  refine ⟨fun i m H => m = n - i ∧ i ≤ n ∧ CvH G Pv i H, ⟨n, by simp, Nat.zero_le _, h0⟩, ?_⟩
  rintro i m H ⟨rfl, hi, G', L', s, O', p⟩
  have q := hG i G' H L' s O' p
  by_cases hlt : i < n
  · exact .inr ⟨W.goes i H hlt q, CvH G Pv (i + 1), fun H' p' => ⟨n - (i + 1), by omega, rfl, hlt, p'⟩, fun x H' y => st i x G' H H' L' hlt s O' p (W.yields i H x H' hlt q y)⟩
  · obtain rfl : i = n := by omega
    exact .inl ⟨W.stops H q, fin G' H L' s O' p⟩
theorem comp_own {u0 : Addr → HO} {tb : Addr → L2.St → Hp → (Hp → Prop) → Prop} {σw : L2.St} (hw : wipe σ vs = σw) (W : Walk J n Gd Y) (O : Own G H L) (Pv : Addr → Nat → Hp → List (Addr × HO) → Prop) (h0 : ∀ D, Pv D 0 G ((D, u0 D) :: L))
    (hG : ∀ (D : Addr) (i : Nat) (G' H' : Hp) (L' : List (Addr × HO)), Same G G' → Own G' H' L' → Pv D i G' L' → Gd H')
    (st : ∀ (D : Addr) (i : Nat) (x : V) (G' H' H2 : Hp) (L' : List (Addr × HO)), i < n → Same G G' → Own G' H' L' → Pv D i G' L' → Y i H' x H2 →
      g x σw H2 fun σ2 H2 => wipe σ2 vs = σw ∧ tt σ2 H2 fun k H3 => if k = true then tb D σ2 H3 (CvH G (Pv D) (i + 1)) else CvH G (Pv D) (i + 1) H3)
    (fin : ∀ (D : Addr) (G' H' : Hp) (L' : List (Addr × HO)), Same G G' → Own G' H' L' → Pv D n G' L' → Q (.ref D) H') : tComp (iAt J) g tt u0 tb vs σ H Q := by
  intro D hD
  exact loop_own hw W (Pv D) (cvh (Same.refl G) (O.new hD) (h0 D)) (hG D) (st D) (fin D)
theorem in_own {tb : L2.St → Hp → (Hp → Prop) → Prop} {σw : L2.St} {Nx : Hp → Prop} (hw : wipe σ vs = σw) (W : Walk J n Gd Y) (O : Own G H L) (Pv : Nat → Hp → List (Addr × HO) → Prop) (h0 : Pv 0 G L)
    (hG : ∀ (i : Nat) (G' H' : Hp) (L' : List (Addr × HO)), Same G G' → Own G' H' L' → Pv i G' L' → Gd H')
    (st : ∀ (i : Nat) (x : V) (G' H' H2 : Hp) (L' : List (Addr × HO)), i < n → Same G G' → Own G' H' L' → Pv i G' L' → Y i H' x H2 →
      g x σw H2 fun σ2 H2 => wipe σ2 vs = σw ∧ tt σ2 H2 fun k H3 => if k = true then tb σ2 H3 (CvH G Pv (i + 1)) else CvH G Pv (i + 1) H3)
    (fin : ∀ (G' H' : Hp) (L' : List (Addr × HO)), Same G G' → Own G' H' L' → Pv n G' L' → Nx H') : tIn (iAt J) g tt tb vs σ H Nx :=
  loop_own hw W Pv (cvh (Same.refl G) O h0) hG st fin
end
end G
set_option maxHeartbeats 4000000
/-! Part O: == and != by an own __eq__, whatever stands right. -/
namespace G
open PySem PySem.Spec PyProof.Rows L2
section
variable {X : Cx} {pins : List (Addr × Obj)} {σ : L2.St} {H : Hp} {s : Shared} {k : Nat} {C : Addr} {sp : Sp}
theorem Rm.in1 {k : Nat} {A : Around} (r : Rm (k + 1) A) : Rm k A.in1 := ⟨r.room.in1, r.gd⟩
end
end G
set_option maxHeartbeats 4000000
/-! Part H: further rules: an error as a value, isinstance of it; dicts of pairs, of texts; len(set), sorted of tuples. -/
namespace G
open PySem PySem.Spec PyProof.Rows L2
section
variable {X : Cx} {k : Nat} {C : Addr} {sp : Sp} {x : Str} {ps : List Str} {e : Expr} {es : List Expr} {t : TA} {p pos : Pos}
end
section
variable {X : Cx}
/-- x in d, x not in d, for dicts -/
def rInD (neg : Bool) : R2 := fun x y H Q => ∃ (d : Addr) (o : Option V), y = .ref d ∧ DGet H d x o ∧ Q (.bl (if neg = true then !o.isSome else o.isSome)) H
theorem oInD (hu : X.A.units + 1 < cLine) : OpR X (compareOp .In) (rInD false) := by
  intro pins s σ H x y v u Q I rx ry h
  obtain ⟨d, o, rfl, g, q⟩ := h
  cases ry
  exact d_in hu I g rx fun s' I' => ⟨.bl o.isSome, H, I', rfl, q⟩
theorem oNinD (hu : X.A.units + 1 < cLine) : OpR X (compareOp .NotIn) (rInD true) := by
  intro pins s σ H x y v u Q I rx ry h
  obtain ⟨d, o, rfl, g, q⟩ := h
  cases ry
  exact d_notIn hu I g rx fun s' I' => ⟨.bl (!o.isSome), H, I', rfl, q⟩
theorem x_dget {td ty : TE} {σ : L2.St} {H : Hp} {Q : VK} (h : td σ H fun x H1 => ty σ H1 fun y H2 => ∃ (a : Addr) (v : V), x = .ref a ∧ DGet H2 a y (some v) ∧ Q v H2) : tDGet td ty σ H Q := h
/-- a tuple whose object is known: what dict(..) of it asks -/
def TupF (H : Hp) (a : Addr) (xs : List V) : Prop := ∃ o : Obj, H a = some (.frz o (.tup xs)) ∧ o.dict = none
theorem TupF.set {K : PySem.W.Frag} {H : Hp} {a : Addr} {xs : List V} (h : TupF H a xs) : SqT K H a xs := let ⟨o, e, _⟩ := h; .inl (.inr ⟨o, e⟩)
/-- dict(ps), ps a list, or a known tuple, of pairs -/
def aDictP (K : PySem.W.Frag) : List V → Hp → VK → Prop := fun xs H Q => ∃ (a : Addr) (ps : List Addr) (kvs : List (Key × V)), xs = [.ref a] ∧ (SqL K H a (ps.map V.ref) ∨ TupF H a (ps.map V.ref)) ∧ Paired (fun p kv => SqT K H p [kV kv.1, kv.2]) ps kvs ∧
    ∀ p, H p = none → Q (.ref p) (upd H p (.dK (mergeK [] kvs)))
theorem cDictP (hc : X.calm = true) : CallR X (.type "dict") (aDictP X.K) := by
  intro pins s σ H xs us Q I r h
  obtain ⟨a, ps, kvs, rfl, hq, hp, q⟩ := h
  rcases hq with hq | ⟨o, ho, hod⟩
  · exact call_dictP hc pins s σ H _ us Q I r ⟨a, ps, kvs, rfl, hq, hp, q⟩
  rw [Vals.ref1 r]
  obtain ⟨hget, hz, its, rv, o', ho', hc', n, hdat⟩ := (show ObjOk X.prog X.w H s.heap a (.frz o (.tup (ps.map V.ref))) from I.hok a _ ho)
  rw [hget] at ho'
  cases ho'
  have ei := refs_at rv
  subst ei
  rw [List.length_map] at hz
  obtain ⟨prs, rel, hl, hpr⟩ := pairs_of I hp
  -- the raw keys
  obtain ⟨raw, hrl, hraw⟩ : ∃ raw : List (Value × Value), raw.length = prs.length ∧ ∀ (j : Nat) (k v : Value), raw[j]? = some (k, v) → ∃ (b : Addr) (q : Key × Value), ps[j]? = some b ∧ prs[j]? = some q ∧ q.2 = v ∧ IsTup s.heap b #[k, v] ∧ keyIs q.1 k = true := by
    have go : ∀ (prs : List (Key × Value)) (ps : List Addr), prs.length = ps.length → (∀ (j : Nat) (q : Key × Value), prs[j]? = some q → ∃ (b : Addr) (u : Value), ps[j]? = some b ∧ IsTup s.heap b #[u, q.2] ∧ keyIs q.1 u = true) →
        ∃ raw : List (Value × Value), raw.length = prs.length ∧ ∀ (j : Nat) (k v : Value), raw[j]? = some (k, v) → ∃ (b : Addr) (q : Key × Value), ps[j]? = some b ∧ prs[j]? = some q ∧ q.2 = v ∧ IsTup s.heap b #[k, v] ∧ keyIs q.1 k = true := by
      intro prs
      induction prs with
      | nil => intro ps _ _; exact ⟨[], rfl, fun j k v e => by simp at e⟩
      | cons q prs ih =>
        intro ps hl h
        cases ps with
        | nil => simp at hl
        | cons p ps =>
          obtain ⟨raw, h1, h2⟩ := ih ps (by simpa using hl) fun j q' e => by
            obtain ⟨b, u, e1, e2, e3⟩ := h (j + 1) q' (by simpa using e)
            exact ⟨b, u, by simpa using e1, e2, e3⟩
          obtain ⟨b, u, e1, e2, e3⟩ := h 0 q rfl
          refine ⟨(u, q.2) :: raw, by simp [h1], fun j k v e => ?_⟩
          cases j with
          | zero =>
            simp only [List.getElem?_cons_zero, Option.some.injEq, Prod.mk.injEq] at e
            obtain ⟨rfl, rfl⟩ := e
            exact ⟨b, q, e1, rfl, rfl, e2, e3⟩
          | succ j =>
            obtain ⟨b, q', a1, a2, a3⟩ := h2 j k v (by simpa using e)
            exact ⟨b, q', by simpa using a1, by simpa using a2, a3⟩
    exact go prs ps hl hpr
  have hit : PairItems s.heap ((ps.map Value.ref).toArray) (fun j => ps.getD j 0) raw := by
    refine ⟨by simp [hrl, hl], fun j k v e => ?_⟩
    obtain ⟨b, q, e1, e2, e3, e4, e5⟩ := hraw j k v e
    have eb : ps.getD j 0 = b := by rw [List.getD_eq_getElem?_getD, e1]; rfl
    refine ⟨by simp [e1, eb], ?_⟩
    show PairAt s.heap (ps.getD j 0) k v
    rw [eb]
    exact .inl e4
  have ok : PlainSeq "tuple" s.heap a ((ps.map Value.ref).toArray) ∧ PairItems s.heap ((ps.map Value.ref).toArray) (fun j => ps.getD j 0) raw := ⟨⟨o, n, hget, hc', hod, hdat⟩, hit⟩
  refine PySem.call_dict_pairs (knd := mixKind X.prog X.w) (kvs := prs) (PairArg.tuple a _ _ raw) (I.ok.hd hc) ok ⟨hrl.symm, fun i key v e => ?_⟩ (by rw [hrl, hl]; exact hz) fun h' tk hd' hk => ?_
  · obtain ⟨b, q, e1, e2, e3, e4, e5⟩ := hraw i key v e
    exact ⟨q.1, by rw [e2, ← e3], e5⟩
  · have hm : (s.heap.objs.size == sysModules) = false := beq_eq_false_iff_ne.mpr (Nat.ne_of_gt I.big)
    have hlen : (mergeK [] kvs).length ≤ sizeLine := by
      refine Nat.le_trans (length_mergeK kvs []) ?_
      rw [List.length_nil, Nat.zero_add, rel.length, hl]
      exact hz
    exact ⟨.ref s.heap.objs.size, upd H s.heap.objs.size (.dK (mergeK [] kvs)), I.laid (t' := tk) (fun b o e => hk b o (by simp) e) (Nat.le_refl _) (show ObjOk X.prog X.w _ _ _ (.dK (mergeK [] kvs)) from ⟨hlen, hm, merged [] prs, KV.merge rel .nil, hd'⟩), rfl, q _ (I.hok.fresh (Nat.le_refl _))⟩
end
/-- the names of a comprehension within another one's block -/
theorem blkOk_in {X : Cx} {N : List Str} {sc scope0 scope1 : Scope} {own1 : List (Str × Nat)} {s : Shared} {H : Hp} {C : Addr} {cl : List (Str × Addr)} {fp : List Addr} (hN : X.N = N) (hsc : X.env.scope = sc) (h : blkC N (relS scope0 sc) scope1 own1 = true) :
    BlkOk (X.blk s H scope0 (compEnvC scope0 cl C X.env) fp).N (X.blk s H scope0 (compEnvC scope0 cl C X.env) fp).env.scope scope1 own1 := by
  subst hN hsc
  exact blkOk_by h
end G
namespace G
open PySem PySem.Spec PyProof.Rows L2
section
variable {X : Cx} {K : PySem.W.Frag} {P : Program} {w : World} {k : Nat} {C : Addr} {sp : Sp}
theorem cDictPK (h : X.K = K) (hc : X.calm = true) : CallR X (.type "dict") (aDictP K) := by subst h; exact cDictP hc
end
end G
set_option maxHeartbeats 4000000
/-! Part F: f-strings. -/
namespace G
open PySem PySem.Spec PyProof.Rows L2
def tFst (ts : List TE) : TE := fun σ H Q => tJs ts Str.empty σ H fun out H1 => Q (.str out) H1
section
variable {σ : L2.St} {H : Hp} {ts : List TE} {t te : TE} {acc : Str} {Q : Str → Hp → Prop} {Qv : VK}
theorem x_fst (h : tJs ts Str.empty σ H fun out H1 => Qv (.str out) H1) : tFst ts σ H Qv := h
theorem x_js0 (h : Q acc H) : tJs [] acc σ H Q := h
theorem x_jsC (h : t σ H fun x H1 => ∃ y : Str, x = .str y ∧ (acc ++ y).length ≤ sizeLine ∧ tJs ts (acc ++ y) σ H1 Q) : tJs (t :: ts) acc σ H Q := h
theorem x_fmt (h : te σ H fun x H1 => (∃ y : Str, x = .str y ∧ y.length ≤ sizeLine ∧ Qv (.str y) H1) ∨ ∃ i : Int, x = .int i ∧ i.natAbs.log2 < 1920 ∧ Qv (.str (toString i)) H1) : tFmt te σ H Qv := h
theorem len_apS (a b : Str) : (a ++ b).length = a.length + b.length := by rw [len_l, tl_app, List.length_append, ← len_l, ← len_l]
end
end G
set_option maxHeartbeats 4000000
/-! Part J: x in xs where items are data of any depth, or texts and x anything plain. -/
namespace PySem.SeqAt
open AutoSeq1 (wpAny_loadPart')
open MeetsSeq
section
variable {A : Around} {s : Shared}
end
end PySem.SeqAt
namespace G
open PySem PySem.Spec PyProof.Rows L2
section
variable {X : Cx} {K : PySem.W.Frag} {k : Nat}
end
end G
set_option maxHeartbeats 4000000
/-! Part I: list(range(n)). -/
namespace G
open PySem PySem.Spec PyProof.Rows L2
section
variable {σ : L2.St} {H : Hp} {te : TE} {Q : VK}
theorem x_lrg (h : te σ H fun x H1 => ∃ n, x = .int n ∧ RgOk 0 n ∧ nw (.lst (rgV 0 n)) H1 Q) : tLstRg (tRg1 te) σ H Q := h
end
section
variable {σ : L2.St} {H : Hp} {Q : VK} {K : PySem.W.Frag} {g : TG} {tt : TT} {te : TE} {vs : List Nat}
variable {J : It} {n : Nat} {Gd : Hp → Prop} {Y : Nat → Hp → V → Hp → Prop} {G : Hp} {L : List (Addr × HO)}
/-- no condition: what each element brings, kept; the list ours -/
theorem lc_mapO {σw : L2.St} (hw : wipe σ vs = σw) (W : Walk J n Gd Y) (O : Own G H L) (hn : n ≤ 2 ^ 20) (Rl : Hp → Nat → V → Prop) (mono : ∀ G G' i y, Same G G' → Rl G i y → Rl G' i y)
    (hG : ∀ (G' H' : Hp) (D : Addr) (acc : List V), Same G G' → Own G' H' ((D, .lst acc) :: L) → Gd H')
    (st : ∀ (i : Nat) (x : V) (G' H' H2 : Hp) (D : Addr) (acc : List V), i < n → Same G G' → Own G' H' ((D, .lst acc) :: L) → Y i H' x H2 →
      (∀ y G4 H4, Same G' G4 → Own G4 H4 ((D, .lst acc) :: L) → Rl G4 i y → LcN G (PvM L Rl) D i y H4) → g x σw H2 fun σ2 H2 => wipe σ2 vs = σw ∧ te σ2 H2 (LcN G (PvM L Rl) D i))
    (gm : ∀ (x : V) (σ' : L2.St) (H' : Hp) (S S' : L2.St → Hp → Prop), (∀ a b, S a b → S' a b) → g x σ' H' S → g x σ' H' S')
    (fin : ∀ (G' H' : Hp) (p : Addr) (ys : List V), Same G G' → Own G' H' ((p, .lst ys) :: L) → ys.length = n → (∀ (i : Nat) (y : V), ys[i]? = some y → Rl G' i y) → Q (.ref p) H') : tLc (iAt J) g tYes te vs σ H Q := by
  subst hw
  refine lc_own rfl W O (PvM L Rl) ⟨rfl, rfl, fun j y e => by simp at e⟩ ?_ ?_ ?_
  · rintro i G' H' D L' acc s' O' ⟨rfl, _⟩
    exact hG G' H' D acc s' O'
  · rintro i x G' H' H2 D L' acc hi s' O' ⟨rfl, hl, hr⟩ y
    refine gm _ _ _ _ _ (fun a b => ?_) (st i x G' H' H2 D acc hi s' O' y ?_)
    · rintro ⟨e1, e2⟩
      exact ⟨e1, x_yes (ite_t e2)⟩
    · intro v G4 H4 s4 O4 r4
      refine lcn (s'.trans s4) O4 (lt_line (by omega)) ⟨rfl, by rw [List.length_append]; simp [hl], fun j w e => ?_⟩
      rcases Nat.lt_trichotomy j acc.length with h | h | h
      · rw [List.getElem?_append_left h] at e
        exact mono _ _ _ _ s4 (hr j w e)
      · subst h
        rw [List.getElem?_append_right (Nat.le_refl _), Nat.sub_self] at e
        cases e
        rw [hl]
        exact r4
      · rw [List.getElem?_eq_none (by rw [List.length_append]; simp; omega)] at e
        cases e
  · rintro G' H' D L' acc s' O' ⟨rfl, hl, hr⟩
    exact fin G' H' D acc s' O' hl hr
end
section
variable {X : Cx}
end
/-! sorted texts are told by their set -/
theorem rising_all : ∀ {l : List Str} {p : Str}, risingS p l = true → (∀ x ∈ l, p.cps.toList ≤ x.cps.toList) ∧ l.Pairwise (fun a b => a.cps.toList ≤ b.cps.toList)
  | [], _, _ => ⟨(fun _ z => nomatch z), .nil⟩
  | x :: r, p, h => by
    have h : (!ltCps x.cps.toList p.cps.toList && risingS x r) = true := h
    rw [Bool.and_eq_true] at h
    obtain ⟨h1, h2⟩ := rising_all h.2
    have hx : p.cps.toList ≤ x.cps.toList := by
      have := h.1
      rw [ltCps_eq] at this
      exact fun z => by rw [decide_eq_true z] at this; cases this
    refine ⟨fun y hy => ?_, List.pairwise_cons.mpr ⟨h1, h2⟩⟩
    rcases List.mem_cons.mp hy with rfl | hy
    · exact hx
    · exact List.le_trans hx (h1 y hy)
theorem sorted_pw : ∀ {l : List Str}, sortedS l = true → l.Pairwise (fun a b => a.cps.toList ≤ b.cps.toList)
  | [], _ => .nil
  | x :: r, h => by
    obtain ⟨h1, h2⟩ := rising_all (show risingS x r = true from h)
    exact List.pairwise_cons.mpr ⟨h1, h2⟩
theorem sorted_one : ∀ {l l' : List Str}, sortedS l = true → sortedS l' = true → l.Perm l' → l = l' := by
  intro l l' h h' p
  have h1 := sorted_pw h
  have h2 := sorted_pw h'
  clear h h'
  induction l generalizing l' with
  | nil => exact (List.nil_perm.mp p).symm
  | cons x r ih =>
    cases l' with
    | nil => exact absurd p.length_eq (by simp)
    | cons y r' =>
      obtain ⟨a1, a2⟩ := List.pairwise_cons.mp h1
      obtain ⟨b1, b2⟩ := List.pairwise_cons.mp h2
      have e : x = y := by
        have hx : x ∈ y :: r' := p.mem_iff.mp List.mem_cons_self
        have hy : y ∈ x :: r := p.mem_iff.mpr List.mem_cons_self
        rcases List.mem_cons.mp hx with e | hx
        · exact e
        · rcases List.mem_cons.mp hy with e | hy
          · exact e.symm
          · have z := List.le_antisymm (a1 y hy) (b1 x hx)
            obtain ⟨⟨xs⟩⟩ := x
            obtain ⟨⟨ys⟩⟩ := y
            simp only at z
            rw [z]
      subst e
      rw [ih (List.Perm.cons_inv p) a2 b2]
/-! a method called by names: the last one first -/
def rot3l {α : Type} : List α → List α
  | [a, b, c] => [b, c, a]
  | l => l
section
variable (P : Program) (w : World) (K : PySem.W.Frag) (mg : Str → Option Value) (base : Heap) (k : Nat)
def MtC (C : Addr) (m : Str) (ps ks : List Str) (sp : Sp) : Prop := ∃ f fd, FnG P w K mg base k f fd ps sp ∧ Cls K C ∧ Meth K C m f ∧
  ∀ (s : Shared) (u : Value) (us : List Value), K.In s.heap → us.length = ks.length → BindsTo s fd ⟨[u], ks.zip us⟩ (ps.zip (u :: rot3l us))
end
section
variable {P : Program} {w : World} {K : PySem.W.Frag} {mg : Str → Option Value} {base : Heap} {j k : Nat} {C : Addr} {m : Str} {ps ks : List Str} {sp : Sp}
theorem MtC.up (c : MtC P w K mg base j C m ps ks sp) (h : j ≤ k) : MtC P w K mg base k C m ps ks sp := let ⟨f, fd, F, r⟩ := c; ⟨f, fd, F.up h, r⟩
end
def tMC (C : Addr) (m : Str) (sp : Sp) (W : WX) (ta : TE) (t : TA) : TE := fun σ H Q => ta σ H fun x H1 => ∃ a dx fs, x = .ref a ∧ H1 a = some (.ins C dx fs) ∧ fs.lookup m = none ∧ t σ H1 fun vs H2 => sp (.ref a :: rot3l vs) H2 Q (WE W σ)
theorem x_mc {sp : Sp} {W : WX} {C : Addr} {m : Str} {ta : TE} {t : TA} {σ : L2.St} {H : Hp} {Q : VK} (h : ta σ H fun x H1 => ∃ a dx fs, x = .ref a ∧ H1 a = some (.ins C dx fs) ∧ fs.lookup m = none ∧ t σ H1 fun vs H2 => sp (.ref a :: rot3l vs) H2 Q (WE W σ)) : tMC C m sp W ta t σ H Q := h
section
variable {X : Cx} {k : Nat} {C : Addr} {m : Str} {ps ks : List Str} {sp : Sp} {W : WX} {ta : TE} {tk : TA} {o : Expr} {kws : List Keyword} {pos apos : Pos}
end
theorem mIndexK {X : Cx} {K : PySem.W.Frag} (h : X.K = K) : L2.MtR X "list.index" (rIndex K) := h ▸ mt_index
end G
set_option maxHeartbeats 4000000
/-! Part Q: zip of a tuple and a list: zip's steps, told by what its two iterators do. -/
namespace G
open PySem PySem.Spec PyProof.Rows L2
/-- the iterator at i, as P says, gives x and stands then as P' says -/
def Nx (i : Addr) (P P' : Heap → Prop) (x : Value) : Prop := ∀ (prog : Program) (w : World) (A : Around) (E : Value → Shared → Prop) (s : Shared) (Q : Value → Shared → Prop), P s.heap →
  (∀ h', P' h' → Heap.SameBut i s.heap h' → Q x { s with heap := h' }) → wpAny (model prog w) A (Builtin.SmallTypes.nextOf (.ref i)) Q E s
/-- .. has no more -/
def NxE (i : Addr) (P : Heap → Prop) : Prop := ∀ (prog : Program) (w : World) (A : Around) (E : Value → Shared → Prop) (s : Shared) (Q : Value → Shared → Prop), A.handled = none → P s.heap →
  (∀ h' e, Heap.ExtBut i s.heap h' → (∃ o, h'.get? e = some o ∧ o.cls = .type "StopIteration") → E (.ref e) { s with heap := h' }) → wpAny (model prog w) A (Builtin.SmallTypes.nextOf (.ref i)) Q E s
def Stb (P : Heap → Prop) (c : Addr) : Prop := ∀ h h', Heap.ExtBut c h h' → P h → P h'
section
variable {prog : Program} {w : World} {A : Around} {E : Value → Shared → Prop} {s : Shared} {z TI TO i1 i2 l1 l2 : Addr} {a b x y : Value} {P1 P1' P2 P2' : Heap → Prop}
theorem zg_item {Q : Option Value → Shared → Prop} (D : ZipApart z TI TO i1 i2 l1 l2) (hz : IsZip s.heap z TI TO .none) (hTI : IsPair s.heap TI (.ref i1) (.ref i2)) (hTO : IsPair s.heap TO a b)
    (n1 : Nx i1 P1 P1' x) (n2 : Nx i2 P2 P2' y) (p1 : P1 s.heap) (p2 : P2 s.heap) (s1z : Stb P1 z) (s1t : Stb P1' TO) (s1i : Stb P1' i2) (s1y : Stb P1' z) (s2z : Stb P2 z) (s2i : Stb P2 i1) (s2t : Stb P2 TO) (s2y : Stb P2' TO) (s2x : Stb P2' z)
    (hQ : ∀ h', IsZip h' z TI TO (rawInt s.heap.objs.size) → IsPair h' TO x y → P1' h' → P2' h' → IsPair h' s.heap.objs.size x y → (∀ c o, c ≠ z → c ≠ TO → c ≠ i1 → c ≠ i2 → s.heap.get? c = some o → h'.get? c = some o) → Q (some (.ref s.heap.objs.size)) { s with heap := h' }) :
    wpAny (model prog w) A (pyNext (.ref z)) Q E s := by
  have hT : s.TypeIs (.ref z) "zip" := ⟨_, hz, rfl⟩
  unfold pyNext
  refine wpAny_bind (wpAny_attempt (wpAny_callSpecial?_slot (name := Str.ofString "__next__") hT F.slot_zip_next (wpAny_call_entry F.slot_zip_next hT F.entry_zip_next ?_ (F.args_zip_next_1 _))))
  show wpAny _ _ (field (.ref z) 2 >>= _) _ _ _
  refine wpAny_bind (wpAny_field hz rfl (x := .bool false) rfl ?_)
  show wpAny _ _ (field (.ref z) 3 >>= _) _ _ _
  refine wpAny_bind (wpAny_field hz rfl (x := .ref TI) rfl (wpAny_bind (wpAny_seqItems hTI rfl ?_)))
  show wpAny _ _ (Builtin.SmallTypes.ownedTupleIsFree (.ref z) >>= _) _ _ _
  refine wpAny_bind ?_
  unfold Builtin.SmallTypes.ownedTupleIsFree
  refine wpAny_bind (wpAny_field hz rfl (x := .none) rfl (wpAny_pure ?_))
  simp only [if_true]
  refine wpAny_bind (wpAny_rule (wpAny_bind (wpAny_field hz rfl (x := .ref TO) rfl (wpAny_bind (wpAny_setField_rec hz (by simp) ?_)))))
  intro h₁ hz₁ hs₁
  replace hz₁ : IsZip h₁ z TI TO .ellipsis := hz₁
  refine wpAny_bind ?_
  simp only [List.zipIdx_cons, List.zipIdx_nil, List.forIn_cons, List.forIn_nil]
  refine wpAny_bind (wpAny_bind (wpAny_onRaise ?_))
  show wpAny _ _ (Builtin.SmallTypes.nextOf (.ref i1) >>= _) _ _ _
  refine wpAny_bind (n1 _ _ _ _ _ _ (s1z _ _ hs₁.extBut p1) ?_)
  intro h₂ p1₂ hs₂
  have hTO₂ : IsPair h₂ TO a b := hs₂.extBut _ _ D.TOi1 (hs₁.extBut _ _ D.TOz hTO)
  refine wpAny_pure (wpAny_bind (wpAny_seqItems hTO₂ rfl (wpAny_bind (wpAny_updateSeq_pair hTO₂ ?_))))
  intro h₃ hTO₃ hs₃
  replace hTO₃ : IsPair h₃ TO x b := hTO₃
  refine wpAny_bind (wpAny_letGo (wpAny_pure ?_))
  refine wpAny_bind (wpAny_bind (wpAny_onRaise ?_))
  show wpAny _ _ (Builtin.SmallTypes.nextOf (.ref i2) >>= _) _ _ _
  refine wpAny_bind (n2 _ _ _ _ _ _ (s2t _ _ hs₃.extBut (s2i _ _ hs₂.extBut (s2z _ _ hs₁.extBut p2))) ?_)
  intro h₄ p2₄ hs₄
  have hTO₄ : IsPair h₄ TO x b := hs₄.extBut _ _ D.TOi2 hTO₃
  refine wpAny_pure (wpAny_bind (wpAny_seqItems hTO₄ rfl (wpAny_bind (wpAny_updateSeq_pair hTO₄ ?_))))
  intro h₅ hTO₅ hs₅
  replace hTO₅ : IsPair h₅ TO x y := hTO₅
  refine wpAny_bind (wpAny_letGo (wpAny_pure (wpAny_pure (wpAny_bind (wpAny_seqItems hTO₅ rfl (wpAny_bind (wpAny_newTuple ?_)))))))
  have hsz : h₅.objs.size = s.heap.objs.size := by rw [hs₅.1, hs₄.1, hs₃.1, hs₂.1, hs₁.1]
  have hz₅ : IsZip h₅ z TI TO .ellipsis := hs₅.extBut _ _ D.TOz.symm (hs₄.extBut _ _ D.i2z.symm (hs₃.extBut _ _ D.TOz.symm (hs₂.extBut _ _ D.i1z.symm hz₁)))
  have hk₅ : ∀ c o, c ≠ z → c ≠ TO → c ≠ i1 → c ≠ i2 → s.heap.get? c = some o → h₅.get? c = some o := fun c o c1 c2 c3 c4 e => hs₅.extBut _ _ c2 (hs₄.extBut _ _ c4 (hs₃.extBut _ _ c2 (hs₂.extBut _ _ c3 (hs₁.extBut _ _ c1 e))))
  have p1₅ : P1' h₅ := s1t _ _ hs₅.extBut (s1i _ _ hs₄.extBut (s1t _ _ hs₃.extBut p1₂))
  have p2₅ : P2' h₅ := s2y _ _ hs₅.extBut p2₄
  have hzlt : z < h₅.objs.size := Heap.lt_size hz₅
  show wpAny _ _ (Builtin.SmallTypes.ownedTupleHandOut (.ref z) (.ref h₅.objs.size) >>= _) _ _ _
  refine wpAny_bind ?_
  unfold Builtin.SmallTypes.ownedTupleHandOut
  have hz₆ : IsZip (h₅.push { cls := .type "tuple", data := .seq #[x, y] }) z TI TO .ellipsis := Heap.get?_push_of_some _ hz₅
  refine wpAny_bind (wpAny_setField_rec hz₆ (by simp) ?_)
  intro h₇ hz₇ hs₇
  replace hz₇ : IsZip h₇ z TI TO (rawInt h₅.objs.size) := hz₇
  refine wpAny_setField_rec hz₇ (by simp) ?_
  intro h₈ hz₈ hs₈
  replace hz₈ : IsZip h₈ z TI TO (rawInt h₅.objs.size) := hz₈
  have up : ∀ c o, c ≠ z → h₅.get? c = some o → h₈.get? c = some o := fun c o c1 e => hs₈.extBut _ _ c1 (hs₇.extBut _ _ c1 (Heap.get?_push_of_some _ e))
  have hT₈ : IsPair h₈ h₅.objs.size x y := hs₈.extBut _ _ (Nat.ne_of_gt hzlt) (hs₇.extBut _ _ (Nat.ne_of_gt hzlt) (Heap.get?_push_size _ rfl))
  have q1 : P1' h₈ := s1y _ _ up p1₅
  have q2 : P2' h₈ := s2x _ _ up p2₅
  have q3 : IsPair h₈ TO x y := up _ _ D.TOz hTO₅
  have q4 : ∀ c o, c ≠ z → c ≠ TO → c ≠ i1 → c ≠ i2 → s.heap.get? c = some o → h₈.get? c = some o := fun c o c1 c2 c3 c4 e => up c o c1 (hk₅ c o c1 c2 c3 c4 e)
  rw [hsz] at hz₈ hT₈
  refine wpAny_pure ⟨_, rfl, wpAny_pure ?_⟩
  show Q (some (.ref h₅.objs.size)) _
  rw [hsz]
  exact hQ h₈ hz₈ q3 q1 q2 hT₈ q4
theorem zg_end {Q : Option Value → Shared → Prop} (hh : A.handled = none) (D : ZipApart z TI TO i1 i2 l1 l2) (hz : IsZip s.heap z TI TO .none) (hTI : IsPair s.heap TI (.ref i1) (.ref i2)) (hTO : IsPair s.heap TO a b)
    (p1 : P1 s.heap) (p2 : P2 s.heap) (s1z : Stb P1 z) (s2z : Stb P2 z) (s2i : Stb P2 i1) (s2t : Stb P2 TO) (n : NxE i1 P1 ∨ ((∃ x P1', Nx i1 P1 P1' x) ∧ NxE i2 P2))
    (hQ : ∀ h', (∀ c o, c ≠ z → c ≠ TO → c ≠ i1 → c ≠ i2 → s.heap.get? c = some o → h'.get? c = some o) → Q none { s with heap := h' }) : wpAny (model prog w) A (pyNext (.ref z)) Q E s := by
  have hT : s.TypeIs (.ref z) "zip" := ⟨_, hz, rfl⟩
  have stop : ∀ (h' : Heap) (e : Addr), (∀ c o, c ≠ z → c ≠ TO → c ≠ i1 → c ≠ i2 → s.heap.get? c = some o → h'.get? c = some o) → (∃ o, h'.get? e = some o ∧ o.cls = .type "StopIteration") →
      wpAny (model prog w) A (do if ← isInstance (.ref e) (.type "StopIteration") then pure none else throw (.ref e)) Q E { s with heap := h' } := fun h' e hk ⟨o, ho, hc⟩ =>
    wpAny_bind (wpAny_isInstance (T := "StopIteration") (b := true) ⟨o, ho, hc⟩ isSubtype_stop (wpAny_pure (hQ _ hk)))
  unfold pyNext
  refine wpAny_bind (wpAny_attempt (wpAny_callSpecial?_slot (name := Str.ofString "__next__") hT F.slot_zip_next (wpAny_call_entry F.slot_zip_next hT F.entry_zip_next ?_ (F.args_zip_next_1 _))))
  show wpAny _ _ (field (.ref z) 2 >>= _) _ _ _
  refine wpAny_bind (wpAny_field hz rfl (x := .bool false) rfl ?_)
  show wpAny _ _ (field (.ref z) 3 >>= _) _ _ _
  refine wpAny_bind (wpAny_field hz rfl (x := .ref TI) rfl (wpAny_bind (wpAny_seqItems hTI rfl ?_)))
  show wpAny _ _ (Builtin.SmallTypes.ownedTupleIsFree (.ref z) >>= _) _ _ _
  refine wpAny_bind ?_
  unfold Builtin.SmallTypes.ownedTupleIsFree
  refine wpAny_bind (wpAny_field hz rfl (x := .none) rfl (wpAny_pure ?_))
  simp only [if_true]
  refine wpAny_bind (wpAny_rule (wpAny_bind (wpAny_field hz rfl (x := .ref TO) rfl (wpAny_bind (wpAny_setField_rec hz (by simp) ?_)))))
  intro h₁ hz₁ hs₁
  replace hz₁ : IsZip h₁ z TI TO .ellipsis := hz₁
  refine wpAny_bind ?_
  simp only [List.zipIdx_cons, List.zipIdx_nil, List.forIn_cons, List.forIn_nil]
  refine wpAny_bind (wpAny_bind (wpAny_onRaise ?_))
  show wpAny _ _ (Builtin.SmallTypes.nextOf (.ref i1) >>= _) _ _ _
  have p1₁ := s1z _ _ hs₁.extBut p1
  rcases n with n | ⟨⟨x, P1', n1⟩, n⟩
  · refine wpAny_bind (n _ _ _ _ _ _ hh p1₁ ?_)
    rintro h₂ e hs₂ ⟨oe, hoe, hce⟩
    have hz₂ : IsZip h₂ z TI TO .ellipsis := hs₂ _ _ D.i1z.symm hz₁
    have hez : e ≠ z := fun q => by
      subst q
      rw [hz₂] at hoe
      cases hoe
      simp at hce
    refine wpAny_setField_rec hz₂ (by simp) ?_
    intro h₃ _ hs₃
    exact stop h₃ e (fun c o c1 _ c3 _ q => hs₃.extBut _ _ c1 (hs₂ _ _ c3 (hs₁.extBut _ _ c1 q))) ⟨oe, hs₃.extBut _ _ hez hoe, hce⟩
  · refine wpAny_bind (n1 _ _ _ _ _ _ p1₁ ?_)
    intro h₂ _ hs₂
    have hTO₂ : IsPair h₂ TO a b := hs₂.extBut _ _ D.TOi1 (hs₁.extBut _ _ D.TOz hTO)
    refine wpAny_pure (wpAny_bind (wpAny_seqItems hTO₂ rfl (wpAny_bind (wpAny_updateSeq_pair hTO₂ ?_))))
    intro h₃ hTO₃ hs₃
    refine wpAny_bind (wpAny_letGo (wpAny_pure ?_))
    refine wpAny_bind (wpAny_bind (wpAny_onRaise ?_))
    show wpAny _ _ (Builtin.SmallTypes.nextOf (.ref i2) >>= _) _ _ _
    refine wpAny_bind (n _ _ _ _ _ _ hh (s2t _ _ hs₃.extBut (s2i _ _ hs₂.extBut (s2z _ _ hs₁.extBut p2))) ?_)
    rintro h₄ e hs₄ ⟨oe, hoe, hce⟩
    have hz₄ : IsZip h₄ z TI TO .ellipsis := hs₄ _ _ D.i2z.symm (hs₃.extBut _ _ D.TOz.symm (hs₂.extBut _ _ D.i1z.symm hz₁))
    have hez : e ≠ z := fun q => by
      subst q
      rw [hz₄] at hoe
      cases hoe
      simp at hce
    refine wpAny_setField_rec hz₄ (by simp) ?_
    intro h₅ _ hs₅
    exact stop h₅ e (fun c o c1 c2 c3 c4 q => hs₅.extBut _ _ c1 (hs₄ _ _ c4 (hs₃.extBut _ _ c2 (hs₂.extBut _ _ c3 (hs₁.extBut _ _ c1 q))))) ⟨oe, hs₅.extBut _ _ hez hoe, hce⟩
end
end G
set_option maxHeartbeats 4000000
/-! Part N: zip of a tuple and a list, as a turn; a rule for zip that takes both. -/
namespace G
open PySem PySem.Spec PyProof.Rows L2
section
end
section
variable {prog : Program} {w : World} {A : Around} {E : Value → Shared → Prop} {s : Shared}
end
theorem stb_ti {i1 a c : Addr} {i : Nat} {xs : Array Value} (h1 : i1 ≠ c) (h2 : a ≠ c) : Stb (fun h => h.IsTupleIter i1 a i ∧ h.IsTuple a xs) c := fun _ _ hs ⟨p, q⟩ => ⟨p.extBut hs h1, q.extBut hs h2⟩
theorem stb_li {i1 a c : Addr} {i : Nat} {xs : Array Value} (h1 : i1 ≠ c) (h2 : a ≠ c) : Stb (fun h => h.IsListIter i1 a i ∧ h.IsList a xs) c := fun _ _ hs ⟨p, q⟩ => ⟨p.extBut hs h1, q.extBut hs h2⟩
theorem nx_ti {i1 a : Addr} {i : Nat} {xs : Array Value} {x : Value} (h : a ≠ i1) (hx : xs[i]? = some x) : Nx i1 (fun h => h.IsTupleIter i1 a i ∧ h.IsTuple a xs) (fun h => h.IsTupleIter i1 a (i + 1) ∧ h.IsTuple a xs) x :=
  fun _ _ _ _ _ _ p q => RZ.nextOf_tuple_item p.1 p.2 hx fun h' it sb => q h' ⟨it, p.2.extBut sb.extBut h⟩ sb
theorem nx_li {i1 a : Addr} {i : Nat} {xs : Array Value} {x : Value} (h : a ≠ i1) (hx : xs[i]? = some x) : Nx i1 (fun h => h.IsListIter i1 a i ∧ h.IsList a xs) (fun h => h.IsListIter i1 a (i + 1) ∧ h.IsList a xs) x :=
  fun _ _ _ _ _ _ p q => wpAny_nextOf_list_item p.1 p.2 hx fun h' it sb => q h' ⟨it, p.2.extBut sb.extBut h⟩ sb
theorem nxe_ti {i1 a : Addr} {i : Nat} {xs : Array Value} (hx : xs[i]? = none) : NxE i1 (fun h => h.IsTupleIter i1 a i ∧ h.IsTuple a xs) :=
  fun _ _ _ _ _ _ hh p q => RZ.nextOf_tuple_end hh p.1 p.2 hx q
theorem nxe_li {i1 a : Addr} {i : Nat} {xs : Array Value} (hx : xs[i]? = none) : NxE i1 (fun h => h.IsListIter i1 a i ∧ h.IsList a xs) :=
  fun _ _ _ _ _ _ hh p q => wpAny_nextOf_list_end hh p.1 p.2 hx q
end G
set_option maxHeartbeats 4000000
/-! Part W: zip of a list or a tuple, and a tuple; enumerate of a tuple. -/
namespace G
open PySem PySem.Spec PyProof.Rows L2
/-- the list at a, the tuple at b, as they stand at each turn, the items in new pairs -/
def ItzW (K : PySem.W.Frag) (a b : Addr) : It :=
  ⟨fun i H => ∃ (xs ys : List V) (x y : V), SqL K H a xs ∧ SqT K H b ys ∧ xs[i]? = some x ∧ ys[i]? = some y,
    fun i H v H' => ∃ T x y, v = .ref T ∧ H T = none ∧ H' = upd H T (.tup [x, y]) ∧ (∀ xs, SqL K H a xs → xs[i]? = some x) ∧ ∀ ys, SqT K H b ys → ys[i]? = some y,
    fun i H => ∃ xs ys : List V, SqL K H a xs ∧ SqT K H b ys ∧ (xs.length ≤ i ∨ ys.length ≤ i)⟩
theorem turn_zipW {P : Program} {w : World} {K : PySem.W.Frag} {elts : List Expr} {kk : Nat} {tpos : Pos} {a b z TI TO i1 i2 : Addr} (D : ZipApart z TI TO i1 i2 a b) :
    Turn P w K (.Tuple elts kk tpos) (ItzW K a b) [z, TI, TO, i1, i2] z (fun i h => IsZip h z TI TO .none ∧ IsPair h TI (.ref i1) (.ref i2) ∧ (∃ x y, IsPair h TO x y) ∧ h.IsListIter i1 a i ∧ h.IsTupleIter i2 b i) where
  mem := by simp
  obj := fun i h st c hc => by
    obtain ⟨hz, hTI, ⟨x, y, hTO⟩, ⟨o1, e1, _, d1⟩, ⟨o2, e2, _, d2⟩⟩ := st
    have e' : c = z ∨ c = TI ∨ c = TO ∨ c = i1 ∨ c = i2 := by simpa using hc
    rcases e' with q | q | q | q | q
    · rw [q]; exact ⟨_, hz, fun v q => nomatch q⟩
    · rw [q]; exact ⟨_, hTI, fun v q => nomatch q⟩
    · rw [q]; exact ⟨_, hTO, fun v q => nomatch q⟩
    · rw [q]; exact ⟨o1, e1, fun v q => by rw [d1] at q; cases q⟩
    · rw [q]; exact ⟨o2, e2, fun v q => by rw [d2] at q; cases q⟩
  keep := fun i h h' st k => by
    obtain ⟨hz, hTI, ⟨x, y, hTO⟩, h1, h2⟩ := st
    exact ⟨k z (by simp) _ hz, k TI (by simp) _ hTI, ⟨x, y, k TO (by simp) _ hTO⟩, h1.at fun o q => k i1 (by simp) o q, h2.at fun o q => k i2 (by simp) o q⟩
  item := by
    intro X hP hw hK hc i pins s σ H E I hf st hg
    subst hP hw hK
    obtain ⟨hz, hTI, ⟨x0, y0, hTO⟩, h1, h2⟩ := st
    obtain ⟨xs, ys, x, y, hqx, hqy, hx, hy⟩ := hg
    obtain ⟨its, rv, p, _⟩ := I.list hqx
    obtain ⟨its2, rv2, p2, _⟩ := I.tuple hqy
    obtain ⟨u, hu, ru⟩ := rv.get hx
    obtain ⟨u2, hu2, ru2⟩ := rv2.get hy
    have hzl : z < s.heap.objs.size := Heap.lt_size hz
    refine zg_item D hz hTI hTO (nx_li (xs := its.toArray) (x := u) D.l1i1 (by simpa using hu)) (nx_ti (xs := its2.toArray) (x := u2) D.l2i2 (by simpa using hu2)) ⟨h1, p.isList⟩ ⟨h2, p2⟩
      (stb_li D.i1z D.l1z) (stb_li D.TOi1.symm D.l1TO) (stb_li D.i12 D.l1i2) (stb_li D.i1z D.l1z) (stb_ti D.i2z D.l2z) (stb_ti D.i12.symm D.l2i1) (stb_ti D.TOi2.symm D.l2TO) (stb_ti D.TOi2.symm D.l2TO) (stb_ti D.i2z D.l2z) fun h' z' TO' q1 q2 hT hk => ?_
    obtain ⟨h1', _⟩ := q1
    obtain ⟨h2', _⟩ := q2
    refine ⟨_, rfl, wpAny_letOwnedTupleGo_zip (s := { s with heap := h' }) z' fun h'' z'' sb => ?_⟩
    have hT2 : h''.get? s.heap.objs.size = some { cls := .type "tuple", data := .seq #[u, u2] } := (sb.2 _ (Nat.ne_of_gt hzl)).trans hT
    have new : ObjOk X.prog X.w (upd H s.heap.objs.size (.tup [x, y])) h'' s.heap.objs.size (.tup [x, y]) :=
      ⟨by show 2 ≤ sizeLine; decide, [u, u2], .cons ru (.cons ru2 .nil), ⟨_, hT2, rfl, _, rfl⟩⟩
    have I1 : Inv X pins σ (upd H s.heap.objs.size (.tup [x, y])) { s with heap := h'' } :=
      I.turnedNew (t' := s.toks) (ch := [z, TI, TO, i1, i2]) (fun c o hb q => (sb.2 c (fun q' => hb (by simp [q']))).trans (hk c o (fun q' => hb (by simp [q'])) (fun q' => hb (by simp [q'])) (fun q' => hb (by simp [q'])) (fun q' => hb (by simp [q'])) q)) hf (Nat.le_refl _) new
    refine ⟨.ref s.heap.objs.size, _, I1, rfl, ⟨_, x, y, rfl, I.hok.fresh (Nat.le_refl _), rfl, fun l hl => by rw [I.list_inj hl hqx]; exact hx, fun l hl => by rw [I.tuple_inj hl hqy]; exact hy⟩, ⟨z'', ?_, ⟨u, u2, ?_⟩, ?_, ?_⟩, fun c hcm => ?_⟩
    · exact (sb.2 _ D.TIz).trans (hk _ _ D.TIz D.TITO D.TIi1 D.TIi2 hTI)
    · exact (sb.2 _ D.TOz).trans TO'
    · exact h1'.at fun o q => (sb.2 _ D.i1z).trans q
    · exact h2'.at fun o q => (sb.2 _ D.i2z).trans q
    · have hlt : c < s.heap.objs.size := by
        have e' : c = z ∨ c = TI ∨ c = TO ∨ c = i1 ∨ c = i2 := by simpa using hcm
        rcases e' with q | q | q | q | q
        · rw [q]; exact hzl
        · rw [q]; exact Heap.lt_size hTI
        · rw [q]; exact Heap.lt_size hTO
        · rw [q]; obtain ⟨_, e1, _⟩ := h1; exact Heap.lt_size e1
        · rw [q]; obtain ⟨_, e2, _⟩ := h2; exact Heap.lt_size e2
      rw [upd_ne (Nat.ne_of_lt hlt)]
      exact (hf c hcm).1
  done := by
    intro X hP hw hK hc i pins s σ H E I hf st hg
    subst hP hw hK
    obtain ⟨hz, hTI, ⟨x0, y0, hTO⟩, h1, h2⟩ := st
    obtain ⟨xs, ys, hqx, hqy, hend⟩ := hg
    obtain ⟨its, rv, p, _⟩ := I.list hqx
    obtain ⟨its2, rv2, p2, _⟩ := I.tuple hqy
    have l1 := rv.length
    have l2 := rv2.length
    have fin : ∀ h' : Heap, (∀ c o, c ≠ z → c ≠ TO → c ≠ i1 → c ≠ i2 → s.heap.get? c = some o → h'.get? c = some o) → _ := fun h' hk => (⟨rfl, I.turnedL (t' := s.toks) (ch := [z, TI, TO, i1, i2]) (fun c o hb q =>
      hk c o (fun q' => hb (by simp [q'])) (fun q' => hb (by simp [q'])) (fun q' => hb (by simp [q'])) (fun q' => hb (by simp [q'])) q) hf⟩ : (none : Option Value) = none ∧ Inv X pins σ H { s with heap := h' })
    refine zg_end (I.ok.hd hc) D hz hTI hTO ⟨h1, p.isList⟩ ⟨h2, p2⟩ (stb_li D.i1z D.l1z) (stb_ti D.i2z D.l2z) (stb_ti D.i12.symm D.l2i1) (stb_ti D.TOi2.symm D.l2TO) ?_ fin
    by_cases hi : its.length ≤ i
    · exact .inl (nxe_li (by simp; omega))
    · refine .inr ⟨⟨its.toArray[i]'(by simp; omega), _, nx_li D.l1i1 (by simp)⟩, nxe_ti ?_⟩
      have : its2.length ≤ i := by omega
      simp
      omega
  self := fun A i s Q E st h => wpAny_pyIter_zip st.1 h
/-- zip of a list or a tuple, and a tuple -/
def iZipW (K : PySem.W.Frag) (ta : TA) : TI := fun σ H R => ta σ H fun vs H1 => ∃ a b xs ys J, vs = [.ref a, .ref b] ∧ SqT K H1 b ys ∧ ((J = ItzW K a b ∧ SqL K H1 a xs) ∨ (J = RZ.ItzT K a b ∧ SqT K H1 a xs)) ∧ R J H1
theorem pi_zipW {X : Cx} {e e2 : Expr} {ta : TA} {p pos tpos : Pos} {elts : List Expr} {kk : Nat} (hg : Gl X "zip") (hm : X.mg "zip" = none) (ha : PA X [e, e2] ta)
    (hs : starEach [e, e2] X.env = (false, eval e X.env) :: starEach [e2] X.env := by rfl) (hpl : (backTo pos (starEach [e2] X.env)).any (·.1) = false := by rfl) :
    PI X (.Tuple elts kk tpos) (.Call (.Name "zip" p) [e, e2] [] pos) (iZipW X.K ta) := by
  refine ⟨fun pins s σ H R I h => ?_⟩
  refine Call_ (ld_blt I hg hm PyProof.Rows.boot_zip (PyProof.Rows.callWith_type1 (thn (ha.run pos pins s σ H _ I h) ?_) hs hpl))
  rintro us s1 ⟨vs, H1, I1, r1, a, b, xs, ys, J, rfl, hqy, hJ, q⟩
  match us, r1 with
  | [_, _], .cons r (.cons r' .nil) =>
    cases r
    cases r'
    have fresh5 : ∀ c, c ∈ [s1.heap.objs.size + 4, s1.heap.objs.size + 2, s1.heap.objs.size + 3, s1.heap.objs.size, s1.heap.objs.size + 1] → FpOk X pins H1 c := by
      intro c hcm
      have hle : s1.heap.objs.size ≤ c := by
        simp only [List.mem_cons, List.not_mem_nil, or_false] at hcm
        omega
      exact I1.fpOk hle (I1.hok.fresh hle)
    obtain ⟨its2, rv2, p2, _⟩ := I1.tuple hqy
    obtain ⟨o2, ho2, _⟩ := id p2
    rcases hJ with ⟨rfl, hqx⟩ | ⟨rfl, hqx⟩
    · obtain ⟨its, rv, p1, _⟩ := I1.list hqx
      refine PySem.zip_begins2 (PySem.begins_list a its.toArray) (PySem.begins_tuple b its2.toArray) p1.isList p2 fun h' hz hTI hTO h1 h2 hsz hk => wpAny_pyIter_zip hz ?_
      have I2 : Inv X pins σ H1 { s1 with heap := h' } := I1.kept (t' := s1.toks) hk
      exact ⟨s1.heap.objs.size + 4, [s1.heap.objs.size + 4, s1.heap.objs.size + 2, s1.heap.objs.size + 3, s1.heap.objs.size, s1.heap.objs.size + 1], _, _, H1, rfl, I2, turn_zipW (PySem.W.ktu_apart s1.heap.objs.size a b p1.lt (Heap.lt_size ho2)), ⟨hz, hTI, ⟨_, _, hTO⟩, ⟨_, h1, rfl, rfl⟩, ⟨_, h2, rfl, rfl⟩⟩, fresh5, q⟩
    · obtain ⟨its, rv, p1, _⟩ := I1.tuple hqx
      obtain ⟨o1, ho1, _⟩ := id p1
      refine PySem.zip_begins2 (PySem.begins_tuple a its.toArray) (PySem.begins_tuple b its2.toArray) p1 p2 fun h' hz hTI hTO h1 h2 hsz hk => wpAny_pyIter_zip hz ?_
      have I2 : Inv X pins σ H1 { s1 with heap := h' } := I1.kept (t' := s1.toks) hk
      exact ⟨s1.heap.objs.size + 4, [s1.heap.objs.size + 4, s1.heap.objs.size + 2, s1.heap.objs.size + 3, s1.heap.objs.size, s1.heap.objs.size + 1], _, _, H1, rfl, I2, RZ.turn_zipT (PySem.W.ktu_apart s1.heap.objs.size a b (Heap.lt_size ho1) (Heap.lt_size ho2)), ⟨hz, hTI, ⟨_, _, hTO⟩, ⟨_, h1, rfl, rfl⟩, ⟨_, h2, rfl, rfl⟩⟩, fresh5, q⟩
theorem walk_zipT {K : PySem.W.Frag} {a b : Addr} {xs ys : List V} {n : Nat} (hn : n = min xs.length ys.length) : Walk (RZ.ItzT K a b) n (fun H => SqT K H a xs ∧ SqT K H b ys) (YPair (fun i => xs[i]?) (fun i => ys[i]?)) := by
  subst hn
  refine ⟨fun i _ hi q => ?_, fun _ q => ⟨xs, ys, q.1, q.2, by omega⟩, fun i H v H' _ q y => ?_⟩
  · have h1 : i < xs.length := by omega
    have h2 : i < ys.length := by omega
    exact ⟨xs, ys, xs[i], ys[i], q.1, q.2, by simp [h1], by simp [h2]⟩
  · obtain ⟨T, x, z, h1, h2, h3, h4, h5⟩ := y
    exact ⟨T, x, z, h1, h2, h3, h4 xs q.1, h5 ys q.2⟩
theorem x_lcZW {K : PySem.W.Frag} {σ : L2.St} {H : Hp} {Q : VK} {ta : TA} {g : TG} {tt : TT} {te : TE} {vs : List Nat}
    (h : ta σ H fun zs H1 => ∃ a b xs ys J, zs = [.ref a, .ref b] ∧ SqT K H1 b ys ∧ ((J = ItzW K a b ∧ SqL K H1 a xs) ∨ (J = RZ.ItzT K a b ∧ SqT K H1 a xs)) ∧ tLc (iAt J) g tt te vs σ H1 Q) : tLc (iZipW K ta) g tt te vs σ H Q := h
end G
set_option maxHeartbeats 4000000
/-! Part We: enumerate of a list or a tuple. -/
namespace G
open PySem PySem.Spec PyProof.Rows L2
set_option maxHeartbeats 8000000 in
theorem meets_enumT (t : Addr) (items : Array Value) :
    Meets (Builtin.«enumerate.__new__» ⟨[.type "enumerate", .ref t], []⟩) (fun _ R s => s.heap.IsTuple t items ∧
      R (.ok (.ret (.ref (s.heap.push { cls := .type "tuple_iterator", data := .fields #[.ref t, .int 0 0] }).objs.size)))
        { s with heap := (s.heap.push { cls := .type "tuple_iterator", data := .fields #[.ref t, .int 0 0] }).push { cls := .type "enumerate", data := .fields #[.none, .bool false, .ref s.heap.objs.size, rawInt 0, .none, .none] } }) :=
  .of_wp fun prog w A R s h => by
    obtain ⟨hp, g, d, tk, os⟩ := s
    obtain ⟨hl, h⟩ := h
    have hsub := sub_enumerate
    have q1 : ∀ {A' : Around} {E : Value → Shared → Prop} {Q : Value → Shared → Prop}, Q (.ref hp.objs.size) ⟨hp.push { cls := .type "tuple_iterator", data := .fields #[.ref t, .int 0 0] }, g, d, tk, os⟩ → wpAny (model prog w) A' (pyIter (.ref t)) Q E ⟨hp, g, d, tk, os⟩ :=
      fun q => (PySem.begins_tuple t items).iter prog w _ _ ⟨hp, g, d, tk, os⟩ _ hl q
    obtain ⟨⟨c, dct, dt, sl⟩, hlo, hcc, n, hdd⟩ := id hl
    replace hcc : c = .type "tuple" := hcc
    replace hdd : dt = .seq items n := hdd
    subst hcc hdd
    wp_walk using AutoSeq1.wpAny_loadPart' hlo, q1
    refine wpAny_stack_any fun st => wpAny_pure ?_
    split
    · rename_i c _ _ _ _ _
      cases (c == Value.type "enumerate")
      · wp_walk using AutoSeq1.wpAny_loadPart' hlo, q1
        exact ⟨_, rfl, h⟩
      · wp_walk using AutoSeq1.wpAny_loadPart' hlo, q1
        exact ⟨_, rfl, h⟩
    · wp_walk using AutoSeq1.wpAny_loadPart' hlo, q1
      exact ⟨_, rfl, h⟩
theorem call_enumT {prog : Program} {w : World} {A : Around} {E : Value → Shared → Prop} {s : Shared} {l : Addr} {items : Array Value} {Q : Value → Shared → Prop} (hL : s.heap.IsTuple l items)
    (h : ∀ h', IsEnum h' (s.heap.objs.size + 1) s.heap.objs.size 0 .none → h'.IsTupleIter s.heap.objs.size l 0 → h'.objs.size = s.heap.objs.size + 2 →
      (∀ b o, s.heap.get? b = some o → h'.get? b = some o) → Q (.ref (s.heap.objs.size + 1)) { s with heap := h' }) :
    wpAny (model prog w) A (call (.type "enumerate") [.ref l]) Q E s := by
  refine callType_new F.called_enumerate (by decide) (F.typeCall_enumerate_1 _) (F.newCall_enumerate_1 _) (fun obj => F.args_object_init_2 obj _) F.entry_enumerate_new (meets_enumT l items) ⟨hL, ?_⟩
  have z : (s.heap.push { cls := .type "tuple_iterator", data := .fields #[.ref l, .int 0 0] }).objs.size = s.heap.objs.size + 1 := Heap.size_push ..
  have he := Heap.get?_push_size (s.heap.push { cls := .type "tuple_iterator", data := .fields #[.ref l, .int 0 0] }) (o := { cls := .type "enumerate", data := .fields #[.none, .bool false, .ref s.heap.objs.size, rawInt 0, .none, .none] }) rfl
  rw [z] at he
  show _ ∧ _
  rw [z]
  exact ⟨⟨_, he, rfl⟩, h _ he ⟨_, Heap.get?_push_of_some _ (Heap.get?_push_size _ rfl), rfl, rfl⟩ (by rw [Heap.size_push, z]) fun b o x => Heap.get?_push_of_some _ (Heap.get?_push_of_some _ x)⟩
/-- the tuple at a as it stands at each turn, each item in a new pair -/
def IteT (K : PySem.W.Frag) (a : Addr) : It :=
  ⟨fun i H => ∃ (xs : List V) (x : V), SqT K H a xs ∧ xs[i]? = some x, fun i H v H' => ∃ T x, v = .ref T ∧ H T = none ∧ H' = upd H T (.tup [.int (i : Nat), x]) ∧ ∀ xs, SqT K H a xs → xs[i]? = some x, fun i H => ∃ xs : List V, SqT K H a xs ∧ xs.length ≤ i⟩
theorem turn_enumT {P : Program} {w : World} {K : PySem.W.Frag} {elts : List Expr} {kk : Nat} {tpos : Pos} (a e it : Addr) :
    Turn P w K (.Tuple elts kk tpos) (IteT K a) [e, it] e (fun i h => (∃ old, IsEnum h e it ((i : Nat) : Int) old) ∧ h.IsTupleIter it a i ∧ e ≠ it ∧ a ≠ e ∧ a ≠ it) where
  mem := by simp
  obj := by
    rintro i h ⟨⟨old, he⟩, ⟨o, ho, hc, hd⟩, _⟩ b hb
    simp only [List.mem_cons, List.not_mem_nil, or_false] at hb
    rcases hb with rfl | rfl
    · exact ⟨_, he, fun v q => nomatch q⟩
    · exact ⟨o, ho, fun v q => by rw [hd] at q; cases q⟩
  keep := fun i h h' ⟨⟨old, he⟩, hi, r⟩ k => ⟨⟨old, k e (by simp) _ he⟩, hi.at fun o q => k it (by simp) o q, r⟩
  item := by
    intro X hP hw hK hc i pins s σ H E I hf st hg
    subst hP hw hK
    obtain ⟨⟨old, he⟩, hit, hne, hae, hai⟩ := st
    obtain ⟨xs, x, hq, hx⟩ := hg
    obtain ⟨its, rv, p, hz⟩ := I.tuple hq
    obtain ⟨u, hu, ru⟩ := rv.get hx
    have hel : e < s.heap.objs.size := Heap.lt_size he
    have hil : it < s.heap.objs.size := by obtain ⟨_, q, _⟩ := hit; exact Heap.lt_size q
    have hlt : i < its.toArray.size := by
      have := (List.getElem?_eq_some_iff.mp hu).1
      simpa using this
    refine wpAny_pyNext_enum_itemD (PySem.Draws.tuple (prog := X.prog) (w := X.w) (A := X.A.in1) (I.ok.hd hc) it a hai its.toArray) he ⟨hit, p⟩ hlt hne (by simp [hne, Ne.symm hae]) fun x1 h' tk hP1 ho hit' hT hsz hk => ?_
    have ex : x1 = u := by
      have := hP1
      simp only [List.getElem?_toArray, hu, Option.some.injEq] at this
      exact this.symm
    subst ex
    refine ⟨_, rfl, wpAny_letOwnedTupleGo_enum (s := { s with heap := h', toks := tk + 1 }) ho fun h'' he' sb => ?_⟩
    have hT2 : h''.get? s.heap.objs.size = some { cls := .type "tuple", data := .seq #[.int i tk, x1] } := (sb.2 _ (Nat.ne_of_gt hel)).trans hT
    have new : ObjOk X.prog X.w (upd H s.heap.objs.size (.tup [.int (i : Nat), x])) h'' s.heap.objs.size (.tup [.int (i : Nat), x]) :=
      ⟨by show 2 ≤ sizeLine; decide, [.int i tk, x1], .cons ⟨_, rfl⟩ (.cons ru .nil), ⟨_, hT2, rfl, _, rfl⟩⟩
    have I1 : Inv X pins σ (upd H s.heap.objs.size (.tup [.int (i : Nat), x])) { s with heap := h'', toks := tk + 1 } :=
      I.turnedNew (ch := [e, it]) (fun b ob hb q => (sb.2 b (fun z => hb (by simp [z]))).trans (hk b ob (fun z => hb (by simp [z])) (fun z => hb (by simp [z])) q)) hf (Nat.le_refl _) new
    refine ⟨.ref s.heap.objs.size, _, I1, rfl, ⟨_, x, rfl, I.hok.fresh (Nat.le_refl _), rfl, fun ys hy => by rw [I.tuple_inj hy hq]; exact hx⟩, ⟨⟨x1, ?_⟩, hit'.1.at fun o q => (sb.2 it (Ne.symm hne)).trans q, hne, hae, hai⟩, fun b hb => ?_⟩
    · have e1 : ((i + 1 : Nat) : Int) = (i : Int) + 1 := by omega
      rw [e1]
      exact he'
    · have hb' : b < s.heap.objs.size := by
        simp only [List.mem_cons, List.not_mem_nil, or_false] at hb
        rcases hb with rfl | rfl
        · exact hel
        · exact hil
      rw [upd_ne (Nat.ne_of_lt hb')]
      exact (hf b hb).1
  done := by
    intro X hP hw hK hc i pins s σ H E I hf st hg
    subst hP hw hK
    obtain ⟨⟨old, he⟩, hit, hne, hae, hai⟩ := st
    obtain ⟨xs, hq, hx⟩ := hg
    obtain ⟨its, rv, p, hz⟩ := I.tuple hq
    obtain ⟨f0, f1, f2, f3, f4, f5⟩ := hf it (by simp)
    have hl := rv.length
    have key : ∀ Q : Option Value → Shared → Prop, (∀ h', Heap.ExtBut it s.heap h' → Q none { s with heap := h' }) → wpAny (model X.prog X.w) X.A (pyNext (.ref e)) Q E s := by
      intro Q hQ
      have hT : s.TypeIs (.ref e) "enumerate" := ⟨_, he, rfl⟩
      unfold pyNext
      refine wpAny_bind (wpAny_attempt (wpAny_callSpecial?_slot (name := Str.ofString "__next__") hT F.slot_enumerate_next (wpAny_call_entry F.slot_enumerate_next hT F.entry_enumerate_next ?_ (F.args_enumerate_next_1 _))))
      show wpAny _ _ (field (.ref e) 2 >>= _) _ _ _
      refine wpAny_bind (wpAny_field he rfl (x := .ref it) rfl ?_)
      refine wpAny_bind (RZ.nextOf_tuple_end (I.ok.hd hc) hit p (by simp; omega) ?_)
      rintro h' x he' ⟨o, ho, hco⟩
      refine wpAny_bind (wpAny_isInstance (T := "StopIteration") (b := true) ⟨o, ho, hco⟩ isSubtype_stop ?_)
      exact wpAny_pure (hQ _ he')
    exact key _ fun h' eb => ⟨rfl, I.turned (t' := s.toks) (fun b o hb q => eb b o hb q) f0 f1 f3 f4 f5⟩
  self := fun A i s Q E ⟨⟨_, he⟩, _⟩ h => wpAny_pyIter_enum he h
theorem walk_enumT {K : PySem.W.Frag} {a : Addr} {xs : List V} : Walk (IteT K a) xs.length (fun H => SqT K H a xs) (YPair (fun i => some (.int (i : Nat))) (fun i => xs[i]?)) := by
  refine ⟨fun i _ hi q => ⟨xs, xs[i], q, by simp [hi]⟩, fun _ q => ⟨xs, q, Nat.le_refl _⟩, fun i H v H' _ q y => ?_⟩
  obtain ⟨T, x, h1, h2, h3, h4⟩ := y
  exact ⟨T, .int (i : Nat), x, h1, h2, h3, rfl, h4 xs q⟩
/-- enumerate of a list or a tuple -/
def iEnumA (K : PySem.W.Frag) (ta : TA) : TI := fun σ H R => ta σ H fun vs H1 => ∃ a xs J, vs = [.ref a] ∧ ((J = Ite K a ∧ SqL K H1 a xs) ∨ (J = IteT K a ∧ SqT K H1 a xs)) ∧ R J H1
theorem pi_enumA {X : Cx} {e : Expr} {ta : TA} {p pos tpos : Pos} {elts : List Expr} {kk : Nat} (hg : Gl X "enumerate") (hm : X.mg "enumerate" = none) (ha : PA X [e] ta) (hs : starEach [e] X.env = [(false, eval e X.env)] := by rfl) :
    PI X (.Tuple elts kk tpos) (.Call (.Name "enumerate" p) [e] [] pos) (iEnumA X.K ta) := by
  refine ⟨fun pins s σ H R I h => ?_⟩
  refine Call_ (ld_blt I hg hm boot_enumerate (PyProof.Rows.callWith_type1 (thn (ha.run pos pins s σ H _ I h) ?_) hs rfl))
  rintro us s1 ⟨vs, H1, I1, r1, a, xs, J, rfl, hJ, q⟩
  match us, r1 with
  | [_], .cons r .nil =>
    cases r
    have fresh2 : ∀ b ∈ [s1.heap.objs.size + 1, s1.heap.objs.size], FpOk X pins H1 b := by
      intro b hb
      have hle : s1.heap.objs.size ≤ b := by
        simp only [List.mem_cons, List.not_mem_nil, or_false] at hb
        omega
      exact I1.fpOk hle (I1.hok.fresh hle)
    rcases hJ with ⟨rfl, hq⟩ | ⟨rfl, hq⟩
    · obtain ⟨its, rv, p', hz⟩ := I1.list hq
      refine call_enumerate_list p'.isList fun h' he hit hsz hk => wpAny_pyIter_enum he ?_
      have I2 : Inv X pins σ H1 { s1 with heap := h' } := I1.kept (t' := s1.toks) hk
      exact ⟨s1.heap.objs.size + 1, [s1.heap.objs.size + 1, s1.heap.objs.size], _, _, H1, rfl, I2, turn_enum a (s1.heap.objs.size + 1) s1.heap.objs.size, ⟨⟨.none, he⟩, hit, Nat.succ_ne_self _⟩, fresh2, q⟩
    · obtain ⟨its, rv, p', hz⟩ := I1.tuple hq
      obtain ⟨oa, hoa, _⟩ := id p'
      have hlt := Heap.lt_size hoa
      refine call_enumT (show s1.heap.IsTuple a its.toArray from p') fun h' he hit hsz hk => wpAny_pyIter_enum he ?_
      have I2 : Inv X pins σ H1 { s1 with heap := h' } := I1.kept (t' := s1.toks) hk
      exact ⟨s1.heap.objs.size + 1, [s1.heap.objs.size + 1, s1.heap.objs.size], _, _, H1, rfl, I2, turn_enumT a (s1.heap.objs.size + 1) s1.heap.objs.size, ⟨⟨.none, he⟩, hit, Nat.succ_ne_self _, Nat.ne_of_lt (Nat.lt_succ_of_lt hlt), Nat.ne_of_lt hlt⟩, fresh2, q⟩
theorem x_forEA {K : PySem.W.Frag} {σ : L2.St} {H : Hp} {ta : TA} {g : TG} {tb : TS} {D : Ends}
    (h : ta σ H fun vs H1 => ∃ a xs J, vs = [.ref a] ∧ ((J = Ite K a ∧ SqL K H1 a xs) ∨ (J = IteT K a ∧ SqT K H1 a xs)) ∧ tFor (iAt J) g tb D σ H1) : tFor (iEnumA K ta) g tb D σ H := h
end G
set_option maxHeartbeats 4000000
/-! Part Wd: dicts with tuples as keys, by statements; what stays taken back to be changed; what stands in the heap taken in. -/
namespace G
open PySem PySem.Spec PyProof.Rows L2
section
variable {σ : L2.St} {H : Hp} {Q : VK}
theorem x_dnT (h : nw (.dT []) H Q) : tDNewT σ H Q := h
theorem x_dput {td ty tv : TE} {n b1 c1 : L2.St → Hp → Prop} {r1 : VK} (h : tv σ H fun v H1 => td σ H1 fun x H2 => ty σ H2 fun y H3 => ∃ a H4, x = .ref a ∧ DPut H3 a y v H4 ∧ n σ H4) : sDPut td ty tv ⟨n, r1, b1, c1⟩ σ H := h
end
/-- without what stands at a -/
def dl (G : Hp) (a : Addr) : Hp := fun x => if x = a then none else G x
section
variable {G G0 G' H : Hp} {L : List (Addr × HO)} {a b : Addr} {o u : HO}
theorem del_same (x : Addr) (h : x ≠ a) : dl G a x = G x := if_neg h
end
/-- no tuple is ours -/
def NoT (R : List (Addr × HO)) : Prop := ∀ x ∈ R, ∀ xs, x.2 ≠ .tup xs
theorem NoT.nil : NoT [] := fun _ z => nomatch z
theorem NoT.lst {R : List (Addr × HO)} {p : Addr} {xs : List V} (h : NoT R) : NoT ((p, .lst xs) :: R) := fun x hx ys => by
  rcases List.mem_cons.mp hx with rfl | hx
  · exact fun z => nomatch z
  · exact h x hx ys
theorem NoT.dT {R : List (Addr × HO)} {p : Addr} {kvs : List (List Key × V)} (h : NoT R) : NoT ((p, .dT kvs) :: R) := fun x hx ys => by
  rcases List.mem_cons.mp hx with rfl | hx
  · exact fun z => nomatch z
  · exact h x hx ys
end G
set_option maxHeartbeats 4000000
/-! Part Wl: comprehensions that make a new list for each item. -/
namespace G
open PySem PySem.Spec PyProof.Rows L2
/-- lists that stand, all new behind G0, all different, q the list of them -/
structure News (G0 G : Hp) (q : Addr) (Ls : List (Addr × List V)) : Prop where
  at_ : G q = some (.lst (Ls.map fun l => V.ref l.1))
  its : ∀ l ∈ Ls, G l.1 = some (.lst l.2)
  nd : (q :: Ls.map (·.1)).Nodup
  new : ∀ a ∈ q :: Ls.map (·.1), G0 a = none
theorem News.same {G0 G G' : Hp} {q : Addr} {Ls : List (Addr × List V)} (h : News G0 G q Ls) (s : Same G G') : News G0 G' q Ls := ⟨s _ _ h.at_, fun l hl => s _ _ (h.its l hl), h.nd, h.new⟩
section
variable {σ : L2.St} {H : Hp} {Q : VK} {K : PySem.W.Frag} {g : TG} {te : TE} {vs : List Nat} {J : It} {n : Nat} {Gd : Hp → Prop} {Y : Nat → Hp → V → Hp → Prop} {G : Hp} {L : List (Addr × HO)}
end
end G
set_option maxHeartbeats 4000000
/-! Part Wm: comprehensions that make a new list for each item; all the lists stay ours. -/
namespace G
open PySem PySem.Spec PyProof.Rows L2
/-- entries of lists -/
def E2 (Ls : List (Addr × List V)) : List (Addr × HO) := Ls.map fun l => (l.1, .lst l.2)
section
variable {σ : L2.St} {H : Hp} {Q : VK} {K : PySem.W.Frag} {g : TG} {te : TE} {vs : List Nat} {J : It} {n : Nat} {Gd : Hp → Prop} {Y : Nat → Hp → V → Hp → Prop} {G : Hp} {L : List (Addr × HO)}
def PvO (L : List (Addr × HO)) (Rl : Hp → Nat → List V → Prop) : Nat → Hp → List (Addr × HO) → List V → Prop := fun i G' L' acc => ∃ Ls : List (Addr × List V), L' = E2 Ls ++ L ∧ acc = Ls.map (fun l => V.ref l.1) ∧ Ls.length = i ∧ ∀ (j : Nat) (l : Addr × List V), Ls[j]? = some l → Rl G' j l.2
theorem lc_listsO {σw : L2.St} (hw : wipe σ vs = σw) (W : Walk J n Gd Y) (O : Own G H L) (hn : n ≤ 2 ^ 19) (Rl : Hp → Nat → List V → Prop) (mono : ∀ G G' i y, Same G G' → Rl G i y → Rl G' i y)
    (hG : ∀ (G' H' : Hp) (L' : List (Addr × HO)), Same G G' → Own G' H' L' → Gd H')
    (st : ∀ (i : Nat) (x : V) (G' H' H2 : Hp) (D : Addr) (acc : List V) (L' : List (Addr × HO)), i < n → Same G G' → Own G' H' ((D, .lst acc) :: L') → Y i H' x H2 →
      (∀ (G4 H4 : Hp) (l : Addr) (ys : List V), Same G' G4 → Own G4 H4 ((l, .lst ys) :: (D, .lst acc) :: L') → Rl G4 i ys → LcN G (PvO L Rl) D i (.ref l) H4) → g x σw H2 fun σ2 H2 => wipe σ2 vs = σw ∧ te σ2 H2 (LcN G (PvO L Rl) D i))
    (gm : ∀ (x : V) (σ' : L2.St) (H' : Hp) (S S' : L2.St → Hp → Prop), (∀ a b, S a b → S' a b) → g x σ' H' S → g x σ' H' S')
    (fin : ∀ (G' H' : Hp) (p : Addr) (Ls : List (Addr × List V)), Same G G' → Own G' H' ((p, .lst (Ls.map fun l => V.ref l.1)) :: (E2 Ls ++ L)) → Ls.length = n → (∀ (i : Nat) (l : Addr × List V), Ls[i]? = some l → Rl G' i l.2) → Q (.ref p) H') : tLc (iAt J) g tYes te vs σ H Q := by
  subst hw
  refine lc_own rfl W O (PvO L Rl) ⟨[], rfl, rfl, rfl, fun j l e => by simp at e⟩ ?_ ?_ ?_
  · rintro i G' H' D L' acc s' O' _
    exact hG G' H' _ s' O'
  · rintro i x G' H' H2 D L' acc hi s' O' ⟨Ls, rfl, rfl, hl, h4⟩ y
    refine gm _ _ _ _ _ (fun a b => ?_) (st i x G' H' H2 D _ _ hi s' O' y ?_)
    · rintro ⟨e1, e2⟩
      exact ⟨e1, x_yes (ite_t e2)⟩
    · intro G4 H4 l ys s4 O4 r4
      have O5 : Own G4 H4 ((D, .lst (Ls.map fun l => V.ref l.1)) :: (E2 (Ls ++ [(l, ys)]) ++ L)) := by
        refine O4.perm ((List.Perm.swap _ _ _).trans (List.Perm.cons _ ?_))
        unfold E2
        rw [List.map_append, List.append_assoc]
        exact (List.perm_middle (a := (l, HO.lst ys)) (l₁ := Ls.map fun l => (l.1, HO.lst l.2)) (l₂ := L)).symm
      refine lcn (s'.trans s4) O5 (lt_line (by rw [List.length_map]; omega)) ⟨Ls ++ [(l, ys)], rfl, by rw [List.map_append]; rfl, by rw [List.length_append, List.length_singleton, hl], fun j q e => ?_⟩
      rcases Nat.lt_trichotomy j Ls.length with h | h | h
      · rw [List.getElem?_append_left h] at e
        exact mono _ _ _ _ s4 (h4 j q e)
      · subst h
        rw [List.getElem?_append_right (Nat.le_refl _), Nat.sub_self] at e
        cases e
        rw [hl]
        exact r4
      · rw [List.getElem?_eq_none (by rw [List.length_append]; simp; omega)] at e
        cases e
  · rintro G' H' D L' acc s' O' ⟨Ls, rfl, rfl, hl, h4⟩
    exact fin G' H' D Ls s' O' hl h4
end
end G
set_option maxHeartbeats 4000000
/-! Part Je: == and != of lists of flat items, whatever their texts. -/
namespace G
open PySem PySem.Spec PyProof.Rows L2
section
variable {X : Cx} {K : PySem.W.Frag}
end
end G
set_option maxHeartbeats 4000000
/-! Part Gd: a list by a comprehension of two clauses. -/
namespace G
open PySem PySem.Spec PyProof.Rows L2
section
variable {X : Cx}
/-- [elt for ..]: an item appended -/
def tAppL (te : TE) (D : Addr) : L2.St → Hp → (Hp → Prop) → Prop := fun σ H Nx => te σ H fun y H1 => ∃ acc, H1 D = some (.lst acc) ∧ acc.length < sizeLine ∧ Nx (upd H1 D (.lst (acc ++ [y])))
def listLeaf (elt : Expr) (D : Addr) (env : Env) : Sem Unit := do
  let _ ← call (.builtin "list.append") [.ref D, ← eval elt env]
theorem body_appL {elt : Expr} {te : TE} {D : Addr} (hx : X.xe = fun _ _ => False) (he : PE X elt te) : BodyOk X (listLeaf elt D X.env) [] (tAppL te D) := by
  intro pins s σ H Nx I h
  unfold listLeaf
  refine wpAny_bind (thnX hx (he.run pins s σ H _ I h) fun u s1 ⟨y, H1, I1, r1, acc, eD, hz, nx⟩ => ?_)
  refine wpAny_bind (app_ok I1 eD hz r1 fun s' I' => ?_)
  exact wpAny_pure ⟨_, I', nx⟩
theorem newList_ok {P : Program} {w : World} {A : Around} (Q' : Value → Shared → Prop) (E : Value → Shared → Prop) (s : Shared) (h : Q' (.ref s.heap.objs.size) { s with heap := s.heap.push { cls := .type "list", data := .seq ([] : List Value).toArray } }) : wpAny (model P w) A (newList []) Q' E s := wpAny_newObj_type h (by show 0 ≤ sizeLine; decide)
/-- name = [elt for .. for ..] on one line, the name a local -/
theorem ps_setLcL2 {i : Nat} {y : Str} {py : Pos} {elt tg iter tg1 iter1 : Expr} {ifs ifs1 : List Expr} {scope : Scope} {own : List (Str × Nat)} {vs1 : List Nat} {pos spos : Pos} {wi wi1 : TI} {g g1 : TG} {tt tt1 : TT} {te : TE} (hc : X.calm = true) (hN : X.N.Nodup) (hy : X.N[i]? = some y) (hyl : X.env.scope.names.lookup y = some .local)
    (hsw : swapsWith (.ListComp elt [⟨tg, iter, ifs, 0⟩, ⟨tg1, iter1, ifs1, 0⟩] scope pos) (some (.Name y py)) spos.line X.env = pure true) (hi : PI X tg iter wi) (ok : BlkOk X.N X.env.scope scope own) (hv : ∀ i ∈ vs1, i ∈ own.map (·.2))
    (hg : ∀ (s : Shared) (H : Hp) (C : Addr) (cl : List (Str × Addr)) (fp : List Addr), PG (X.blk s H scope (compEnvC scope cl C X.env) fp) tg g) (ht : ∀ (s : Shared) (H : Hp) (C : Addr) (cl : List (Str × Addr)) (fp : List Addr), PTs (X.blk s H scope (compEnvC scope cl C X.env) fp) ifs tt)
    (hi1 : ∀ (s : Shared) (H : Hp) (C : Addr) (cl : List (Str × Addr)) (fp : List Addr), PI (X.blk s H scope (compEnvC scope cl C X.env) fp) tg1 iter1 wi1)
    (hg1 : ∀ (s : Shared) (H : Hp) (C : Addr) (cl : List (Str × Addr)) (fp : List Addr), PG (X.blk s H scope (compEnvC scope cl C X.env) fp) tg1 g1) (ht1 : ∀ (s : Shared) (H : Hp) (C : Addr) (cl : List (Str × Addr)) (fp : List Addr), PTs (X.blk s H scope (compEnvC scope cl C X.env) fp) ifs1 tt1)
    (he : ∀ (s : Shared) (H : Hp) (C : Addr) (cl : List (Str × Addr)) (fp : List Addr), PE (X.blk s H scope (compEnvC scope cl C X.env) fp) elt te)
    (hs : ∀ x, foldedSetIterable iter X.env x = pure x := by intro _; rfl) (hs1 : ∀ env x, foldedSetIterable iter1 env x = pure x := by intro _ _; rfl) :
    PS X (.Assign [.Name y py] (.ListComp elt [⟨tg, iter, ifs, 0⟩, ⟨tg1, iter1, ifs1, 0⟩] scope pos) spos) (tAsg (tComp wi g tt (fun _ => .lst []) (fun D => tIn wi1 g1 tt1 (tAppL te D) vs1) (own.map (·.2))) (gName i)) := by
  refine ⟨fun pins s σ H D I h => ?_⟩
  rw [exec_Assign_Name_used _ _ _ _ hsw]
  refine wpAny_bind (wpAny_standAt (wpAny_bind ?_))
  show wpAny _ X.A (do let _ ← comprehension (.ListComp elt [⟨tg, iter, ifs, 0⟩, ⟨tg1, iter1, ifs1, 0⟩] scope pos) scope X.env (firstIterPos [⟨tg, iter, ifs, 0⟩, ⟨tg1, iter1, ifs1, 0⟩] pos) (newList []) false (eval iter X.env) (some (assign (.Name y py) X.env))) _ _ s
  have h : tComp wi g tt (fun _ => .lst []) (fun D => tIn wi1 g1 tt1 (tAppL te D) vs1) (own.map (·.2)) σ H (fun x H1 => gName i x σ H1 D.nx) := h
  refine wpAny_bind (thn (comp_core (p := iter.pos) (u0 := fun _ => .lst []) (tb := fun D => tIn wi1 g1 tt1 (tAppL te D) vs1) (Qf := fun _ s' => SP X pins D .next s') (body := fun D env => nextClause (.ListComp elt [⟨tg, iter, ifs, 0⟩, ⟨tg1, iter1, ifs1, 0⟩] scope pos) 1 iter1 (.ref D) env) (vb := vs1) compE_list rfl newList_ok (fun _ _ _ s I => ⟨Nat.zero_le _, [], 0, .nil, Heap.get?_push_size _ rfl⟩) (fun _ _ => turn_next fun _ => rfl) hc hN I hi ok hg ht (fun s H C cl fp D =>
    body_next (X := X.blk s H scope (compEnvC scope cl C X.env) fp) (p := iter1.pos) hc rfl compE_list (fun _ => rfl) rfl (hi1 s H C cl fp) (hg1 s H C cl fp) (ht1 s H C cl fp) (body_appL (X := X.blk s H scope (compEnvC scope cl C X.env) fp) rfl (he s H C cl fp)) hs1 (fun _ z => nomatch z)) hv hs h fun L C s' m H' I' q hn f => ?_) fun _ s' hq => wpAny_pure (wpAny_pure hq))
  show wpAny _ _ (assign (.Name y py) X.env (.ref L)) _ _ _
  refine wpAny_assign_Name (store_ok2 (v := V.ref L) I' hN hy (.inl hyl) rfl (fun s2 I2 ⟨a, sb, ha⟩ => ?_) (.inr hyl))
  obtain ⟨f0, f1, f2, f3, f4, f5⟩ := f
  have haC : C ≠ a := by
    rcases ha with z | z
    · rw [z]; exact f1
    · exact fun e => f4 y a z e.symm
  refine ⟨m, hn.sameBut sb haC, fun h3 sb3 => ?_⟩
  exact ⟨_, H', I2.turned (t' := s2.toks) (fun b o hb e => (sb3.2 b hb).trans e) f0 f1 f3 f4 f5, q⟩
end
section
variable {X : Cx} {K : PySem.W.Frag} {σ : L2.St} {H : Hp} {e : Expr} {es : List Expr} {te : TE} {t : TA} {p : Pos} {Q : List V → Hp → Prop}
theorem pa_starK (hK : X.K = K) (he : PE X e te) (hr : PA X es t) (hs : starEach (.Starred e p :: es) X.env = (true, eval e X.env) :: starEach es X.env := by rfl) : PA X (.Starred e p :: es) (StX.tStar K te t) := by subst hK; exact StX.pa_star he hr hs
theorem x_star (h : te σ H fun x H1 => ∃ p xs, x = V.ref p ∧ (SqT K H1 p xs ∨ SqL K H1 p xs) ∧ t σ H1 fun ys H2 => Q (xs ++ ys) H2) : StX.tStar K te t σ H Q := h
theorem x_appL {te : TE} {D : Addr} {Nx : Hp → Prop} (h : te σ H fun y H1 => ∃ acc, H1 D = some (.lst acc) ∧ acc.length < sizeLine ∧ Nx (upd H1 D (.lst (acc ++ [y])))) : tAppL te D σ H Nx := h
end
end G
set_option maxHeartbeats 4000000
/-! Part Dc: {k: v for .. in ..}, one clause, keys texts or ints, by what is owned. -/
namespace G
open PySem PySem.Spec PyProof.Rows L2
section
variable {J : It} {n : Nat} {Gd : Hp → Prop} {Y : Nat → Hp → V → Hp → Prop} {G H : Hp} {L : List (Addr × HO)} {σ : L2.St} {Q : VK} {g : TG} {tt : TT} {tk tv : TE} {vs : List Nat}
def PvD (G : Hp) (Pv : Nat → Hp → List (Addr × HO) → List (Key × V) → Prop) (D : Addr) (i : Nat) (H : Hp) : Prop := ∃ G' L' kvs, Same G G' ∧ Own G' H ((D, .dK kvs) :: L') ∧ Pv i G' L' kvs
def DcN (G : Hp) (Pv : Nat → Hp → List (Addr × HO) → List (Key × V) → Prop) (D : Addr) (i : Nat) (y : V) : VK := fun z H5 => ∃ kvs k, y = kV k ∧ H5 D = some (.dK kvs) ∧ kvs.length < sizeLine ∧ PvD G Pv D (i + 1) (upd H5 D (.dK (putK kvs k z)))
theorem dcn {Pv : Nat → Hp → List (Addr × HO) → List (Key × V) → Prop} {D : Addr} {i : Nat} {z : V} {k : Key} {G4 H4 : Hp} {L4 : List (Addr × HO)} {kvs : List (Key × V)} (s : Same G G4) (O : Own G4 H4 ((D, .dK kvs) :: L4)) (hz : kvs.length < sizeLine) (p : Pv (i + 1) G4 L4 (putK kvs k z)) : DcN G Pv D i (kV k) z H4 :=
  ⟨kvs, k, rfl, O.at0, hz, G4, L4, putK kvs k z, s, O.upd0, p⟩
theorem dc_own {σw : L2.St} (hw : wipe σ vs = σw) (W : Walk J n Gd Y) (O : Own G H L) (Pv : Nat → Hp → List (Addr × HO) → List (Key × V) → Prop) (h0 : Pv 0 G L [])
    (hG : ∀ (i : Nat) (G' H' : Hp) (D : Addr) (L' : List (Addr × HO)) (kvs : List (Key × V)), Same G G' → Own G' H' ((D, .dK kvs) :: L') → Pv i G' L' kvs → Gd H')
    (st : ∀ (i : Nat) (x : V) (G' H' H2 : Hp) (D : Addr) (L' : List (Addr × HO)) (kvs : List (Key × V)), i < n → Same G G' → Own G' H' ((D, .dK kvs) :: L') → Pv i G' L' kvs → Y i H' x H2 →
      g x σw H2 fun σ2 H2 => wipe σ2 vs = σw ∧ tt σ2 H2 fun k H3 => if k = true then tk σ2 H3 fun y H4 => tv σ2 H4 (DcN G Pv D i y) else PvD G Pv D (i + 1) H3)
    (fin : ∀ (G' H' : Hp) (D : Addr) (L' : List (Addr × HO)) (kvs : List (Key × V)), Same G G' → Own G' H' ((D, .dK kvs) :: L') → Pv n G' L' kvs → Q (.ref D) H') : tDc (iAt J) g tt tk tv vs σ H Q := by
  subst hw
  intro D hD
  refine ⟨fun i m H => m = n - i ∧ i ≤ n ∧ PvD G Pv D i H, ⟨n, by simp, Nat.zero_le _, G, L, [], Same.refl G, O.new hD, h0⟩, ?_⟩
  rintro i m H ⟨rfl, hi, G', L', kvs, s, O', p⟩
  have q := hG i G' H D L' kvs s O' p
  by_cases hlt : i < n
  · exact .inr ⟨W.goes i H hlt q, PvD G Pv D (i + 1), fun H' p' => ⟨n - (i + 1), by omega, rfl, hlt, p'⟩, fun x H' y => st i x G' H H' D L' kvs hlt s O' p (W.yields i H x H' hlt q y)⟩
  · have e : i = n := by omega
    subst e
    exact .inl ⟨W.stops H q, fin G' H D L' kvs s O' p⟩
theorem x_dcS {K : PySem.W.Frag} {tl : TE} (h : tl σ H fun x H1 => ∃ a xs, x = .ref a ∧ ((SqL K H1 a xs ∧ tDc (iAt (Itl K a)) g tt tk tv vs σ H1 Q) ∨ (SqT K H1 a xs ∧ tDc (iAt (Itt K a)) g tt tk tv vs σ H1 Q))) : tDc (iSq K tl) g tt tk tv vs σ H Q := h
end
end G
set_option maxHeartbeats 4000000
/-! Part Cw: defs called by names alone; defs called where their errors are caught. -/
namespace G
open PySem PySem.Spec PyProof.Rows L2
/-- a def called by names alone, written in the parameters' order turned round -/
def CalR (P : Program) (w : World) (K : PySem.W.Frag) (mg : Str → Option Value) (base : Heap) (k : Nat) (x : Str) (ps ks : List Str) (sp : Sp) : Prop :=
  ∃ f fd, FnG P w K mg base k f fd ps sp ∧ mg x = some (.ref f) ∧ PySem.W.keepIn K (.ref f) = true ∧ ∀ (s : Shared) (us : List Value), K.In s.heap → us.length = ks.length → BindsTo s fd ⟨[], ks.zip us⟩ (ps.zip us.reverse)
def tCallR (sp : Sp) (E : XK) (tk : TA) : TE := fun σ H Q => tk σ H fun vs H1 => sp vs.reverse H1 Q E
/-- .. errors go to where they are caught -/
def tCallW (sp : Sp) (W : WX) (t : TA) : TE := fun σ H Q => t σ H fun vs H1 => sp vs H1 Q (WE W σ)
def tCallRW (sp : Sp) (W : WX) (tk : TA) : TE := fun σ H Q => tk σ H fun vs H1 => sp vs.reverse H1 Q (WE W σ)
theorem CalR.up {P : Program} {w : World} {K : PySem.W.Frag} {mg : Str → Option Value} {base : Heap} {j k : Nat} {x : Str} {ps ks : List Str} {sp : Sp} (C : CalR P w K mg base j x ps ks sp) (h : j ≤ k) : CalR P w K mg base k x ps ks sp :=
  let ⟨f, fd, F, r⟩ := C
  ⟨f, fd, F.up h, r⟩
section
variable {X : Cx} {k : Nat} {ps ks : List Str} {sp : Sp} {E : XK} {W : WX} {x : Str} {p pos : Pos} {kws : List Keyword} {tk t : TA} {e : Expr} {es : List Expr}
theorem g_callR (C : CalR X.prog X.w X.K X.mg X.base k x ps ks sp) (r : Rm k X.A) (hg : Gl X x) (hx : Passes (L2.CX X.prog X.w) X E) (hkw : PK X kws tk) (hdb : (x == ("__debug__" : Str)) = false := by decide)
    (hall : (backToKw pos (keywordEach kws X.env)).all (·.1.isSome) = true := by rfl) (hks : (backToKw pos (keywordEach kws X.env)).filterMap (·.1) = ks := by rfl) (hln : kws.length = ks.length := by rfl)
    (hpl : ((backTo pos (starEach [] X.env)).any (·.1) || (backToKw pos (keywordEach kws X.env)).any (·.1.isNone)) = false := by rfl) (hpk : ps.length = ks.length := by rfl) :
    PE X (.Call (.Name x p) [] kws pos) (tCallR sp E tk) := by
  obtain ⟨f, fd, F, hm, hk, hb⟩ := C
  constructor
  intro pins s σ H Q I h
  apply wpAny_Call_Name_kw
  refine ld_glob I hg hm ?_ hdb
  refine PySem.W.callWith_KW0 (h₀ := X.base) I.ok.mod.kin hk hall ?_ hpl
  refine thn (hkw.run pos pins s σ H _ I h) ?_
  rintro ws s1 ⟨zs, H1, I1, rz, q⟩
  refine ⟨I1.kIn, ?_⟩
  rw [hks]
  have hz := F.arity _ _ _ _ q
  rw [List.length_reverse, hpk] at hz
  exact fn_go F r (hb s1 ws I1.kIn (by rw [← rz.length]; exact hz)) hx I1 rz.reverse q
theorem g_callRW (C : CalR X.prog X.w X.K X.mg X.base k x ps ks sp) (r : Rm k X.A) (hg : Gl X x) (tks : Takes X W) (hkw : PK X kws tk) (hdb : (x == ("__debug__" : Str)) = false := by decide)
    (hall : (backToKw pos (keywordEach kws X.env)).all (·.1.isSome) = true := by rfl) (hks : (backToKw pos (keywordEach kws X.env)).filterMap (·.1) = ks := by rfl) (hln : kws.length = ks.length := by rfl)
    (hpl : ((backTo pos (starEach [] X.env)).any (·.1) || (backToKw pos (keywordEach kws X.env)).any (·.1.isNone)) = false := by rfl) (hpk : ps.length = ks.length := by rfl) :
    PE X (.Call (.Name x p) [] kws pos) (tCallRW sp W tk) := by
  obtain ⟨f, fd, F, hm, hk, hb⟩ := C
  constructor
  intro pins s σ H Q I h
  apply wpAny_Call_Name_kw
  refine ld_glob I hg hm ?_ hdb
  refine PySem.W.callWith_KW0 (h₀ := X.base) I.ok.mod.kin hk hall ?_ hpl
  refine thn (hkw.run pos pins s σ H _ I h) ?_
  rintro ws s1 ⟨zs, H1, I1, rz, q⟩
  refine ⟨I1.kIn, ?_⟩
  rw [hks]
  have hz := F.arity _ _ _ _ q
  rw [List.length_reverse, hpk] at hz
  exact fn_goS F r tks (hb s1 ws I1.kIn (by rw [← rz.length]; exact hz)) I1 rz.reverse q
theorem g_callW (Cf : Cal X.prog X.w X.K X.mg X.base k x ps sp) (r : Rm k X.A) (hg : Gl X x) (tks : Takes X W) (ha : PA X (e :: es) t) (hdb : (x == ("__debug__" : Str)) = false := by decide)
    (he : starEach (e :: es) X.env = (false, eval e X.env) :: starEach es X.env := by rfl) (hpl : (backTo pos (starEach es X.env)).any (·.1) = false := by rfl) :
    PE X (.Call (.Name x p) (e :: es) [] pos) (tCallW sp W t) := by
  obtain ⟨f, fd, F, hm, hk, hb⟩ := Cf
  constructor
  intro pins s σ H Q I h
  apply wpAny_Call_Name_kw
  refine ld_glob I hg hm ?_ hdb
  refine PySem.W.callWith_K (h₀ := X.base) I.ok.mod.kin hk ?_ he hpl
  refine thn (ha.run pos pins s σ H _ I h) ?_
  rintro us s1 ⟨vs, H1, I1, rv, q⟩
  refine ⟨I1.kIn, ?_⟩
  have hl : us.length = ps.length := by rw [← rv.length]; exact F.arity _ _ _ _ q
  have hb' := hb s1 us I1.kIn (by rw [List.append_nil]; exact hl)
  rw [List.append_nil] at hb'
  exact fn_goS F r tks hb' I1 rv q
end
section
variable {sp : Sp} {W : WX} {E : XK} {t : TA} {σ : L2.St} {H : Hp} {Q : VK}
theorem x_callW (h : t σ H fun vs H1 => sp vs H1 Q (WE W σ)) : tCallW sp W t σ H Q := h
theorem x_callRW (h : t σ H fun vs H1 => sp vs.reverse H1 Q (WE W σ)) : tCallRW sp W t σ H Q := h
theorem x_callR (h : t σ H fun vs H1 => sp vs.reverse H1 Q E) : tCallR sp E t σ H Q := h
end
end G
set_option maxHeartbeats 4000000
/-! Part St: l[i::2] of a list; text * number. -/
namespace G
open PySem PySem.Spec PyProof.Rows L2
section
variable {X : Cx} {K : PySem.W.Frag}
end
section
variable {K : PySem.W.Frag} {σ : L2.St} {H : Hp} {Q : VK} {te tl : TE} {st : Int}
end
end G
namespace M04
open PySem PySem.Spec PyProof.Rows L2 G
local macro_rules | `(tactic| walk_at "hp") => `(tactic| first | assumption | exact Own.at0 (by assumption) | exact Own.at1 (by assumption) | exact Own.at2 (by assumption) | exact Own.at3 (by assumption) | exact Own.sub (by assumption) _ _ (by assumption) | exact upd_same)
local macro_rules | `(tactic| walk_at "hl") => `(tactic| first | assumption | exact SqL.of (by walk_at "hp") | exact Own.seq (by assumption) (by assumption) | exact Own.seq (by assumption) (SqL.of (by assumption)))
local macro_rules | `(tactic| walk_at "ht") => `(tactic| first | assumption | exact SqT.of (by walk_at "hp") | exact Own.set (by assumption) (by assumption) | exact Own.set (by assumption) (SqT.of (by assumption)))
local macro_rules | `(tactic| walk_at "n") => `(tactic| (intros; (try dsimp only [List.set, wipe, List.map, List.set_cons_succ, List.set_cons_zero]); (try exact rfl)))
local macro_rules | `(tactic| walk_at "n1") => `(tactic| with_reducible first | (refine x_asgN (σ' := ?s) ?hs ?q; (case hs => walk_at "n")) | (refine x_gN (σ' := ?s) ?hs ?q; (case hs => walk_at "n")) | (refine And.intro (show wipe _ _ = _ from (by walk_at "n")) ?_) | (refine x_parN (σ' := ?s) ?hs ?q; (case hs => walk_at "n")) | (refine x_par3N (σ' := ?s) ?hs ?q; (case hs => walk_at "n")))
local macro_rules | `(tactic| walk_at "v1") => `(tactic| ((with_reducible refine x_var (v := ?v) ?h ?q); (case h => first | exact rfl | assumption)))
local macro_rules | `(tactic| walk_at "s1") => `(tactic| with_reducible first | refine x_op ?_ | refine x_acons ?_ | refine x_c ?_ | refine x_call ?_ | refine x_anil ?_ | refine x_cb ?_ | refine x_seq ?_ | refine x_asgG ?_ | refine x_gC ?_ | refine x_gNl ?_ | refine x_ret ?_ | refine x_ifs ?_ | refine x_test ?_ | refine x_testb ?_ | refine x_and ?_ | refine x_or ?_ | refine x_andV ?_ | refine x_isB ?_ | refine x_add ?_ | refine x_lt ?_ | refine x_inti ?_ | refine x_isI ?_ | refine x_lst ?_ | refine x_tup ?_ | refine x_slice ?_ | refine x_nop ?_ | refine x_part ?_ | refine x_bm ?_ | refine x_sub ?_ | refine x_rI0 ?_ | refine x_drop ?_ | refine x_next ?_ | refine x_brk ?_ | refine x_cnt ?_ | refine x_par2 ?_ | refine x_par33 ?_ | refine x_un ?_ | refine x_rU ?_ | refine x_le ?_ | refine x_gt ?_ | refine x_ge ?_ | refine x_lts ?_ | refine x_intb ?_ | refine x_abs ?_ | refine x_tru ?_ | refine x_trub ?_ | refine x_trui ?_ | refine x_not ?_ | refine x_orV ?_ | refine x_notV ?_ | refine x_if ?_ | refine x_isN ?_ | refine x_isnN ?_ | refine x_dict ?_ | refine x_bm0 ?_ | refine x_revL ?_ | refine x_lcR ?_ | refine x_lcS ?_ | refine x_forR ?_ | refine x_forS ?_ | refine x_yes ?_ | refine ite_t ?_ | refine ite_f ?_)
local macro_rules | `(tactic| walk_at "s") => `(tactic| repeat (first | walk_at "v1" | walk_at "s1" | walk_at "n1"))
local macro_rules | `(tactic| walk_at "bd") => `(tactic| first | decide | omega | exact Nat.le_refl _)
local macro_rules | `(tactic| walk_at "ft") => `(tactic| first
  | with_reducible exact la_nil | with_reducible exact fa_nil | with_reducible exact ft_non | with_reducible exact ft_bl | with_reducible exact ft_dict | ((with_reducible refine ft_str (n := 10) (x := ?x) ?h); (case h => exact And.intro rfl (by decide))) | ((with_reducible refine ft_int (i := ?i) ?h); (case h => decide))
  | ((with_reducible refine ft_var (v := ?v) (m := ?m) (n := ?n) ?h ?f); (case h => exact rfl); (case f => assumption))
  | ((with_reducible refine fa_cons (m1 := ?a) (n1 := ?b) (m2 := ?c) (n2 := ?d) ?f ?g); (case f => walk_at "ft"); (case g => walk_at "ft"))
  | ((with_reducible refine ft_tup (m := ?m) (n := ?n) ?f ?h); (case f => walk_at "ft"); (case h => walk_at "bd"))
  | ((with_reducible refine ft_lst (m := ?m) (n := ?n) ?f ?h); (case f => walk_at "ft"); (case h => walk_at "bd"))
  | ((with_reducible refine la_cons (m1 := ?a) (n1 := ?b) (B := ?c) ?f ?g ?h ?i); (case f => walk_at "ft"); (case h => walk_at "bd"); (case i => walk_at "bd"); (case g => walk_at "ft"))
  | ((with_reducible refine lt_var (v := ?v) (m := ?m) (n := ?n) (B := ?b) ?h ?f); (case h => exact rfl); (case f => assumption))
  | ((with_reducible refine lt_add (B1 := ?a) (B2 := ?b) ?f ?g ?h); (case f => walk_at "ft"); (case g => walk_at "ft"); (case h => walk_at "bd"))
  | ((with_reducible refine ft_addsv (x := ?x) (m := ?m) (n := 10) ?h ?s ?a ?z); (case h => exact rfl); (case s => assumption); (case a => exact And.intro rfl (by decide)); (case z => decide))
  | ((with_reducible refine lt_lst ?f ?h); (case f => walk_at "ft"); (case h => walk_at "bd")))
section
open PySem PySem.Spec PyProof.Rows L2 G
set_option maxHeartbeats 4000000
def top (i : Nat) : Stmt := PySem.Challenge.pw_mayforget_k26_rows_by_own_cases.main.body.getD i (.Pass ⟨0, 0, 0, 0⟩)

section
variable {P : Program} {w : World} {K : PySem.W.Frag} {mg : Str → Option Value} {base : Heap} {k : Nat}
/-! ### a draw -/
abbrev s__law_take : Stmt := top 42
theorem sc__law_take : FnScope ["box", "many", "digit", "mixed"] ["box", "many"] (defScope s__law_take) := ⟨rfl, rfl, rfl, by decide +kernel, rfl, by decide +kernel, by decide +kernel⟩
def sp_take : Sp := fun vs H Q _ => ∃ (G : Hp) (R : List (Addr × HO)) (b : Addr) (n : Int) (N : Nat) (bx : List V), vs = [.ref b, .int n] ∧ Own G H ((b, .lst bx) :: R) ∧ Box (N + 1) bx ∧ 0 < n ∧ n < 1000000000 ∧
  ∀ (H' : Hp) (r : Int) bx', 0 ≤ r → r < n → Own G H' ((b, .lst bx') :: R) → Box N bx' → Q (.int r) H'
theorem ok_take {f : Addr} {fd : FuncData} (F : Fun K "_law_take" "_law_take" s__law_take f fd) (B : Bt mg) : FnG P w K mg base (k + 1) f fd ["box", "many"] sp_take := by
  refine fnG_of F sc__law_take (fun vs H Q E h => ?_) (fun cdv A outer s H vs Q E r h => ?_)
  · obtain ⟨_, _, b, n, N, bx, rfl, _⟩ := h
    rfl
  · obtain ⟨G, R, b, n, N, bx, rfl, O, ⟨m, sd, c, fl, rfl, m0, s0, s1, c0, c1⟩, n0, n1, q⟩ := h
    refine ⟨_, (pss_cons (ps_if (PW.pt (pw_and (pt_truK (K := K) rfl (pe_ix (ixK (K := K) rfl) (pv 0) pe_int (fun _ _ => rfl))) (pw_and1 (pt_cmpR oGt (pe_ix (ixK (K := K) rfl) (pv 0) pe_int (fun _ _ => rfl)) pe_int (nomark _)))))
       (pss_cons (ps_set (i := 2) sc__law_take.nd rfl (Or.inl rfl) (pe_op op_modN (pe_callTy cInt (by rfl) B.int (by decide +kernel) (pa_cons (pe_ix (ixK (K := K) rfl) (pv 0) pe_int (fun _ _ => rfl)) pa_nil)) (pv 1)))
       (pss_cons (ps_asg (pe_op op_fdivN (pe_ix (ixK (K := K) rfl) (pv 0) pe_int (fun _ _ => rfl)) (pv 1)) (pg_sub (pv 0) pe_int sSet))
       (pss_one (ps_ret (pv 2)))))
       pss_nil)
       (pss_cons (ps_asg (pe_op (oAddK (K := K) rfl) (pe_ix (ixK (K := K) rfl) (pv 0) pe_int (fun _ _ => rfl)) pe_int) (pg_sub (pv 0) pe_int sSet))
       (pss_cons (ps_set (i := 3) sc__law_take.nd rfl (Or.inl rfl) (pe_op op_modN (pe_callTy cInt (by rfl) B.int (by decide +kernel) (pa_cons (pe_op op_pow (pe_op (oAddK (K := K) rfl) (pe_op (oAddK (K := K) rfl) (pe_ix (ixK (K := K) rfl) (pv 0) pe_int (fun _ _ => rfl)) (pe_op oMul pe_int (pe_ix (ixK (K := K) rfl) (pv 0) pe_int (fun _ _ => rfl)))) pe_int) pe_int) pa_nil)) pe_int))
       (pss_one (ps_ret (pe_op op_modN (pe_op op_fdivN (pe_op op_modN (pe_callTy cInt (by rfl) B.int (by decide +kernel) (pa_cons (pe_op op_pow (pe_op (oAddK (K := K) rfl) (pe_op oMul (pv 3) pe_int) (pe_op oMul pe_int (pe_ix (ixK (K := K) rfl) (pv 0) pe_int (fun _ _ => rfl)))) pe_int) pa_nil)) pe_int) pe_int) (pv 1))))))), ?_⟩
    try dsimp only [cxOf]
    refine x_start (σ' := [some _, some _, none, none]) rfl ?_
    refine x_seq ?_
    refine x_when ?rest (fun tl => ?_)
    case rest =>
      walk_at "s"
      refine x_ixl (SqL.of O.at0) rfl ?_
      walk_at "s"
      refine x_setl O.at0 rfl (x_md0 O fun H1 O1 => ?_)
      walk_at "s"
      refine x_ixl (SqL.of O1.at0) rfl ?_
      walk_at "s"
      refine x_ixl (SqL.of O1.at0) rfl ?_
      walk_at "s"
      refine x_mul (.inl ⟨by decide, by decide⟩) ?_
      walk_at "s"
      refine x_rI ⟨by decide, by decide, by omega⟩ ?_
      walk_at "s"
      refine x_rI (by decide) ?_
      walk_at "s"
      rw [Int.fmod_eq_emod_of_nonneg _ (by decide)]
      have x0 := Int.emod_nonneg ((sd + 15485863 * (c + 1) + 179424673) ^ Int.toNat 5) (show (2147483647 : Int) ≠ 0 by decide)
      have x1 := Int.emod_lt_of_pos ((sd + 15485863 * (c + 1) + 179424673) ^ Int.toNat 5) (show (0 : Int) < 2147483647 by decide)
      generalize ((sd + 15485863 * (c + 1) + 179424673) ^ Int.toNat 5) % 2147483647 = x at x0 x1 ⊢
      refine x_mul (.inr ⟨by decide, by decide⟩) ?_
      walk_at "s"
      refine x_ixl (SqL.of O1.at0) rfl ?_
      walk_at "s"
      refine x_mul (.inl ⟨by decide, by decide⟩) ?_
      walk_at "s"
      refine x_rI ⟨by decide, by decide, by omega⟩ ?_
      walk_at "s"
      refine x_rI (by decide) ?_
      walk_at "s"
      refine x_rI ⟨by decide, by decide⟩ ?_
      walk_at "s"
      refine x_rI (by omega) ?_
      rw [Int.fmod_eq_emod_of_nonneg _ (by omega)]
      exact q _ _ _ (Int.emod_nonneg _ (by omega)) (Int.emod_lt_of_pos _ n0) O1 ⟨m, sd, c + 1, fl, rfl, m0, s0, s1, by omega, by omega⟩
    walk_at "s"
    refine x_ixl (SqL.of O.at0) rfl ?_
    walk_at "s"
    refine ite_b (fun e1 => ?_) (fun e1 => tl)
    walk_at "s"
    refine x_ixl (SqL.of O.at0) rfl ?_
    walk_at "s"
    refine ite_b (fun e2 => ?_) (fun e2 => tl)
    have m1 : 0 < m := of_decide_eq_true e2
    walk_at "s"
    refine x_ixl (SqL.of O.at0) rfl ?_
    walk_at "s"
    refine x_rI (by omega) ?_
    walk_at "s"
    refine x_ixl (SqL.of O.at0) rfl ?_
    walk_at "s"
    refine x_rI ⟨by omega, by omega⟩ ?_
    walk_at "s"
    refine x_setl O.at0 rfl (x_md0 O fun H1 O1 => ?_)
    walk_at "s"
    rw [Int.fmod_eq_emod_of_nonneg m (by omega)]
    refine q _ _ _ (Int.emod_nonneg _ (by omega)) (Int.emod_lt_of_pos _ n0) O1 ⟨m.fdiv n, sd, c, fl, rfl, ?_, s0, s1, c0, by omega⟩
    rw [Int.fdiv_eq_ediv_of_nonneg _ (by omega)]
    exact Int.ediv_nonneg m0 (by omega)
/-! ### the cells -/
abbrev s__law_cell : Stmt := top 40
theorem sc__law_cell : FnScope ["script", "k"] ["script", "k"] (defScope s__law_cell) := ⟨rfl, rfl, rfl, by decide +kernel, rfl, by decide +kernel, by decide +kernel⟩
def sp_cell (K : PySem.W.Frag) : Sp := fun vs H Q _ => ∃ (G : Hp) (R : List (Addr × HO)) (a : Addr) (ns : List Int) (j : Nat), vs = [.ref a, .int j] ∧ Own G H R ∧ SqL K G a (ns.map V.int) ∧ ns.length ≤ 63 ∧ j < 100 ∧
  ∀ (G' H' : Hp) (i : Int), Same G G' → Own G' H' R → Q (.int i) H'
theorem ok_cell {f : Addr} {fd : FuncData} (F : Fun K "_law_cell" "_law_cell" s__law_cell f fd) (B : Bt mg) : FnG P w K mg base (k + 1) f fd ["script", "k"] (sp_cell K) := by
  refine fnG_of F sc__law_cell (fun vs H Q E h => ?_) (fun cdv A outer s H vs Q E r h => ?_)
  · obtain ⟨_, _, a, ns, j, rfl, _⟩ := h
    rfl
  · obtain ⟨G, R, a, ns, j, rfl, O, hs, hl, hj, q⟩ := h
    refine ⟨_, (pss_one (ps_ret (pe_ifExp (pt_cmpR oLt (pv 1) (pe_callB (cLenK (K := K) rfl) (by rfl) B.len (by decide +kernel) (pa_cons (pv 0) pa_nil)) (nomark _)) (pe_ix (ixK (K := K) rfl) (pv 0) (pv 1) (fun _ _ => rfl)) (pe_op (oAddK (K := K) rfl) (pe_op oMul pe_int (pv 1)) (pe_op op_modN (pe_callB (cSumK (K := K) rfl rfl) (by rfl) B.sum (by decide +kernel) (pa_cons (pe_slice (oSlK (K := K) rfl) (pv 0) po_none (po_some pe_int)) pa_nil)) pe_int))))), ?_⟩
    try dsimp only [cxOf]
    refine x_start (σ' := [some _, some _]) rfl ?_
    walk_at "s"
    refine x_lenl (O.seq hs) ?_
    walk_at "s"
    refine ite_b (fun e1 => ?_) (fun e1 => ?_)
    · have e2 := of_decide_eq_true e1
      rw [List.length_map] at e2
      have e3 : j < ns.length := by omega
      walk_at "s"
      refine x_ixl (v := .int ns[j]) (O.seq hs) (atI_nat (by simp [e3])) ?_
      exact q _ _ _ (Same.refl G) O
    · walk_at "s"
      refine x_mul (.inl ⟨by decide, by decide⟩) ?_
      walk_at "s"
      refine x_slL (O.seq hs) (x_fix O fun p G1 H1 s1 O1 h1 => ?_)
      walk_at "s"
      have ec : ∃ ms : List Int, cutV (ns.map V.int) none (some 1) = ms.map V.int := ⟨(ns.drop (HT.sIx (ns.map V.int).length 0 none)).take (HT.sIx (ns.map V.int).length (ns.map V.int).length (some 1) - HT.sIx (ns.map V.int).length 0 none), by
        unfold cutV
        rw [List.map_take, List.map_drop]⟩
      obtain ⟨ms, em⟩ := ec
      rw [em] at h1
      refine ⟨p, ms, rfl, O1.seq (SqL.of h1), ?_⟩
      walk_at "s"
      refine x_rI (by decide) ?_
      walk_at "s"
      exact q _ _ _ s1 O1
abbrev s__law_box : Stmt := top 41
theorem sc__law_box : FnScope ["great"] ["great"] (defScope s__law_box) := ⟨rfl, rfl, rfl, by decide +kernel, rfl, by decide +kernel, by decide +kernel⟩
def sp_box : Sp := fun vs H Q _ => ∃ (G : Hp) (R : List (Addr × HO)) (i : Int), vs = [.int i] ∧ Own G H R ∧
  ∀ (H' : Hp) (p : Addr) (bx : List V), Own G H' ((p, .lst bx) :: R) → Box 1000000000 bx → Q (.ref p) H'
theorem ok_box {f : Addr} {fd : FuncData} (F : Fun K "_law_box" "_law_box" s__law_box f fd) (B : Bt mg) : FnG P w K mg base (k + 1) f fd ["great"] sp_box := by
  refine fnG_of F sc__law_box (fun vs H Q E h => ?_) (fun cdv A outer s H vs Q E r h => ?_)
  · obtain ⟨_, _, i, rfl, _⟩ := h
    rfl
  · obtain ⟨G, R, i, rfl, O, q⟩ := h
    refine ⟨_, (pss_one (ps_ret (d_lst (pa_cons (pe_callB cAbs (by rfl) B.abs (by decide +kernel) (pa_cons (pv 0) pa_nil)) (pa_cons (pe_cmpR oGe (pe_callB cAbs (by rfl) B.abs (by decide +kernel) (pa_cons (pv 0) pa_nil)) (pe_op op_pow pe_int pe_int) (nomark _)) (pa_cons (pe_op op_modN (pe_callTy cInt (by rfl) B.int (by decide +kernel) (pa_cons (pe_callB cAbs (by rfl) B.abs (by decide +kernel) (pa_cons (pv 0) pa_nil)) pa_nil)) pe_int) (pa_cons pe_int pa_nil))))))), ?_⟩
    try dsimp only [cxOf]
    refine x_start (σ' := [some _]) rfl ?_
    walk_at "s"
    refine x_rI ⟨by decide, by decide, by decide⟩ ?_
    walk_at "s"
    refine x_rI (by decide) ?_
    walk_at "s"
    refine ⟨(show (4 : Nat) ≤ sizeLine by decide), x_new O fun p H1 O1 => ?_⟩
    rw [Int.fmod_eq_emod_of_nonneg _ (by decide)] at O1
    refine q _ _ _ O1 (show Box 1000000000 _ from ⟨_, _, 0, _, rfl, ?_, Int.emod_nonneg _ (by decide), Int.emod_lt_of_pos _ (by decide), by decide, by decide⟩)
    split <;> omega
end
end
section
open PySem PySem.Spec PyProof.Rows L2 G
set_option maxHeartbeats 4000000
section
variable {P : Program} {w : World} {K : PySem.W.Frag} {mg : Str → Option Value} {base : Heap} {k : Nat}
abbrev s_TooMany___init__ : Stmt := inClass (top 6) 0
theorem sc_TooMany___init__ : FnScope ["self", "count"] ["self", "count"] (defScope s_TooMany___init__) := ⟨rfl, rfl, rfl, by decide +kernel, rfl, by decide +kernel, by decide +kernel⟩
theorem ok_xi_TooMany {f C D : Addr} {fd : FuncData} (F : Fun K "__init__" "TooMany.__init__" s_TooMany___init__ f fd) (PAR : Par K mg "ForgetError" D) (T : OexC K C) (ng : PySem.W.findIn K (.ref C) "count" = some none) :
    FnG P w K mg base (k + 1) f fd ["self", "count"] (sp_xf "count" C) := by
  refine fnG_of F sc_TooMany___init__ (fun vs H Q E h => ?_) (fun cdv A outer s H vs Q E r h => ?_)
  · obtain ⟨_, _, rfl, _⟩ := h
    rfl
  · obtain ⟨a, v, rfl, ha, q⟩ := h
    refine ⟨_, (pss_cons (ps_expr (g_pinit PAR (by rfl) (pa_cons (pv 0) (pa_cons pe_str pa_nil))))
       (pss_one (ps_ost (pv 0) (pv 1)))), ?_⟩
    try dsimp only [cxOf]
    refine x_start (σ' := [some _, some _]) rfl ?_
    walk_at "s"
    refine x_vei ?_
    walk_at "s"
    refine ⟨a, C, _, rfl, by show 1 ≤ 1000; decide, T, ha, ?_⟩
    walk_at "s"
    refine x_ost ?_
    walk_at "s"
    refine ⟨a, C, rfl, T, ng, .inl ⟨ha, fun d hd hda => ?_⟩⟩
    exact q d hd hda
end
end
end M04
namespace M04
open PySem PySem.Spec PyProof.Rows L2 G
local macro_rules | `(tactic| walk_at "hp") => `(tactic| first | assumption | exact Own.at0 (by assumption) | exact Own.at1 (by assumption) | exact Own.at2 (by assumption) | exact Own.at3 (by assumption) | exact Own.sub (by assumption) _ _ (by assumption) | exact upd_same)
local macro_rules | `(tactic| walk_at "hl") => `(tactic| first | assumption | exact SqL.of (by walk_at "hp") | exact Own.seq (by assumption) (by assumption) | exact Own.seq (by assumption) (SqL.of (by assumption)))
local macro_rules | `(tactic| walk_at "ht") => `(tactic| first | assumption | exact SqT.of (by walk_at "hp") | exact Own.set (by assumption) (by assumption) | exact Own.set (by assumption) (SqT.of (by assumption)))
local macro_rules | `(tactic| walk_at "n") => `(tactic| (intros; (try dsimp only [List.set, wipe, List.map, List.set_cons_succ, List.set_cons_zero]); (try exact rfl)))
local macro_rules | `(tactic| walk_at "n1") => `(tactic| with_reducible first | (refine x_asgN (σ' := ?s) ?hs ?q; (case hs => walk_at "n")) | (refine x_gN (σ' := ?s) ?hs ?q; (case hs => walk_at "n")) | (refine And.intro (show wipe _ _ = _ from (by walk_at "n")) ?_) | (refine x_parN (σ' := ?s) ?hs ?q; (case hs => walk_at "n")) | (refine x_par3N (σ' := ?s) ?hs ?q; (case hs => walk_at "n")))
local macro_rules | `(tactic| walk_at "v1") => `(tactic| ((with_reducible refine x_var (v := ?v) ?h ?q); (case h => first | exact rfl | assumption)))
local macro_rules | `(tactic| walk_at "s1") => `(tactic| with_reducible first | refine x_op ?_ | refine x_acons ?_ | refine x_c ?_ | refine x_call ?_ | refine x_anil ?_ | refine x_cb ?_ | refine x_seq ?_ | refine x_asgG ?_ | refine x_gC ?_ | refine x_gNl ?_ | refine x_ret ?_ | refine x_ifs ?_ | refine x_test ?_ | refine x_testb ?_ | refine x_and ?_ | refine x_or ?_ | refine x_andV ?_ | refine x_isB ?_ | refine x_add ?_ | refine x_lt ?_ | refine x_inti ?_ | refine x_isI ?_ | refine x_lst ?_ | refine x_tup ?_ | refine x_slice ?_ | refine x_nop ?_ | refine x_part ?_ | refine x_bm ?_ | refine x_sub ?_ | refine x_rI0 ?_ | refine x_drop ?_ | refine x_next ?_ | refine x_brk ?_ | refine x_cnt ?_ | refine x_par2 ?_ | refine x_par33 ?_ | refine x_un ?_ | refine x_rU ?_ | refine x_le ?_ | refine x_gt ?_ | refine x_ge ?_ | refine x_lts ?_ | refine x_intb ?_ | refine x_abs ?_ | refine x_tru ?_ | refine x_trub ?_ | refine x_trui ?_ | refine x_not ?_ | refine x_orV ?_ | refine x_notV ?_ | refine x_if ?_ | refine x_isN ?_ | refine x_isnN ?_ | refine x_dict ?_ | refine x_bm0 ?_ | refine x_revL ?_ | refine x_lcR ?_ | refine x_lcS ?_ | refine x_forR ?_ | refine x_forS ?_ | refine x_yes ?_ | refine ite_t ?_ | refine ite_f ?_)
local macro_rules | `(tactic| walk_at "s") => `(tactic| repeat (first | walk_at "v1" | walk_at "s1" | walk_at "n1"))
local macro_rules | `(tactic| walk_at "bd") => `(tactic| first | decide | omega | exact Nat.le_refl _)
local macro_rules | `(tactic| walk_at "ft") => `(tactic| first
  | with_reducible exact la_nil | with_reducible exact fa_nil | with_reducible exact ft_non | with_reducible exact ft_bl | with_reducible exact ft_dict | ((with_reducible refine ft_str (n := 10) (x := ?x) ?h); (case h => exact And.intro rfl (by decide))) | ((with_reducible refine ft_int (i := ?i) ?h); (case h => decide))
  | ((with_reducible refine ft_var (v := ?v) (m := ?m) (n := ?n) ?h ?f); (case h => exact rfl); (case f => assumption))
  | ((with_reducible refine fa_cons (m1 := ?a) (n1 := ?b) (m2 := ?c) (n2 := ?d) ?f ?g); (case f => walk_at "ft"); (case g => walk_at "ft"))
  | ((with_reducible refine ft_tup (m := ?m) (n := ?n) ?f ?h); (case f => walk_at "ft"); (case h => walk_at "bd"))
  | ((with_reducible refine ft_lst (m := ?m) (n := ?n) ?f ?h); (case f => walk_at "ft"); (case h => walk_at "bd"))
  | ((with_reducible refine la_cons (m1 := ?a) (n1 := ?b) (B := ?c) ?f ?g ?h ?i); (case f => walk_at "ft"); (case h => walk_at "bd"); (case i => walk_at "bd"); (case g => walk_at "ft"))
  | ((with_reducible refine lt_var (v := ?v) (m := ?m) (n := ?n) (B := ?b) ?h ?f); (case h => exact rfl); (case f => assumption))
  | ((with_reducible refine lt_add (B1 := ?a) (B2 := ?b) ?f ?g ?h); (case f => walk_at "ft"); (case g => walk_at "ft"); (case h => walk_at "bd"))
  | ((with_reducible refine ft_addsv (x := ?x) (m := ?m) (n := 10) ?h ?s ?a ?z); (case h => exact rfl); (case s => assumption); (case a => exact And.intro rfl (by decide)); (case z => decide))
  | ((with_reducible refine lt_lst ?f ?h); (case f => walk_at "ft"); (case h => walk_at "bd")))
local macro_rules | `(tactic| walk_at "s1") => `(tactic| with_reducible first | refine x_fld ?_ | refine x_sfld ?_ | refine x_m ?_ | refine x_mr ?_ | refine x_i ?_ | refine x_ir ?_ | refine x_gfld ?_ | refine x_mko ?_ | refine x_vei ?_ | refine x_ost ?_ | refine ite_nt ?_ | refine ite_nf ?_)
local macro_rules | `(tactic| walk_at "s1") => `(tactic| with_reducible first | refine x_compS ?_ | refine x_innS ?_ | refine x_putT ?_ | refine x_addK ?_ | refine x_dget ?_)
local macro_rules | `(tactic| walk_at "s1") => `(tactic| with_reducible first | refine x_fst ?_ | refine x_jsC ?_ | refine x_js0 ?_ | refine x_fmt ?_)
local macro_rules | `(tactic| walk_at "s1") => `(tactic| with_reducible first | refine x_lrg ?_ | refine x_mc ?_)
local macro_rules | `(tactic| walk_at "s1") => `(tactic| with_reducible first | refine x_dput ?_ | refine x_dnT ?_ | refine x_lcZW ?_ | refine x_forEA ?_)
section
open PySem PySem.Spec PyProof.Rows L2 G
set_option maxHeartbeats 4000000
abbrev wKept : List Str := ["is", "new", "if", "say", "go", "first", "last", "stands", "seen", "odd", "just", "both", "either", "not", "none"]
abbrev wLetters : Str := Str.ofString "abcdefghijklmnopqrstuvwxyz"
/-- the module's constants -/
structure Tc (K : PySem.W.Frag) (mg : Str → Option Value) (kw C D : Addr) : Prop where
  LETTERS : ∃ u, mg "LETTERS" = some u ∧ RelV (.str wLetters) u
  MOST_LETTERS : ∃ u, mg "MOST_LETTERS" = some u ∧ RelV (.int 8) u
  MOST_WAYS : ∃ u, mg "MOST_WAYS" = some u ∧ RelV (.int 4) u
  KEPT_WORDS : ∃ u, mg "KEPT_WORDS" = some u ∧ RelV (.ref kw) u
  Program : ∃ u, mg "Program" = some u ∧ RelV (.ref C) u
  MOST_STANDINGS : ∃ u, mg "MOST_STANDINGS" = some u ∧ RelV (.int 20000) u
  MOST_SEATS : ∃ u, mg "MOST_SEATS" = some u ∧ RelV (.int 5) u
  MOST_CASES : ∃ u, mg "MOST_CASES" = some u ∧ RelV (.int 130) u
  MOST_ROWS : ∃ u, mg "MOST_ROWS" = some u ∧ RelV (.int 20000) u
  SAME : ∃ u, mg "SAME" = some u ∧ RelV (.str "is") u
  NEW : ∃ u, mg "NEW" = some u ∧ RelV (.str "new") u
  ForgetError : ∃ u, mg "ForgetError" = some u ∧ RelV (.ref D) u
  kept : ∀ H, SqT K H kw (wKept.map V.str)
structure Btt (mg : Str → Option Value) : Prop extends Bt mg where
  set : mg "set" = none
/-- a text of 1 to 8 letters that texts do not need -/
def isLetter (c : Nat) : Prop := 97 ≤ c ∧ c ≤ 122
structure Nm (x : Str) : Prop where
  l1 : 1 ≤ x.length
  l8 : x.length ≤ 8
  let_ : ∀ c ∈ x.cps.toList, isLetter c
  free : wKept.contains x = false
theorem let_in {c : Nat} (h : isLetter c) : c ∈ wLetters.cps.toList := by
  have : ∀ n : Fin 26, (97 + n.val) ∈ wLetters.cps.toList := by decide +kernel
  have z := this ⟨c - 97, by unfold isLetter at h; omega⟩
  have e : 97 + (c - 97) = c := by unfold isLetter at h; omega
  simpa [e] using z
section
variable {P : Program} {w : World} {K : PySem.W.Frag} {mg : Str → Option Value} {base : Heap} {k : Nat} {kw C D : Addr}
section
variable {H : Hp} {v : V} {d : PyData} {Q : VK}
theorem x_isiTup {a : Addr} {xs : List V} (h : SqT K H a xs) (q : Q (.bl true) H) : aIsi K [.ref a, .ty "tuple"] H Q := .inl ⟨_, _, _, _, _, rfl, .ty _, ty_tup h, rfl, q⟩
theorem x_isiLL {a p : Addr} {xs : List V} (h : SqL K H a xs) (hp : H p = some (.tup [.ty "list", .ty "tuple"])) (q : Q (.bl true) H) : aIsi K [.ref a, .ref p] H Q :=
  .inr ⟨_, p, _, _, [.type "list", .type "tuple"], _, rfl, hp, .cons (.ty _) (.cons (.ty _) .nil), ty_lst h, rfl, q⟩
theorem all_true {ys : List V} {n : Nat} (hl : ys.length = n) (h : ∀ (i : Nat) (y : V), ys[i]? = some y → y = .bl true) : ys = (List.replicate n true).map V.bl := by
  apply List.ext_getElem
  · rw [hl, List.length_map, List.length_replicate]
  · intro i h1 h2
    rw [h i _ (List.getElem?_eq_getElem h1), List.getElem_map, List.getElem_replicate]
theorem x_all1 {p : Addr} {n : Nat} {ys : List V} (h : SqL K H p ys) (hl : ys.length = n) (hy : ∀ (i : Nat) (y : V), ys[i]? = some y → y = .bl true) (q : Q (.bl true) H) : rAll K [.ref p] H Q := by
  refine ⟨p, List.replicate n true, rfl, by rw [← all_true hl hy]; exact h, ?_⟩
  have : (List.replicate n true).all id = true := by simp
  first
    | (rw [this]; exact q)
    | (simp; exact q)
end
abbrev s_is_list : Stmt := top 11
theorem sc_is_list : FnScope ["value"] ["value"] (defScope s_is_list) := ⟨rfl, rfl, rfl, by decide +kernel, rfl, by decide +kernel, by decide +kernel⟩
def sp_isl (K : PySem.W.Frag) : Sp := fun vs H Q _ => ∃ (G : Hp) (L : List (Addr × HO)) (a : Addr) (xs : List V), vs = [.ref a] ∧ Own G H L ∧ SqL K H a xs ∧ ∀ (G' H' : Hp), Same G G' → Own G' H' L → Q (.bl true) H'
theorem ok_isl {f : Addr} {fd : FuncData} (F : Fun K "is_list" "is_list" s_is_list f fd) (B : Btt mg) : FnG P w K mg base (k + 1) f fd ["value"] (sp_isl K) := by
  refine fnG_of F sc_is_list (fun vs H Q E h => ?_) (fun cdv A outer s H vs Q E r h => ?_)
  · obtain ⟨_, _, _, _, rfl, _⟩ := h
    rfl
  · obtain ⟨G, L, a, xs, rfl, O, ha, q⟩ := h
    refine ⟨_, (pss_one (ps_ret (pe_callB (cIsiK (K := K) rfl) (by rfl) B.isinstance (by decide +kernel) (pa_cons (pv 0) (pa_cons (d_tup (pa_cons (pe_bltn (v := .ty "list") (u := .type "list") (by rfl) B.list (by decide +kernel) rfl) (pa_cons (pe_bltn (v := .ty "tuple") (u := .type "tuple") (by rfl) B.tuple (by decide +kernel) rfl) pa_nil))) pa_nil))))), ?_⟩
    try dsimp only [cxOf]
    refine x_start (σ' := [some _]) rfl ?_
    walk_at "s"
    have na : ∀ {G1 H1 p}, Same G G1 → H1 = upd H p (.tup [.ty "list", .ty "tuple"]) → H p = none → SqL K H1 a xs := fun _ e hp => by rw [e]; exact (Same.new hp).seq ha
    refine ⟨by show 2 ≤ sizeLine; decide, fun p hp => ?_⟩
    have O1 := O.fix (o := .tup [.ty "list", .ty "tuple"]) hp
    refine x_isiLL ((Same.new hp).seq ha) upd_same ?_
    exact q _ _ (Same.new (O.free hp)) O1
abbrev s_is_row : Stmt := top 12
theorem sc_is_row : FnScope ["value", "many"] ["value", "many"] (defScope s_is_row) := ⟨rfl, rfl, rfl, by decide +kernel, rfl, by decide +kernel, by decide +kernel⟩
def sp_row (K : PySem.W.Frag) : Sp := fun vs H Q _ => ∃ (a : Addr) (xs : List V) (m : Nat), vs = [.ref a, .int m] ∧ SqT K H a xs ∧ xs.length = m ∧ Q (.bl true) H
theorem ok_row {f : Addr} {fd : FuncData} (F : Fun K "is_row" "is_row" s_is_row f fd) (B : Btt mg) : FnG P w K mg base (k + 1) f fd ["value", "many"] (sp_row K) := by
  refine fnG_of F sc_is_row (fun vs H Q E h => ?_) (fun cdv A outer s H vs Q E r h => ?_)
  · obtain ⟨_, _, _, rfl, _⟩ := h
    rfl
  · obtain ⟨a, xs, m, rfl, ha, hl, q⟩ := h
    refine ⟨_, (pss_one (ps_ret (pe_and (pe_callB (cIsiK (K := K) rfl) (by rfl) B.isinstance (by decide +kernel) (pa_cons (pv 0) (pa_cons (pe_bltn (v := .ty "tuple") (u := .type "tuple") (by rfl) B.tuple (by decide +kernel) rfl) pa_nil))) (pe_one (pe_cmpR (oEqK (K := K) rfl r) (pe_callB (cLenK (K := K) rfl) (by rfl) B.len (by decide +kernel) (pa_cons (pv 0) pa_nil)) (pv 1) (nomark _)))))), ?_⟩
    try dsimp only [cxOf]
    refine x_start (σ' := [some _, some _]) rfl ?_
    walk_at "s"
    refine x_isiTup ha ?_
    walk_at "s"
    refine x_lent ha ?_
    walk_at "s"
    refine x_eq rfl ?_
    rw [hl, decide_eq_true rfl]
    exact q
abbrev s_is_word : Stmt := top 13
theorem sc_is_word : FnScope ["value", "sign"] ["value"] (defScope s_is_word) := ⟨rfl, rfl, rfl, by decide +kernel, rfl, by decide +kernel, by decide +kernel⟩
def sp_word : Sp := fun vs H Q _ => ∃ (G : Hp) (L : List (Addr × HO)) (x : Str), vs = [.str x] ∧ Own G H L ∧ 1 ≤ x.length ∧ x.length ≤ 8 ∧ (∀ c ∈ x.cps.toList, isLetter c) ∧ ∀ (G' H' : Hp), Same G G' → Own G' H' L → Q (.bl true) H'
theorem ok_word {f : Addr} {fd : FuncData} (F : Fun K "is_word" "is_word" s_is_word f fd) (B : Btt mg) (T : Tc K mg kw C D) : FnG P w K mg base (k + 1) f fd ["value"] sp_word := by
  refine fnG_of F sc_is_word (fun vs H Q E h => ?_) (fun cdv A outer s H vs Q E r h => ?_)
  · obtain ⟨_, _, _, rfl, _⟩ := h
    rfl
  · obtain ⟨G, L, x, rfl, O, l1, l8, hx, q⟩ := h
    refine ⟨_, (pss_one (ps_ret (pe_and (pe_callB (cIsiK (K := K) rfl) (by rfl) B.isinstance (by decide +kernel) (pa_cons (pv 0) (pa_cons (pe_bltn (v := .ty "str") (u := .type "str") (by rfl) B.str (by decide +kernel) rfl) pa_nil))) (pe_and (pe_chain oLe oLe pe_int (pe_callB (cLenK (K := K) rfl) (by rfl) B.len (by decide +kernel) (pa_cons (pv 0) pa_nil)) (C8.pe_gc (by rfl) T.MOST_LETTERS)) (pe_one (pe_callB (cAllK (K := K) rfl rfl) (by rfl) B.all (by decide +kernel) (pa_cons (pe_lc (own := [("sign", 1)]) rfl sc_is_word.nd (pi_str (pv 0)) (blkOk_by (N := ["value", "sign"]) (sc := defScope s_is_word) (by decide +kernel)) (fun _ _ _ _ _ => (pg_name (i := 1) sc_is_word.nd rfl (Or.inl rfl))) (fun _ _ _ _ _ => pts_nil) (fun _ _ _ _ _ => (pe_cmpR op_in_sign (pv 1) (C8.pe_gc (by rfl) T.LETTERS) (by rfl)))) pa_nil))))))), ?_⟩
    try dsimp only [cxOf]
    refine x_start (σ' := [some _, none]) rfl ?_
    walk_at "s"
    refine x_isiS (.str x) ?_
    walk_at "s"
    refine ite_t ?_
    walk_at "s"
    refine x_chain ?_
    walk_at "s"
    refine x_lens (sz20 (by omega)) ?_
    walk_at "s"
    refine ite_b (fun _ => ?_) (fun c => absurd (of_decide_eq_false c) (by omega))
    walk_at "s"
    refine ite_b (fun _ => ?_) (fun c => absurd (of_decide_eq_false c) (by omega))
    walk_at "s"
    refine x_lcI ?_
    walk_at "s"
    refine ⟨x, rfl, ?_⟩
    refine lc_map (by walk_at "n") walk_str O (Nat.le_trans (show x.cps.size ≤ 8 from l8) (by decide)) (fun _ i y => y = V.bl true) (fun _ _ _ _ _ z => z) (fun _ _ _ _ _ _ => True.intro) ?_ gm_name ?_
    · rintro i z G' H' H2 D acc hi s' O' ⟨rfl, c, ec, rfl⟩ kk
      walk_at "s"
      have hc : c ∈ wLetters.cps.toList := let_in (hx c (by
        have h2 : x.cps.toList[i]? = some c := by rw [Array.getElem?_toList]; exact ec
        exact List.mem_of_getElem? h2))
      refine ⟨c, _, rfl, rfl, ?_⟩
      rw [decide_eq_true hc]
      exact kk _ _ _ (Same.refl _) O' rfl
    intro G9 H9 p9 bs s9 O9 e9 l9 r9
    walk_at "s"
    refine x_all1 (SqL.of (O9.sub _ _ e9)) l9 r9 ?_
    exact q G9 H9 s9 O9
abbrev s_is_name : Stmt := top 14
theorem sc_is_name : FnScope ["value"] ["value"] (defScope s_is_name) := ⟨rfl, rfl, rfl, by decide +kernel, rfl, by decide +kernel, by decide +kernel⟩
def sp_name : Sp := fun vs H Q _ => ∃ (G : Hp) (L : List (Addr × HO)) (x : Str), vs = [.str x] ∧ Own G H L ∧ Nm x ∧ ∀ (G' H' : Hp), Same G G' → Own G' H' L → Q (.bl true) H'
theorem ok_name {f : Addr} {fd : FuncData} (F : Fun K "is_name" "is_name" s_is_name f fd) (B : Btt mg) (T : Tc K mg kw C D) (C_is_word : Cal P w K mg base k "is_word" ["value"] sp_word) : FnG P w K mg base (k + 1) f fd ["value"] sp_name := by
  refine fnG_of F sc_is_name (fun vs H Q E h => ?_) (fun cdv A outer s H vs Q E r h => ?_)
  · obtain ⟨_, _, _, rfl, _⟩ := h
    rfl
  · obtain ⟨G, L, x, rfl, O, hx, q⟩ := h
    refine ⟨_, (pss_one (ps_ret (pe_and (g_call C_is_word r (by rfl) passL (pa_cons (pv 0) pa_nil)) (pe_one (pe_cmpR (oNinK (K := K) rfl) (pv 0) (C8.pe_gc (by rfl) T.KEPT_WORDS) (by rfl)))))), ?_⟩
    try dsimp only [cxOf]
    refine x_start (σ' := [some _]) rfl ?_
    walk_at "s"
    refine ⟨G, L, x, rfl, O, hx.l1, hx.l8, hx.let_, fun G1 H1 s1 O1 => ?_⟩
    walk_at "s"
    refine x_ninS (.inr (T.kept H1)) ?_
    rw [hx.free]
    exact q G1 H1 s1 O1
end
end
section
open PySem PySem.Spec PyProof.Rows L2 G
set_option maxHeartbeats 4000000
/-! ### ways, told by (name, back) -/
abbrev T3 := Str × Str × Str
def kT (t : T3) : List Key := [Sum.inr t.1, Sum.inr t.2.1, Sum.inr t.2.2]
def vT (t : T3) : List V := [.str t.1, .str t.2.1, .str t.2.2]
theorem kT_txt (t : T3) : TxtK 3 (kT t) := ⟨[t.1, t.2.1, t.2.2], rfl, rfl⟩
theorem kT_inj {s t : T3} (h : kT s = kT t) : s = t := by
  obtain ⟨a, b, c⟩ := s
  obtain ⟨a', b', c'⟩ := t
  simp only [kT, List.cons.injEq, Sum.inr.injEq, and_true] at h
  rw [h.1, h.2.1, h.2.2]
def kvsW (W : List (Str × Str)) : List (Key × V) := W.map fun p => (Sum.inr p.1, V.str p.2)
def keysW (W : List (Str × Str)) : List Str := W.map (·.1)
def bS (W : List (Str × Str)) (x : Str) : Str := ((W.find? fun p => decide (p.1 = x)).map (·.2)).getD x
theorem valW {W : List (Str × Str)} {x : Str} (h : x ∈ keysW W) : valV (kvsW W) (Sum.inr x) = some (.str (bS W x)) := by
  unfold valV kvsW bS
  induction W with
  | nil => cases h
  | cons p W ih =>
    rw [List.map_cons, List.find?_cons, List.find?_cons]
    by_cases e : p.1 = x
    · have e1 : (decide ((Sum.inr p.1 : Key) = Sum.inr x)) = true := decide_eq_true (by rw [e])
      simp only [e1, e, decide_true]
      rfl
    · have e1 : (decide ((Sum.inr p.1 : Key) = Sum.inr x)) = false := decide_eq_false (by simpa using e)
      simp only [e1, decide_eq_false e]
      refine ih ?_
      rcases List.mem_cons.mp h with z | z
      · exact absurd z.symm e
      · exact z
/-- right ways -/
structure WaysOk (W : List (Str × Str)) : Prop where
  l1 : 1 ≤ W.length
  l4 : W.length ≤ 4
  nm : ∀ p ∈ W, Nm p.1
  nd : (keysW W).Nodup
  bk : ∀ x ∈ keysW W, bS W x ∈ keysW W
  inv : ∀ x ∈ keysW W, bS W (bS W x) = x
def turnT (b : Str → Str) (t : T3) : T3 := (t.2.1, b t.2.2, b t.1)
def InW (W : List (Str × Str)) (t : T3) : Prop := t.1 ∈ keysW W ∧ t.2.1 ∈ keysW W ∧ t.2.2 ∈ keysW W
theorem InW.turn {W : List (Str × Str)} {t : T3} (o : WaysOk W) (h : InW W t) : InW W (turnT (bS W) t) := ⟨h.2.1, o.bk _ h.2.2, o.bk _ h.1⟩
/-! ### sorted lists of tuples of texts -/
theorem leK_anti {d : Nat} {a b : List Key} (ha : TxtK d a) (hb : TxtK d b) (h1 : leK a b = true) (h2 : leK b a = true) : a = b := by
  have e : PySem.W.keyToks (tupD a) = PySem.W.keyToks (tupD b) := by
    have g1 : lexLt itemOrd (PySem.W.keyToks (tupD b)) (PySem.W.keyToks (tupD a)) = false := by simpa [leK, PySem.W.dataLe, PySem.W.sortLe] using h1
    have g2 : lexLt itemOrd (PySem.W.keyToks (tupD a)) (PySem.W.keyToks (tupD b)) = false := by simpa [leK, PySem.W.dataLe, PySem.W.sortLe] using h2
    exact lex_total _ _ g2 g1
  obtain ⟨xs, rfl, hx⟩ := ha
  obtain ⟨ys, rfl, hy⟩ := hb
  have inj : ∀ xs ys : List Str, PySem.W.keyToksAll ((xs.map (Sum.inr : Str → Key)).map keyD) = PySem.W.keyToksAll ((ys.map (Sum.inr : Str → Key)).map keyD) → xs = ys := by
    intro xs
    induction xs with
    | nil => intro ys h; cases ys with
      | nil => rfl
      | cons y ys => simp [PySem.W.keyToksAll, keyD, PySem.W.keyToks] at h
    | cons x xs ih => intro ys h; cases ys with
      | nil => simp [PySem.W.keyToksAll, keyD, PySem.W.keyToks] at h
      | cons y ys =>
        simp only [List.map_cons, PySem.W.keyToksAll, keyD, PySem.W.keyToks, List.cons_append, List.nil_append, List.cons.injEq, true_and, Sum.inr.injEq] at h
        rw [PySem.W.str_of_cps h.1, ih ys h.2]
  rw [inj xs ys e]
theorem srt_uniq {α : Type} {le : α → α → Bool} : ∀ {ys zs : List α}, ys.Pairwise (fun a b => le a b = true) → zs.Pairwise (fun a b => le a b = true) → ys.Nodup → zs.Nodup → (∀ k, k ∈ ys ↔ k ∈ zs) →
    (∀ a ∈ ys, ∀ b ∈ ys, le a b = true → le b a = true → a = b) → ys = zs
  | [], [], _, _, _, _, _, _ => rfl
  | [], z :: zs, _, _, _, _, h, _ => absurd ((h z).mpr List.mem_cons_self) (by simp)
  | y :: ys, [], _, _, _, _, h, _ => absurd ((h y).mp List.mem_cons_self) (by simp)
  | y :: ys, z :: zs, h1, h2, n1, n2, h, anti => by
    obtain ⟨a1, a2⟩ := List.pairwise_cons.mp h1
    obtain ⟨b1, b2⟩ := List.pairwise_cons.mp h2
    obtain ⟨c1, c2⟩ := List.nodup_cons.mp n1
    obtain ⟨d1, d2⟩ := List.nodup_cons.mp n2
    have e : y = z := by
      have hy := (h y).mp List.mem_cons_self
      have hz := (h z).mpr List.mem_cons_self
      rcases List.mem_cons.mp hy with e | hy
      · exact e
      · rcases List.mem_cons.mp hz with e | hz
        · exact e.symm
        · exact anti y List.mem_cons_self z (List.mem_cons_of_mem _ hz) (a1 z hz) (b1 y hy)
    subst e
    rw [srt_uniq a2 b2 c2 d2 (fun k => ⟨fun hk => ?_, fun hk => ?_⟩) fun a ha b hb => anti a (List.mem_cons_of_mem _ ha) b (List.mem_cons_of_mem _ hb)]
    · rcases List.mem_cons.mp ((h k).mp (List.mem_cons_of_mem _ hk)) with e | hk'
      · exact absurd (e ▸ hk) c1
      · exact hk'
    · rcases List.mem_cons.mp ((h k).mpr (List.mem_cons_of_mem _ hk)) with e | hk'
      · exact absurd (e ▸ hk) d1
      · exact hk'
/-- ys is the sorted list, without doubles, of what is in xs -/
structure Srt (ys xs : List T3) : Prop where
  srt : ys.Pairwise (fun a b => leK (kT a) (kT b) = true)
  nd : ys.Nodup
  mem : ∀ t, t ∈ ys ↔ t ∈ xs
theorem Srt.uniq {ys zs xs xs' : List T3} (h : Srt ys xs) (h' : Srt zs xs') (e : ∀ t, t ∈ xs ↔ t ∈ xs') : ys = zs :=
  srt_uniq (le := fun a b => leK (kT a) (kT b)) h.srt h'.srt h.nd h'.nd (fun t => by rw [h.mem, h'.mem, e]) fun a _ b _ l1 l2 => kT_inj (leK_anti (kT_txt a) (kT_txt b) l1 l2)
/-- the tuples at addresses are these triples -/
def Tups (G : Hp) (L : List (Addr × T3)) : Prop := ∀ q ∈ L, G q.1 = some (.tup (vT q.2))
theorem Tups.same {G G' : Hp} {L : List (Addr × T3)} (h : Tups G L) (s : Same G G') : Tups G' L := fun q hq => s _ _ (h q hq)
end
section
open PySem PySem.Spec PyProof.Rows L2 G
set_option maxHeartbeats 4000000
theorem ref_at {α : Type} {L : List (Addr × α)} {i : Nat} {x : V} (h : (L.map fun q => V.ref q.1)[i]? = some x) : ∃ q, x = .ref q.1 ∧ L[i]? = some q := by
  rw [List.getElem?_map] at h
  cases e : L[i]? with
  | none => rw [e] at h; cases h
  | some y => rw [e] at h; cases h; exact ⟨y, rfl, rfl⟩
theorem valV_none {kvs : List (Key × V)} {k : Key} (h : k ∉ kvs.map (·.1)) : valV kvs k = none := by
  unfold valV
  rw [List.find?_eq_none.mpr fun p hp => ?_]
  · rfl
  · have : p.1 ≠ k := fun e => h (by rw [← e]; exact List.mem_map.mpr ⟨p, hp, rfl⟩)
    simpa using this
theorem mergeK_app : ∀ (more kvs : List (Key × V)), ((kvs ++ more).map (·.1)).Nodup → mergeK kvs more = kvs ++ more
  | [], kvs, _ => (List.append_nil _).symm
  | kv :: more, kvs, n => by
    show mergeK (putK kvs kv.1 kv.2) more = _
    have hn : kv.1 ∉ kvs.map (·.1) := fun h => by
      rw [List.map_append] at n
      exact (List.nodup_append.mp n).2.2 _ h _ (List.mem_map.mpr ⟨kv, List.mem_cons_self, rfl⟩) rfl
    rw [putK_new _ (valV_none hn), mergeK_app more _ (by rw [List.append_assoc]; exact n), List.append_assoc]
    rfl
theorem merge_kvs {W : List (Str × Str)} (h : (keysW W).Nodup) : mergeK [] (kvsW W) = kvsW W := by
  refine mergeK_app (kvsW W) [] ?_
  show ((kvsW W).map (·.1)).Nodup
  have e : (kvsW W).map (·.1) = (keysW W).map Sum.inr := by
    unfold kvsW keysW
    rw [List.map_map, List.map_map]
    rfl
  rw [e]
  exact List.pairwise_map.mpr (h.imp fun hne e => hne (Sum.inr.inj e))
theorem bS_at {W : List (Str × Str)} (n : (keysW W).Nodup) {p : Str × Str} (h : p ∈ W) : bS W p.1 = p.2 := by
  unfold bS
  induction W with
  | nil => cases h
  | cons q W ih =>
    rw [List.find?_cons]
    have n' : (q.1 :: keysW W).Nodup := n
    obtain ⟨n1, n2⟩ := List.nodup_cons.mp n'
    rcases List.mem_cons.mp h with rfl | h
    · rw [decide_eq_true rfl]
      rfl
    · have hne : ¬ q.1 = p.1 := fun e => n1 (by rw [e]; exact List.mem_map.mpr ⟨p, h, rfl⟩)
      rw [decide_eq_false hne]
      exact ih n2 h
abbrev vP (p : Str × Str) : List V := [.str p.1, .str p.2]
/-- the tuples at addresses are these pairs -/
def Prs (G : Hp) (L : List (Addr × Str × Str)) : Prop := ∀ q ∈ L, G q.1 = some (.tup (vP q.2))
theorem Prs.same {G G' : Hp} {L : List (Addr × Str × Str)} (h : Prs G L) (s : Same G G') : Prs G' L := fun q hq => s _ _ (h q hq)
theorem prs_paired {K : PySem.W.Frag} {H : Hp} : ∀ {L : List (Addr × Str × Str)}, (∀ q ∈ L, SqT K H q.1 (vP q.2)) → Paired (fun p (kv : Key × V) => SqT K H p [kV kv.1, kv.2]) (L.map (·.1)) (kvsW (L.map (·.2)))
  | [], _ => .nil
  | q :: L, h => .cons (h q List.mem_cons_self) (prs_paired fun r hr => h r (List.mem_cons_of_mem _ hr))
theorem prs_refs (L : List (Addr × Str × Str)) : (L.map fun q => V.ref q.1) = (L.map (·.1)).map V.ref := by rw [List.map_map]; rfl
theorem gm_tup2 {K : PySem.W.Frag} {n i j : Nat} : ∀ (x : V) (σ' : L2.St) (H' : Hp) (S S' : L2.St → Hp → Prop), (∀ a b, S a b → S' a b) → gTup K n (gCons (gName i) (gCons (gName j) gNil)) x σ' H' S → gTup K n (gCons (gName i) (gCons (gName j) gNil)) x σ' H' S' := by
  rintro x σ' H' S S' h ⟨a, xs, rfl, hs, hl, v, r, rfl, v2, r2, rfl, rfl, z⟩
  exact ⟨a, _, rfl, hs, hl, v, _, rfl, v2, _, rfl, rfl, h _ _ z⟩
theorem gm_tup3 {K : PySem.W.Frag} {n i j l : Nat} : ∀ (x : V) (σ' : L2.St) (H' : Hp) (S S' : L2.St → Hp → Prop), (∀ a b, S a b → S' a b) → gTup K n (gCons (gName i) (gCons (gName j) (gCons (gName l) gNil))) x σ' H' S → gTup K n (gCons (gName i) (gCons (gName j) (gCons (gName l) gNil))) x σ' H' S' := by
  rintro x σ' H' S S' h ⟨a, xs, rfl, hs, hl, v, r, rfl, v2, r2, rfl, v3, r3, rfl, rfl, z⟩
  exact ⟨a, _, rfl, hs, hl, v, _, rfl, v2, _, rfl, v3, _, rfl, rfl, h _ _ z⟩
section
variable {P : Program} {w : World} {K : PySem.W.Frag} {mg : Str → Option Value} {base : Heap} {k : Nat} {kw C D : Addr}
theorem dgS {G H : Hp} {R : List (Addr × HO)} {W : List (Str × Str)} {bo : Addr} {x : Str} (O : Own G H R) (hb : G bo = some (.dK (kvsW W))) : DGet H bo (.str x) (valV (kvsW W) (Sum.inr x)) := DGet.k (k := Sum.inr x) (O.sub _ _ hb)
abbrev s_are_ways : Stmt := top 19
theorem sc_are_ways : FnScope ["value", "backs", "item", "name", "back"] ["value"] (defScope s_are_ways) := ⟨rfl, rfl, rfl, by decide +kernel, rfl, by decide +kernel, by decide +kernel⟩
def sp_aw (K : PySem.W.Frag) : Sp := fun vs H Q _ => ∃ (G : Hp) (R : List (Addr × HO)) (a : Addr) (L : List (Addr × Str × Str)), vs = [.ref a] ∧ Own G H R ∧ G a = some (.lst (L.map fun q => V.ref q.1)) ∧ Prs G L ∧ WaysOk (L.map (·.2)) ∧
  ∀ (G' H' : Hp), Same G G' → Own G' H' R → Q (.bl true) H'
theorem ok_aw {f : Addr} {fd : FuncData} (F : Fun K "are_ways" "are_ways" s_are_ways f fd) (B : Btt mg) (T : Tc K mg kw C D) (C_is_list : Cal P w K mg base k "is_list" ["value"] (sp_isl K)) (C_is_row : Cal P w K mg base k "is_row" ["value", "many"] (sp_row K)) (C_is_name : Cal P w K mg base k "is_name" ["value"] sp_name) :
    FnG P w K mg base (k + 1) f fd ["value"] (sp_aw K) := by
  refine fnG_of F sc_are_ways (fun vs H Q E h => ?_) (fun cdv A outer s H vs Q E r h => ?_)
  · obtain ⟨_, _, _, _, rfl, _⟩ := h
    rfl
  · obtain ⟨G, R, a, L, rfl, O, ha, pr, o, q⟩ := h
    refine ⟨_, (pss_cons (ps_if (PW.pt (pw_or (pt_not (pt_truK (K := K) rfl (g_call C_is_list r (by rfl) passL (pa_cons (pv 0) pa_nil)))) (pw_or1 (pt_not (pt_chain oLe oLe pe_int (pe_callB (cLenK (K := K) rfl) (by rfl) B.len (by decide +kernel) (pa_cons (pv 0) pa_nil)) (C8.pe_gc (by rfl) T.MOST_WAYS))))))
       (pss_one (ps_ret pe_bl))
       pss_nil)
       (pss_cons (ps_if (pt_not (pt_truK (K := K) rfl (pe_callB (cAllK (K := K) rfl rfl) (by rfl) B.all (by decide +kernel) (pa_cons (pe_lc (own := [("item", 2)]) rfl sc_are_ways.nd (pi_sqK (K := K) rfl (pv 0)) (blkOk_by (N := ["value", "backs", "item", "name", "back"]) (sc := defScope s_are_ways) (by decide +kernel)) (fun _ _ _ _ _ => (pg_name (i := 2) sc_are_ways.nd rfl (Or.inl rfl))) (fun _ _ _ _ _ => pts_nil) (fun _ _ _ _ _ => (pe_and (g_call C_is_row r (by rfl) passL (pa_cons (pv 2) (pa_cons pe_int pa_nil))) (pe_and (g_call C_is_name r (by rfl) passL (pa_cons (pe_ix (ixK (K := K) rfl) (pv 2) pe_int (fun _ _ => rfl)) pa_nil)) (pe_one (g_call C_is_name r (by rfl) passL (pa_cons (pe_ix (ixK (K := K) rfl) (pv 2) pe_int (fun _ _ => rfl)) pa_nil))))))) pa_nil))))
       (pss_one (ps_ret pe_bl))
       pss_nil)
       (pss_cons (ps_set (i := 1) sc_are_ways.nd rfl (Or.inr rfl) (pe_callTy (cDictPK (K := K) rfl rfl) (by rfl) B.dict (by decide +kernel) (pa_cons (pv 0) pa_nil)))
       (pss_one (ps_ret (pe_and (pe_cmpR (oEqK (K := K) rfl r) (pe_callB call_lenD (by rfl) B.len (by decide +kernel) (pa_cons (pv 1) pa_nil)) (pe_callB (cLenK (K := K) rfl) (by rfl) B.len (by decide +kernel) (pa_cons (pv 0) pa_nil)) (nomark _)) (pe_one (pe_callB (cAllK (K := K) rfl rfl) (by rfl) B.all (by decide +kernel) (pa_cons (pe_lc (own := [("name", 3), ("back", 4)]) rfl sc_are_ways.nd (pi_sqK (K := K) rfl (pv 0)) (blkOk_by (N := ["value", "backs", "item", "name", "back"]) (sc := defScope s_are_ways) (by decide +kernel)) (fun _ _ _ _ _ => (pg_tupK (K := K) (n := 2) rfl rfl (pgs_cons (pg_name (i := 3) sc_are_ways.nd rfl (Or.inl rfl)) (pgs_cons (pg_name (i := 4) sc_are_ways.nd rfl (Or.inl rfl)) pgs_nil)))) (fun _ _ _ _ _ => pts_nil) (fun _ _ _ _ _ => (pe_and (pe_cmpR (oInD r.hu) (pv 4) (pv 1) (by rfl)) (pe_one (pe_cmpR (oEqK (K := K) rfl r) (pe_dget r.hu (pv 1) (pv 4) (fun _ _ => rfl)) (pv 3) (nomark _)))))) pa_nil))))))))), ?_⟩
    try dsimp only [cxOf]
    refine x_start (σ' := [some _, none, none, none, none]) rfl ?_
    walk_at "s"
    refine ⟨G, R, a, _, rfl, O, SqL.of (O.sub _ _ ha), fun G1 H1 s1 O1 => ?_⟩
    have l1 := o.l1
    have l4 := o.l4
    rw [List.length_map] at l1 l4
    walk_at "s"
    refine x_chain ?_
    walk_at "s"
    refine x_lenl (SqL.of (O1.sub _ _ (s1 _ _ ha))) ?_
    rw [List.length_map]
    walk_at "s"
    refine ite_b (fun _ => ?_) (fun c => absurd (of_decide_eq_false c) (by omega))
    walk_at "s"
    rw [decide_eq_true (show ((L.length : Nat) : Int) ≤ 4 by omega)]
    walk_at "s"
    have hln : (L.map fun q => V.ref q.1).length ≤ 2 ^ 20 := by rw [List.length_map]; omega
    refine x_sqL (SqL.of (O1.sub _ _ (s1 _ _ ha))) ?_
    refine lc_map (by walk_at "n") walk_list O1 hln (fun _ i y => y = V.bl true) (fun _ _ _ _ _ z => z) (fun G' H' D acc s' O' => SqL.of (O'.sub _ _ ((s1.trans s') _ _ ha))) ?_ gm_name ?_
    · rintro i x G' H' H2' D acc hil s' O' ⟨rfl, ex⟩ kk
      obtain ⟨t, rfl, et⟩ := ref_at ex
      have mt : t ∈ L := List.mem_of_getElem? et
      have m2 : t.2 ∈ L.map (·.2) := List.mem_map.mpr ⟨t, mt, rfl⟩
      have gt := (s1.trans s') _ _ (pr t mt)
      walk_at "s"
      refine ⟨t.1, _, 2, rfl, SqT.of (O'.sub _ _ gt), rfl, ?_⟩
      walk_at "s"
      refine x_ixt (i := 0) (SqT.of (O'.sub _ _ gt)) rfl ?_
      walk_at "s"
      refine ⟨G', _, _, rfl, O', o.nm _ m2, fun G4 H4 s4 O4 => ?_⟩
      walk_at "s"
      refine x_ixt (i := 1) (SqT.of (O4.sub _ _ (s4 _ _ gt))) rfl ?_
      walk_at "s"
      have nb : Nm t.2.2 := by
        have h1 := o.bk _ (List.mem_map.mpr ⟨t.2, m2, rfl⟩)
        rw [bS_at o.nd m2] at h1
        obtain ⟨p, hp, e⟩ := List.mem_map.mp h1
        rw [← e]
        exact o.nm _ hp
      refine ⟨G4, _, _, rfl, O4, nb, fun G5 H5 s5 O5 => ?_⟩
      exact kk _ _ _ (s4.trans s5) O5 rfl
    intro G6 H6 p6 ys s6 O6 e6 l6 r6
    walk_at "s"
    refine x_all1 (SqL.of (O6.sub _ _ e6)) l6 r6 ?_
    walk_at "s"
    have s16 := s1.trans s6
    refine ⟨a, L.map (·.1), kvsW (L.map (·.2)), rfl, .inl (by rw [← prs_refs]; exact SqL.of (O6.sub _ _ (s16 _ _ ha))), prs_paired fun q hq => SqT.of (O6.sub _ _ (s16 _ _ (pr q hq))), ?_⟩
    rw [merge_kvs o.nd]
    intro bo hbo
    have s7 := Same.new (o := .dK (kvsW (L.map (·.2)))) (O6.free hbo)
    have O7 := O6.fix (o := .dK (kvsW (L.map (·.2)))) hbo
    have e7 : upd G6 bo (.dK (kvsW (L.map (·.2)))) bo = some (.dK (kvsW (L.map (·.2)))) := upd_same
    generalize upd G6 bo (.dK (kvsW (L.map (·.2)))) = G7 at s7 O7 e7
    generalize upd H6 bo (.dK (kvsW (L.map (·.2)))) = H7 at O7 ⊢
    have s17 := s16.trans s7
    walk_at "s"
    refine ⟨bo, _, rfl, O7.sub _ _ e7, ?_⟩
    walk_at "s"
    refine x_lenl (SqL.of (O7.sub _ _ (s17 _ _ ha))) ?_
    walk_at "s"
    refine x_eq rfl ?_
    have el : (kvsW (L.map (·.2))).length = (L.map fun q => V.ref q.1).length := by
      unfold kvsW
      rw [List.length_map, List.length_map, List.length_map]
    rw [el, decide_eq_true rfl]
    refine ⟨true, rfl, ite_t ?_⟩
    walk_at "s"
    refine x_sqL (SqL.of (O7.sub _ _ (s17 _ _ ha))) ?_
    refine lc_map (by walk_at "n") walk_list O7 hln (fun _ i y => y = V.bl true) (fun _ _ _ _ _ z => z) (fun G' H' D acc s' O' => SqL.of (O'.sub _ _ ((s17.trans s') _ _ ha))) ?_ gm_tup2 ?_
    · rintro i x G' H' H2' D acc hil s' O' ⟨rfl, ex⟩ kk
      obtain ⟨t, rfl, et⟩ := ref_at ex
      have mt : t ∈ L := List.mem_of_getElem? et
      have m2 : t.2 ∈ L.map (·.2) := List.mem_map.mpr ⟨t, mt, rfl⟩
      have gt := (s17.trans s') _ _ (pr t mt)
      have hb := s' _ _ e7
      have k1 : t.2.1 ∈ keysW (L.map (·.2)) := List.mem_map.mpr ⟨t.2, m2, rfl⟩
      have k2 := o.bk _ k1
      have k3 := o.inv _ k1
      rw [bS_at o.nd m2] at k2 k3
      refine x_gT (SqT.of (O'.sub _ _ gt)) rfl ?_
      refine x_gC ?_
      walk_at "n1"
      refine x_gC ?_
      walk_at "n1"
      refine x_gNl ?_
      walk_at "s"
      refine ⟨bo, _, rfl, dgS O' hb, ?_⟩
      rw [valW k2]
      refine ⟨true, rfl, ite_t ?_⟩
      walk_at "s"
      refine ⟨bo, _, rfl, by have z := dgS (x := t.2.2) O' hb; rw [valW k2] at z; exact z, ?_⟩
      rw [k3]
      walk_at "s"
      refine x_eq rfl ?_
      rw [decide_eq_true rfl]
      exact kk _ _ _ (Same.refl _) O' rfl
    intro G8 H8 p8 ys s8 O8 e8 l8 r8
    walk_at "s"
    refine x_all1 (SqL.of (O8.sub _ _ e8)) l8 r8 ?_
    exact q G8 H8 (s17.trans s8) O8
end
end
section
open PySem PySem.Spec PyProof.Rows L2 G
set_option maxHeartbeats 4000000
local macro_rules | `(tactic| walk_at "s1") => `(tactic| with_reducible first | refine x_appL ?_ | refine x_star ?_ | refine x_lenSS ?_ | refine x_lenS ?_)
def itD : PyData → Option (List PyData)
  | .list ds => some ds
  | .tuple ds => some ds
  | _ => none
def SqA (K : PySem.W.Frag) (H : Hp) (a : Addr) (xs : List V) : Prop := SqL K H a xs ∨ SqT K H a xs
section
variable {K : PySem.W.Frag} {G H : Hp} {a p : Addr} {xs : List V} {v : V} {d : PyData} {ds : List PyData} {Q : VK} {R : List (Addr × HO)} {i : Int}
theorem SqA.same {G' : Hp} (h : SqA K G a xs) (s : Same G G') : SqA K G' a xs := h.imp (fun h => s.seq h) (fun h => same_t s h)
theorem SqA.at (h : SqA K G a xs) (O : Own G H R) : SqA K H a xs := h.same O.sub
theorem dt_it (h : Dt K H v d) (e : itD d = some ds) : ∃ a xs, v = .ref a ∧ SqA K H a xs ∧ DtL K H xs ds := by
  cases h with
  | lst h1 h2 => cases e; exact ⟨_, _, rfl, .inl h1, h2⟩
  | tup h1 h2 => cases e; exact ⟨_, _, rfl, .inr h1, h2⟩
  | _ => cases e
theorem dtl_strs : ∀ {r : List Str} {xs : List V}, DtL K H xs (r.map PyData.str) → xs = r.map V.str
  | [], _, .nil => rfl
  | x :: r, _, .cons h t => by
    cases h
    rw [dtl_strs t]
    rfl
theorem strs_dtl : ∀ (r : List Str), DtL K H (r.map V.str) (r.map PyData.str)
  | [] => .nil
  | x :: r => .cons (.str x) (strs_dtl r)
theorem x_lenA (h : SqA K H p xs) (q : Q (.int xs.length) H) : aLen K [.ref p] H Q := h.elim (fun h => x_lenl h q) (fun h => x_lent h q)
theorem nd_len {α : Type} [DecidableEq α] : ∀ {xs ys : List α}, xs.Nodup → (∀ x ∈ xs, x ∈ ys) → xs.length ≤ ys.length
  | [], _, _, _ => Nat.zero_le _
  | x :: xs, ys, n, h => by
    obtain ⟨n1, n2⟩ := List.nodup_cons.mp n
    have hx := h x List.mem_cons_self
    have := nd_len (ys := ys.erase x) n2 fun y hy => (List.mem_erase_of_ne (fun e => n1 (by rw [← e]; exact hy))).mpr (h y (List.mem_cons_of_mem _ hy))
    rw [List.length_erase_of_mem hx] at this
    have l := List.length_pos_of_mem hx
    rw [List.length_cons]
    omega
theorem pulls {α : Type} {f : α → V} {Φ : Nat → α → Prop} : ∀ {ys : List V} {b : Nat}, (∀ (i : Nat) (y : V), ys[i]? = some y → ∃ q, y = f q ∧ Φ (b + i) q) → ∃ L2 : List α, ys = L2.map f ∧ ∀ (i : Nat) (q : α), L2[i]? = some q → Φ (b + i) q
  | [], _, _ => ⟨[], rfl, fun i q e => by simp at e⟩
  | y :: ys, b, h => by
    obtain ⟨q, rfl, h0⟩ := h 0 y rfl
    obtain ⟨L2, rfl, h2⟩ := pulls (Φ := Φ) (b := b + 1) fun i y e => by
      have z := h (i + 1) y (by simpa using e)
      rwa [show b + (i + 1) = b + 1 + i by omega] at z
    refine ⟨q :: L2, rfl, fun i r e => ?_⟩
    cases i with
    | zero => cases e; exact h0
    | succ i =>
      have z := h2 i r (by simpa using e)
      rwa [show b + (i + 1) = b + 1 + i by omega]
theorem x_allR {n : Nat} {Φ : Nat → Prop} {ys : List V} (h : SqL K H p ys) (hl : ys.length = n) (hy : ∀ (i : Nat) (y : V), ys[i]? = some y → ∃ b : Bool, y = .bl b ∧ (b = true ↔ Φ i)) (q : ∀ b : Bool, (b = true ↔ ∀ i, i < n → Φ i) → Q (.bl b) H) : rAll K [.ref p] H Q := by
  obtain ⟨bs, rfl, hb⟩ : ∃ bs : List Bool, ys = bs.map V.bl ∧ ∀ (i : Nat) (b : Bool), bs[i]? = some b → (b = true ↔ Φ i) := by
    have := pulls (b := 0) (f := V.bl) (Φ := fun i b => (b = true ↔ Φ i)) (fun i y e => by rw [Nat.zero_add]; exact hy i y e)
    simp only [Nat.zero_add] at this
    exact this
  refine ⟨p, bs, rfl, h, q _ ?_⟩
  rw [List.all_eq_true]
  rw [List.length_map] at hl
  constructor
  · intro z i hi
    have e : bs[i]? = some bs[i] := List.getElem?_eq_getElem (by omega)
    exact (hb i _ e).mp (z _ (List.getElem_mem (by omega)))
  · intro z b hbm
    obtain ⟨i, hi, rfl⟩ := List.getElem_of_mem hbm
    exact (hb i _ (List.getElem?_eq_getElem hi)).mpr (z i (by omega))
theorem x_sqA {S : It → Prop} (O : Own G H R) (h : SqA K G p xs) (q : ∀ (J : It) (Gd : Hp → Prop), Walk J xs.length Gd (YAt xs) → (∀ (G' H' : Hp) (L' : List (Addr × HO)), Same G G' → Own G' H' L' → Gd H') → S J) :
    ∃ (a : Addr) (ys : List V), V.ref p = .ref a ∧ ((SqL K H a ys ∧ S (Itl K a)) ∨ (SqT K H a ys ∧ S (Itt K a))) := by
  rcases h with h | h
  · exact ⟨p, xs, rfl, .inl ⟨O.seq h, q _ _ walk_list fun G' H' L' s O => O.seq (s.seq h)⟩⟩
  · exact ⟨p, xs, rfl, .inr ⟨O.set h, q _ _ walk_tup fun G' H' L' s O => O.set (same_t s h)⟩⟩
def isL (d : PyData) : Bool := (itD d).isSome
theorem isL_ty (d : PyData) : (tyN d == "list" || tyN d == "tuple") = isL d := by cases d <;> rfl
theorem txt_at {ys : List Str} {i : Nat} {x : V} (h : (ys.map V.str)[i]? = some x) : ∃ y, x = .str y ∧ ys[i]? = some y := by
  rw [List.getElem?_map] at h
  cases e : ys[i]? with
  | none => rw [e] at h; cases h
  | some y => rw [e] at h; cases h; exact ⟨y, rfl, rfl⟩
theorem x_inA {x : Str} {ts : List Str} (h : SqA K H a (ts.map V.str)) (q : Q (.bl (ts.contains x)) H) : rIn K false (.str x) (.ref a) H Q := x_inS h q
end
/-- ascending, each once -/
structure Asc (l : List Str) : Prop where
  srt : l.Pairwise (fun a b => a.cps.toList ≤ b.cps.toList)
  nd : l.Nodup
theorem str_anti {a b : Str} (h1 : a.cps.toList ≤ b.cps.toList) (h2 : b.cps.toList ≤ a.cps.toList) : a = b := PySem.W.str_of_cps (List.le_antisymm h1 h2)
theorem Asc.uniq {l l' : List Str} (h : Asc l) (h' : Asc l') (e : ∀ x, x ∈ l ↔ x ∈ l') : l = l' := by
  have c : ∀ {l : List Str}, Asc l → l.Pairwise (fun a b => decide (a.cps.toList ≤ b.cps.toList) = true) := fun h => h.srt.imp fun z => decide_eq_true z
  exact srt_uniq (le := fun a b : Str => decide (a.cps.toList ≤ b.cps.toList)) (c h) (c h') h.nd h'.nd e fun a _ b _ x y => str_anti (of_decide_eq_true x) (of_decide_eq_true y)
theorem Asc.filter {l : List Str} (h : Asc l) (p : Str → Bool) : Asc (l.filter p) := ⟨h.srt.filter p, h.nd.filter p⟩
theorem Asc.sub {l l' : List Str} (h : Asc l) (s : l'.Sublist l) : Asc l' := ⟨h.srt.sublist s, h.nd.sublist s⟩
section
variable {P : Program} {w : World} {K : PySem.W.Frag} {mg : Str → Option Value} {base : Heap} {k : Nat} {kw C D CW : Addr}
theorem x_isiA {H : Hp} {Q : VK} {v : V} {d : PyData} {p : Addr} (h : Dt K H v d) (hp : H p = some (.tup [.ty "list", .ty "tuple"])) (q : Q (.bl (isL d)) H) : aIsi K [v, .ref p] H Q := by
  refine x_isiLT h hp ?_
  rw [isL_ty]
  exact q
def sp_isD (K : PySem.W.Frag) : Sp := fun vs H Q _ => ∃ (G : Hp) (R : List (Addr × HO)) (v : V) (d : PyData), vs = [v] ∧ Own G H R ∧ Dt K G v d ∧ ∀ (G' H' : Hp), Same G G' → Own G' H' R → Q (.bl (isL d)) H'
theorem ok_isD {f : Addr} {fd : FuncData} (F : Fun K "is_list" "is_list" s_is_list f fd) (B : Btt mg) : FnG P w K mg base (k + 1) f fd ["value"] (sp_isD K) := by
  refine fnG_of F sc_is_list (fun vs H Q E h => ?_) (fun cdv A outer s H vs Q E r h => ?_)
  · obtain ⟨_, _, _, _, rfl, _⟩ := h
    rfl
  · obtain ⟨G, R, v, d, rfl, O, hv, q⟩ := h
    refine ⟨_, (pss_one (ps_ret (pe_callB (cIsiK (K := K) rfl) (by rfl) B.isinstance (by decide +kernel) (pa_cons (pv 0) (pa_cons (d_tup (pa_cons (pe_bltn (v := .ty "list") (u := .type "list") (by rfl) B.list (by decide +kernel) rfl) (pa_cons (pe_bltn (v := .ty "tuple") (u := .type "tuple") (by rfl) B.tuple (by decide +kernel) rfl) pa_nil))) pa_nil))))), ?_⟩
    try dsimp only [cxOf]
    refine x_start (σ' := [some _]) rfl ?_
    walk_at "s"
    refine ⟨by show 2 ≤ sizeLine; decide, x_fix O fun p G2 H2 s2 O2 e2 => ?_⟩
    exact x_isiA (O2.dt (hv.mono s2)) (O2.sub _ _ e2) (q G2 H2 s2 O2)
abbrev s_are_different : Stmt := top 15
theorem sc_are_different : FnScope ["items"] ["items"] (defScope s_are_different) := ⟨rfl, rfl, rfl, by decide +kernel, rfl, by decide +kernel, by decide +kernel⟩
def sp_difS (K : PySem.W.Frag) : Sp := fun vs H Q _ => ∃ (a : Addr) (xs : List Str), vs = [.ref a] ∧ SqA K H a (xs.map V.str) ∧ xs.length ≤ 4000 ∧ Q (.bl (decide xs.Nodup)) H
theorem ok_difS {f : Addr} {fd : FuncData} (F : Fun K "are_different" "are_different" s_are_different f fd) (B : Btt mg) : FnG P w K mg base (k + 1) f fd ["items"] (sp_difS K) := by
  refine fnG_of F sc_are_different (fun vs H Q E h => ?_) (fun cdv A outer s H vs Q E r h => ?_)
  · obtain ⟨_, _, rfl, _⟩ := h
    rfl
  · obtain ⟨a, xs, rfl, ha, hl, q⟩ := h
    refine ⟨_, (pss_one (ps_ret (pe_cmpR (oEqK (K := K) rfl r) (pe_lenSetS (K := K) rfl rfl (by rfl) B.len (by rfl) B.set (pv 0)) (pe_callB (cLenK (K := K) rfl) (by rfl) B.len (by decide +kernel) (pa_cons (pv 0) pa_nil)) (nomark _)))), ?_⟩
    try dsimp only [cxOf]
    refine x_start (σ' := [some _]) rfl ?_
    walk_at "s"
    refine ⟨a, xs, rfl, ha, hl, fun n h1 h2 => ?_⟩
    walk_at "s"
    refine x_lenA ha ?_
    rw [List.length_map]
    walk_at "s"
    refine x_eq rfl ?_
    have e : decide (V.int (n : Nat) = V.int (xs.length : Nat)) = decide xs.Nodup := decide_eq_decide.mpr ⟨fun z => h2.mp (by have := V.int.inj z; omega), fun z => by rw [h2.mpr z]⟩
    rw [e]
    exact q
end
end
section
open PySem PySem.Spec PyProof.Rows L2 G
set_option maxHeartbeats 4000000
/-! ### data -/
theorem lay_all {α : Type} {f : α → PyData} : ∀ {xs : List α}, (∀ x ∈ xs, PyData.canLay0 (f x) = true) → PyData.canLayAll0 (xs.map f) = true
  | [], _ => by simp only [List.map_nil, PyData.canLayAll0]
  | x :: xs, h => by
    simp only [List.map_cons, PyData.canLayAll0, Bool.and_eq_true]
    exact ⟨h x List.mem_cons_self, lay_all fun y hy => h y (List.mem_cons_of_mem _ hy)⟩
theorem depth_all {α : Type} {f : α → PyData} {n : Nat} : ∀ {xs : List α}, (∀ x ∈ xs, (f x).depth ≤ n) → PyData.depthAll (xs.map f) ≤ n
  | [], _ => by simp only [List.map_nil, PyData.depthAll]; exact Nat.zero_le _
  | x :: xs, h => by
    simp only [List.map_cons, PyData.depthAll]
    exact Nat.max_le.mpr ⟨h x List.mem_cons_self, depth_all fun y hy => h y (List.mem_cons_of_mem _ hy)⟩
theorem sum_le {xs : List Str} {n : Nat} (h : ∀ y ∈ xs, y.length ≤ n) : (xs.map (·.length)).sum ≤ xs.length * n := by
  induction xs with
  | nil => simp
  | cons x xs ih =>
    have h1 := h x List.mem_cons_self
    have h2 := ih fun y hy => h y (List.mem_cons_of_mem _ hy)
    simp only [List.map_cons, List.sum_cons, List.length_cons, Nat.add_mul, Nat.one_mul]
    omega
/-- n letters -/
def Lx (n : Nat) (x : Str) : Prop := x.length = n ∧ ∀ c ∈ x.cps.toList, isLetter c
theorem Lx.app {m n : Nat} {x y : Str} (h : Lx m x) (h' : Lx n y) : Lx (m + n) (x ++ y) := ⟨by rw [len_apS, h.1, h'.1], fun c hc => by
  rw [tl_app] at hc
  exact (List.mem_append.mp hc).elim (h.2 c) (h'.2 c)⟩
theorem Lx.join : ∀ {ys : List Str}, (∀ y ∈ ys, Lx 1 y) → Lx ys.length (Txt.join (Str.ofString "") ys) := by
  intro ys h
  rw [show Txt.join (Str.ofString "") ys = Str.join (Str.ofString "") ys from TL.join_eq _ ys]
  induction ys with
  | nil => exact ⟨rfl, fun _ z => nomatch z⟩
  | cons x ys ih =>
    have hx := h x List.mem_cons_self
    cases ys with
    | nil => exact hx
    | cons z r =>
      have h2 := ih fun y hy => h y (List.mem_cons_of_mem _ hy)
      show Lx _ (x ++ Str.ofString "" ++ Str.join (Str.ofString "") (z :: r))
      have h3 : Lx 0 (Str.ofString "") := ⟨rfl, fun _ z => nomatch z⟩
      have := (hx.app h3).app h2
      rw [List.length_cons]
      rwa [show 1 + 0 + (z :: r).length = (z :: r).length + 1 by omega] at this
theorem abc_at {r : Int} (h0 : 0 ≤ r) (h1 : r < 26) : atI wLetters.cps.toList r = some (97 + r.toNat) := by
  obtain ⟨n, rfl⟩ := Int.eq_ofNat_of_zero_le h0
  have : ∀ n : Fin 26, atI wLetters.cps.toList ((n.val : Nat) : Int) = some (97 + n.val) := by decide +kernel
  exact this ⟨n, by omega⟩
theorem lx_1 {n : Nat} (h : n < 26) : Lx 1 ⟨#[97 + n]⟩ := ⟨rfl, fun c hc => by
  simp at hc
  unfold isLetter
  omega⟩
section
variable {P : Program} {w : World} {K : PySem.W.Frag} {mg : Str → Option Value} {base : Heap} {k : Nat} {kw C D CW : Addr}
abbrev s__law_mixed : Stmt := top 43
theorem sc__law_mixed : FnScope ["box", "items", "left", "found"] ["box", "items"] (defScope s__law_mixed) := ⟨rfl, rfl, rfl, by decide +kernel, rfl, by decide +kernel, by decide +kernel⟩
def sp_mix (K : PySem.W.Frag) : Sp := fun vs H Q _ => ∃ (G : Hp) (R : List (Addr × HO)) (b a : Addr) (xs : List V) (N : Nat) (bx : List V), vs = [.ref b, .ref a] ∧ Own G H ((b, .lst bx) :: R) ∧ SqL K G a xs ∧ Box (N + xs.length) bx ∧ xs.length ≤ 1000 ∧
  ∀ (G' H' : Hp) (p : Addr) (ys : List V) bx', Same G G' → ys.Perm xs → G' p = some (.lst ys) → Own G' H' ((b, .lst bx') :: R) → Box N bx' → Q (.ref p) H'
theorem ok_mix {f : Addr} {fd : FuncData} (F : Fun K "_law_mixed" "_law_mixed" s__law_mixed f fd) (B : Btt mg) (C__law_take : Cal P w K mg base k "_law_take" ["box", "many"] sp_take) : FnG P w K mg base (k + 1) f fd ["box", "items"] (sp_mix K) := by
  refine fnG_of F sc__law_mixed (fun vs H Q E h => ?_) (fun cdv A outer s H vs Q E r h => ?_)
  · obtain ⟨_, _, b, a, xs, N, bx, rfl, _⟩ := h
    rfl
  · obtain ⟨G, R, b, a, xs, N, bx, rfl, O, ha, bo, hz, q⟩ := h
    refine ⟨_, (pss_cons (ps_par (i := 2) (j := 3) rfl sc__law_mixed.nd rfl rfl (by decide) rfl rfl (pa_cons (pe_callTy (cListK (K := K) rfl) (by rfl) B.list (by decide +kernel) (pa_cons (pv 1) pa_nil)) (pa_cons (d_lst pa_nil) pa_nil)) (by rfl))
       (pss_cons (ps_while (passes_of rfl) (pt_cmpR (oNeK (K := K) rfl r) (pv 2) (d_lst pa_nil) (nomark _))
       (pss_one (ps_expr (pe_bmK' (K := K) rfl PySem.F.plainAttrs_list PySem.F.slot_list_append PySem.F.type_list_append mApp (pv 3) (pa_cons (pe_bmK' (K := K) rfl PySem.F.plainAttrs_list PySem.F.slot_list_pop PySem.F.type_list_pop mPopA (pv 2) (pa_cons (g_call C__law_take r (by rfl) passL (pa_cons (pv 0) (pa_cons (pe_callB (cLenK (K := K) rfl) (by rfl) B.len (by decide +kernel) (pa_cons (pv 2) pa_nil)) pa_nil))) pa_nil)) pa_nil)))))
       (pss_one (ps_ret (pv 3))))), ?_⟩
    try dsimp only [cxOf]
    refine x_start (σ' := [some _, some _, none, none]) rfl ?_
    walk_at "s"
    refine x_listL (O.seq ha) (x_new O fun p H1 O1 => ?_)
    walk_at "s"
    refine ⟨by decide, x_new O1 fun p2 H2 O2 => ?_⟩
    walk_at "s"
    refine while_own (m := xs.length) O2 (fun m σ G' L' => ∃ ls fs bx', L' = (p2, .lst fs) :: (p, .lst ls) :: (b, .lst bx') :: R ∧ (fs ++ ls).Perm xs ∧ ls.length = m ∧ Box (N + m) bx' ∧ σ[0]? = some (some (.ref b)) ∧ σ[2]? = some (some (.ref p)) ∧ σ[3]? = some (some (.ref p2))) ⟨xs, [], bx, rfl, List.Perm.refl _, rfl, bo, rfl, rfl, rfl⟩ ?_
    rintro m σ G' H' L' s' O' ⟨ls, fs, bx', rfl, hp, hl, bo', e0, e2, e3⟩
    walk_at "s"
    refine ⟨by decide, x_new O' fun p3 H3 O3 => ?_⟩
    refine x_neN (SqL.of O3.at2) (SqL.of O3.at0) ?_
    walk_at "s"
    have O4 := O3.tail
    cases ls with
    | nil =>
      refine ite_f ?_
      walk_at "s"
      rw [List.append_nil] at hp
      refine q (upd G' p2 (.lst fs)) _ p2 fs bx' (fun z w e => (Same.new O4.no0) z w (s' z w e)) hp upd_same O4.frz0.tail (bo'.le (by omega))
    | cons l ls =>
      refine ite_t ?_
      refine w_yes ?_
      walk_at "s"
      refine ⟨ty_l (SqL.of O4.at0), ?_⟩
      walk_at "s"
      refine ⟨ty_l (SqL.of O4.at1), ?_⟩
      walk_at "s"
      refine x_lenl (SqL.of O4.at1) ?_
      walk_at "s"
      have hle : m ≤ 1000 := by
        have := hp.length_eq
        rw [List.length_append] at this
        omega
      rw [hl]
      refine ⟨G', _, b, m, N + (m - 1), bx', rfl, O4.rot3, bo'.le (by rw [List.length_cons] at hl; omega), by rw [List.length_cons] at hl; omega, by omega, fun H5 r bx2 r0 r1 O5 b5 => ?_⟩
      walk_at "s"
      have O6 := O5.rot3.rot3
      obtain ⟨n, rfl⟩ := Int.eq_ofNat_of_zero_le r0
      have hn : n < (l :: ls).length := by omega
      refine x_popA (m := n) (v := (l :: ls)[n]) O6.at1 (by omega) (by omega) (by rw [hl]; exact seqIndex?_nat (by omega)) (List.getElem?_eq_getElem hn) ?_
      refine x_md1 O6 fun H7 O7 => ?_
      walk_at "s"
      refine x_app O7.at0 (Nat.lt_of_le_of_lt (show fs.length ≤ 1000 by have := hp.length_eq; rw [List.length_append] at this; omega) (by decide)) (x_md0 O7 fun H8 O8 => ?_)
      walk_at "s"
      refine wvh (m' := m - 1) (by rw [List.length_cons] at hl; omega) s' O8 ⟨(l :: ls).eraseIdx n, fs ++ [(l :: ls)[n]], bx2, rfl, ?_, by rw [List.length_eraseIdx_of_lt hn]; omega, b5, e0, e2, e3⟩
      refine List.Perm.trans ?_ hp
      rw [List.append_assoc]
      refine List.Perm.append_left fs ?_
      exact perm_eras _ n hn
abbrev s__law_letters : Stmt := top 44
theorem sc__law_letters : FnScope ["box", "many", "k"] ["box", "many"] (defScope s__law_letters) := ⟨rfl, rfl, rfl, by decide +kernel, rfl, by decide +kernel, by decide +kernel⟩
def sp_ltr : Sp := fun vs H Q _ => ∃ (G : Hp) (R : List (Addr × HO)) (b : Addr) (m N : Nat) (bx : List V), vs = [.ref b, .int m] ∧ Own G H ((b, .lst bx) :: R) ∧ Box (N + m) bx ∧ m ≤ 8 ∧
  ∀ (G' H' : Hp) (x : Str) bx', Same G G' → Lx m x → Own G' H' ((b, .lst bx') :: R) → Box N bx' → Q (.str x) H'
theorem ok_ltr {f : Addr} {fd : FuncData} (F : Fun K "_law_letters" "_law_letters" s__law_letters f fd) (B : Btt mg) (C__law_take : Cal P w K mg base k "_law_take" ["box", "many"] sp_take) : FnG P w K mg base (k + 1) f fd ["box", "many"] sp_ltr := by
  refine fnG_of F sc__law_letters (fun vs H Q E h => ?_) (fun cdv A outer s H vs Q E r h => ?_)
  · obtain ⟨_, _, b, m, N, bx, rfl, _⟩ := h
    rfl
  · obtain ⟨G, R, b, m, N, bx, rfl, O, bo, hm, q⟩ := h
    refine ⟨_, (pss_one (ps_ret (pe_bmK' (K := K) rfl PySem.F.plainAttrs_str PySem.F.slot_str_join PySem.F.type_str_join (mJoinK (K := K) rfl) pe_str (pa_cons (pe_lc (own := [("k", 2)]) rfl sc__law_letters.nd (pi_range1 (by rfl) B.range (pa_cons (pv 1) pa_nil)) (blkOk_by (N := ["box", "many", "k"]) (sc := defScope s__law_letters) (by decide +kernel)) (fun _ _ _ _ _ => (pg_name (i := 2) sc__law_letters.nd rfl (Or.inl rfl))) (fun _ _ _ _ _ => pts_nil) (fun _ _ _ _ _ => (pe_ix (ixK (K := K) rfl) pe_str (g_call C__law_take r (by rfl) passL (pa_cons (pv 0) (pa_cons pe_int pa_nil))) (fun _ _ => rfl)))) pa_nil)))), ?_⟩
    try dsimp only [cxOf]
    refine x_start (σ' := [some _, some _, none]) rfl ?_
    walk_at "s"
    refine ⟨ty_s, ?_⟩
    walk_at "s"
    refine x_rg (by omega) (by omega) ?_
    refine lc_own (by walk_at "n") walk_range O (fun i G' L' acc => ∃ bx' xs, L' = (b, .lst bx') :: R ∧ acc = xs.map V.str ∧ xs.length = i ∧ Box (N + (m - i)) bx' ∧ ∀ x ∈ xs, Lx 1 x) ⟨bx, [], rfl, rfl, rfl, bo, fun _ z => nomatch z⟩ (fun _ _ _ _ _ _ _ _ _ => True.intro) ?_ ?_
    · rintro i x G' H' H2 D L' acc hi s' O' ⟨bx', xs, rfl, rfl, hl, bo', hx⟩ ⟨rfl, rfl⟩
      have hi' : i < m := by omega
      walk_at "s"
      refine ⟨G', _, b, 26, N + (m - (i + 1)), bx', rfl, O'.swap, bo'.le (by omega), by decide, by decide, fun H3 r bx2 r0 r1 O3 b3 => ?_⟩
      refine x_ixs (by decide) (abc_at r0 r1) ?_
      refine lcn s' O3.swap (by rw [List.length_map]; exact Nat.lt_of_lt_of_le (show xs.length < 1000 by omega) (by decide)) ⟨bx2, xs ++ [⟨#[97 + r.toNat]⟩], rfl, by rw [List.map_append]; rfl, by rw [List.length_append]; simp [hl], b3, fun x h => ?_⟩
      rcases List.mem_append.mp h with h | h
      · exact hx x h
      · rw [List.mem_singleton.mp h]; exact lx_1 (by omega)
    · rintro G' H' D L' acc s' O' ⟨bx', xs, rfl, rfl, hl, bo', hx⟩
      walk_at "s"
      have el : xs.length = m := by omega
      have e2 := sum_le (n := 1) (xs := xs) fun x h => Nat.le_of_eq (hx x h).1
      refine ⟨_, D, xs, rfl, rfl, .inl (SqL.of O'.at0), ?_, ?_⟩
      · show _ + _ * 0 ≤ _
        omega
      · have z := Lx.join hx
        rw [el] at z
        exact q G' H' _ bx' s' z O'.tail (bo'.le (by omega))
end
end
section
open PySem PySem.Spec PyProof.Rows L2 G
set_option maxHeartbeats 4000000
local macro_rules | `(tactic| walk_at "s1") => `(tactic| with_reducible first | refine x_appL ?_ | refine x_star ?_)
/-! ### programs' standings, plain -/
structure Cs where
  ms : List (Option (List Str))
  wd : Str
  gl : Str
  sr : List Str
structure Sd where
  nm : Str
  st : List Str
  cs : List Cs
/-- a list or a tuple -/
def sqD (b : Bool) (ds : List PyData) : PyData := if b then .list ds else .tuple ds
def dMk (b : Bool) : Option (List Str) → PyData
  | none => .none
  | some ms => sqD b (ms.map .str)
def dCs (b : Bool) (c : Cs) : PyData := .tuple [sqD b (c.ms.map (dMk b)), .str c.wd, .str c.gl, sqD b (c.sr.map .str)]
def dSd (b : Bool) (s : Sd) : PyData := .tuple [.str s.nm, sqD b (s.st.map .str), sqD b (s.cs.map (dCs b))]
def dSt (b : Bool) (ss : List Sd) : PyData := sqD b (ss.map (dSd b))
/-- a word: 1 to 8 letters -/
structure Wd (x : Str) : Prop where
  l1 : 1 ≤ x.length
  l8 : x.length ≤ 8
  let_ : ∀ c ∈ x.cps.toList, isLetter c
theorem Nm.wd {x : Str} (h : Nm x) : Wd x := ⟨h.l1, h.l8, h.let_⟩
abbrev wIs : Str := Str.ofString "is"
abbrev wNew : Str := Str.ofString "new"
/-- how many seats the standing of this name has -/
def roomS (ss : List Sd) (x : Str) : Nat := ((ss.find? fun s => decide (s.nm = x)).map (·.st.length)).getD 0
structure MkOk (kn : List Str) (mk : Option (List Str)) : Prop where
  ne : ∀ ms, mk = some ms → ms ≠ []
  nd : ∀ ms, mk = some ms → ms.Nodup
  sub : ∀ ms, mk = some ms → ∀ x ∈ ms, x ∈ kn
structure CsOk (kn : List Str) (ss : List Sd) (st : List Str) (c : Cs) : Prop where
  ml : c.ms.length = st.length
  mm : ∀ m ∈ c.ms, MkOk kn m
  wd : Wd c.wd
  gl : c.gl ∈ ss.map (·.nm)
  sl : c.sr.length = roomS ss c.gl
  sr : ∀ x ∈ c.sr, x = wNew ∨ x ∈ st
structure SdOk (kn : List Str) (ss : List Sd) (s : Sd) : Prop where
  wd : Wd s.nm
  sl : s.st.length ≤ 5
  sn : ∀ x ∈ s.st, Nm x
  sd : s.st.Nodup
  c1 : 1 ≤ s.cs.length
  c130 : s.cs.length ≤ 130
  cs : ∀ c ∈ s.cs, CsOk kn ss s.st c
  last : ∀ c, s.cs[s.cs.length - 1]? = some c → ∀ m ∈ c.ms, m = none
structure StOk (kn : List Str) (ss : List Sd) : Prop where
  l1 : 1 ≤ ss.length
  l2 : ss.length ≤ 20000
  nd : (ss.map (·.nm)).Nodup
  sd : ∀ s ∈ ss, SdOk kn ss s
  first : ∀ s, ss[0]? = some s → s.st = []
/-! ### data, taken apart -/
section
variable {K : PySem.W.Frag} {G H : Hp} {v : V} {xs : List V} {ds : List PyData} {R : List (Addr × HO)}
theorem dt_lst (h : Dt K H v (.list ds)) : ∃ a xs, v = .ref a ∧ SqL K H a xs ∧ DtL K H xs ds := by cases h; exact ⟨_, _, rfl, ‹_›, ‹_›⟩
theorem dt_tup (h : Dt K H v (.tuple ds)) : ∃ a xs, v = .ref a ∧ SqT K H a xs ∧ DtL K H xs ds := by cases h; exact ⟨_, _, rfl, ‹_›, ‹_›⟩
theorem dt_str {x : Str} (h : Dt K H v (.str x)) : v = .str x := by cases h; rfl
theorem dt_non (h : Dt K H v .none) : v = .non := by cases h; rfl
theorem dt_strsL {r : List Str} (h : Dt K H v (.list (r.map .str))) : ∃ a, v = .ref a ∧ SqL K H a (r.map V.str) := by
  obtain ⟨a, xs, rfl, h1, h2⟩ := dt_lst h
  rw [dtl_strs h2] at h1
  exact ⟨a, rfl, h1⟩
theorem dt_strsT {r : List Str} (h : Dt K H v (.tuple (r.map .str))) : ∃ a, v = .ref a ∧ SqT K H a (r.map V.str) := by
  obtain ⟨a, xs, rfl, h1, h2⟩ := dt_tup h
  rw [dtl_strs h2] at h1
  exact ⟨a, rfl, h1⟩
theorem dtl_at {i : Nat} {x : V} (h : DtL K H xs ds) (e : xs[i]? = some x) : ∃ d, ds[i]? = some d ∧ Dt K H x d := by
  have hi : i < ds.length := by rw [← h.length]; exact (List.getElem?_eq_some_iff.mp e).1
  obtain ⟨v, ev, hv⟩ := h.get i (List.getElem?_eq_getElem hi)
  rw [e] at ev
  cases ev
  exact ⟨_, List.getElem?_eq_getElem hi, hv⟩
theorem dtl_mapAt {α : Type} {f : α → PyData} {l : List α} {i : Nat} {x : V} (h : DtL K H xs (l.map f)) (e : xs[i]? = some x) : ∃ c, l[i]? = some c ∧ Dt K H x (f c) := by
  obtain ⟨d, ed, hd⟩ := dtl_at h e
  rw [List.getElem?_map] at ed
  cases el : l[i]? with
  | none => rw [el] at ed; cases ed
  | some c => rw [el] at ed; cases ed; exact ⟨c, rfl, hd⟩
theorem dtl_mapGet {α : Type} {f : α → PyData} {l : List α} {i : Nat} {c : α} (h : DtL K H xs (l.map f)) (e : l[i]? = some c) : ∃ x, xs[i]? = some x ∧ Dt K H x (f c) := h.get i (by rw [List.getElem?_map, e]; rfl)
/-- a standing's parts, at a tuple of data -/
theorem dt_sd {b : Bool} {s : Sd} (h : Dt K H v (dSd b s)) : ∃ a v2 v3, v = .ref a ∧ SqT K H a [.str s.nm, v2, v3] ∧ Dt K H v2 (sqD b (s.st.map .str)) ∧ Dt K H v3 (sqD b (s.cs.map (dCs b))) := by
  obtain ⟨a, xs, rfl, h1, h2⟩ := dt_tup h
  obtain _ | ⟨e1, t⟩ := h2
  obtain _ | ⟨e2, t⟩ := t
  obtain _ | ⟨e3, t⟩ := t
  cases t
  rw [dt_str e1] at h1
  exact ⟨a, _, _, rfl, h1, e2, e3⟩
theorem dt_cs {b : Bool} {c : Cs} (h : Dt K H v (dCs b c)) : ∃ a v1 v4, v = .ref a ∧ SqT K H a [v1, .str c.wd, .str c.gl, v4] ∧ Dt K H v1 (sqD b (c.ms.map (dMk b))) ∧ Dt K H v4 (sqD b (c.sr.map .str)) := by
  obtain ⟨a, xs, rfl, h1, h2⟩ := dt_tup h
  obtain _ | ⟨e1, t⟩ := h2
  obtain _ | ⟨e2, t⟩ := t
  obtain _ | ⟨e3, t⟩ := t
  obtain _ | ⟨e4, t⟩ := t
  cases t
  rw [dt_str e2, dt_str e3] at h1
  exact ⟨a, _, _, rfl, h1, e1, e4⟩
end
/-! ### dicts with texts as keys -/
/-- a dict whose keys are these texts -/
def KnD (G : Hp) (d : Addr) (ks : List Str) : Prop := ∃ kvs, G d = some (.dK kvs) ∧ ∀ x : Str, (valV kvs (Sum.inr x)).isSome = true ↔ x ∈ ks
theorem KnD.same {G G' : Hp} {d : Addr} {ks : List Str} (h : KnD G d ks) (s : Same G G') : KnD G' d ks := by
  obtain ⟨kvs, h1, h2⟩ := h
  exact ⟨kvs, s _ _ h1, h2⟩
/-- a dict of numbers with texts as keys -/
def NuD (G : Hp) (d : Addr) (ks : List Str) (f : Str → Nat) : Prop := ∃ kvs, G d = some (.dK kvs) ∧ (∀ x ∈ ks, valV kvs (Sum.inr x) = some (.int (f x : Nat))) ∧ ∀ x : Str, x ∉ ks → valV kvs (Sum.inr x) = none
theorem NuD.same {G G' : Hp} {d : Addr} {ks : List Str} {f : Str → Nat} (h : NuD G d ks f) (s : Same G G') : NuD G' d ks f := by
  obtain ⟨kvs, h1, h2⟩ := h
  exact ⟨kvs, s _ _ h1, h2⟩
section
variable {P : Program} {w : World} {K : PySem.W.Frag} {mg : Str → Option Value} {base : Heap} {k : Nat} {kw C D CW : Addr}
abbrev s_are_marks : Stmt := top 26
theorem sc_are_marks : FnScope ["known", "value", "mark"] ["known", "value"] (defScope s_are_marks) := ⟨rfl, rfl, rfl, by decide +kernel, rfl, by decide +kernel, by decide +kernel⟩
def sp_amk (K : PySem.W.Frag) : Sp := fun vs H Q _ => ∃ (G : Hp) (R : List (Addr × HO)) (kd : Addr) (v : V) (mk : Option (List Str)) (kn : List Str), vs = [.ref kd, v] ∧ Own G H R ∧ KnD G kd kn ∧ Dt K G v (dMk true mk) ∧ MkOk kn mk ∧ (∀ ms, mk = some ms → ms.length ≤ 1000) ∧
  ∀ (G' H' : Hp), Same G G' → Own G' H' R → Q (.bl true) H'
theorem ok_amk {f : Addr} {fd : FuncData} (F : Fun K "are_marks" "are_marks" s_are_marks f fd) (B : Btt mg) (C_is_list : Cal P w K mg base k "is_list" ["value"] (sp_isD K)) (C_are_different : Cal P w K mg base k "are_different" ["items"] (sp_difS K)) : FnG P w K mg base (k + 1) f fd ["known", "value"] (sp_amk K) := by
  refine fnG_of F sc_are_marks (fun vs H Q E h => ?_) (fun cdv A outer s H vs Q E r h => ?_)
  · obtain ⟨_, _, _, _, _, _, rfl, _⟩ := h
    rfl
  · obtain ⟨G, R, kd, v, mk, kn, rfl, O, ⟨kvs, hk, hkk⟩, hv, ok, lm, q⟩ := h
    refine ⟨_, (pss_cons (ps_if (pt_cmpR oIs (pv 1) pe_non (nomark _))
       (pss_one (ps_ret pe_bl))
       pss_nil)
       (pss_cons (ps_if (PW.pt (pw_or (pt_not (pt_truK (K := K) rfl (g_call C_is_list r (by rfl) passL (pa_cons (pv 1) pa_nil)))) (pw_or1 (pt_cmpR (oEqK (K := K) rfl r) (pe_callB (cLenK (K := K) rfl) (by rfl) B.len (by decide +kernel) (pa_cons (pv 1) pa_nil)) pe_int (nomark _)))))
       (pss_one (ps_ret pe_bl))
       pss_nil)
       (pss_one (ps_ret (pe_and (pe_callB (cAllK (K := K) rfl rfl) (by rfl) B.all (by decide +kernel) (pa_cons (pe_lc (own := [("mark", 2)]) rfl sc_are_marks.nd (pi_sqK (K := K) rfl (pv 1)) (blkOk_by (N := ["known", "value", "mark"]) (sc := defScope s_are_marks) (by decide +kernel)) (fun _ _ _ _ _ => (pg_name (i := 2) sc_are_marks.nd rfl (Or.inl rfl))) (fun _ _ _ _ _ => pts_nil) (fun _ _ _ _ _ => (pe_and (pe_callB (cIsiK (K := K) rfl) (by rfl) B.isinstance (by decide +kernel) (pa_cons (pv 2) (pa_cons (pe_bltn (v := .ty "str") (u := .type "str") (by rfl) B.str (by decide +kernel) rfl) pa_nil))) (pe_one (pe_cmpR (oInD r.hu) (pv 2) (pv 0) (by rfl)))))) pa_nil)) (pe_one (g_call C_are_different r (by rfl) passL (pa_cons (pv 1) pa_nil)))))))), ?_⟩
    try dsimp only [cxOf]
    refine x_start (σ' := [some _, some _, none]) rfl ?_
    walk_at "s"
    cases mk with
    | none =>
      obtain rfl := dt_non hv
      rw [decide_eq_true (rfl : V.non = V.non)]
      walk_at "s"
      exact q G H (Same.refl _) O
    | some ms =>
      obtain ⟨a, rfl, ha⟩ := dt_strsL hv
      have lm := lm ms rfl
      have ne := ok.ne ms rfl
      have l1 : 1 ≤ ms.length := List.length_pos_iff.mpr ne
      rw [decide_eq_false (fun e : V.ref a = V.non => nomatch e)]
      walk_at "s"
      refine ⟨G, R, .ref a, _, rfl, O, hv, fun G1 H1 s1 O1 => ?_⟩
      rw [show isL (dMk true (some ms)) = true from rfl]
      have ha1 := s1.seq ha
      walk_at "s"
      refine x_lenl (O1.seq ha1) ?_
      rw [List.length_map]
      walk_at "s"
      refine x_eq rfl ?_
      rw [decide_eq_false (fun e : V.int (ms.length : Nat) = V.int 0 => by have := V.int.inj e; omega)]
      walk_at "s"
      refine x_sqL (O1.seq ha1) ?_
      refine lc_map (by walk_at "n") walk_list O1 (by rw [List.length_map]; omega) (fun _ i y => y = V.bl true) (fun _ _ _ _ _ z => z) (fun G' H' D acc s' O' => O'.seq (s'.seq ha1)) ?_ gm_name ?_
      · rintro i x G' H' H2 D acc hi s' O' ⟨rfl, ex⟩ kk
        obtain ⟨z, rfl, ez⟩ := txt_at ex
        walk_at "s"
        refine x_isiS (.str z) ?_
        walk_at "s"
        refine ite_t ?_
        walk_at "s"
        have hz : (valV kvs (Sum.inr z)).isSome = true := (hkk z).mpr (ok.sub ms rfl z (List.mem_of_getElem? ez))
        refine ⟨kd, _, rfl, DGet.k (k := Sum.inr z) (O'.sub _ _ ((s1.trans s') _ _ hk)), ?_⟩
        rw [hz]
        exact kk _ _ _ (Same.refl _) O' rfl
      intro G2 H2 p2 ys s2 O2 e2 l2 r2
      walk_at "s"
      refine x_all1 (SqL.of (O2.sub _ _ e2)) l2 r2 ?_
      walk_at "s"
      refine ⟨a, ms, rfl, .inl (O2.seq (s2.seq ha1)), by omega, ?_⟩
      rw [decide_eq_true (ok.nd ms rfl)]
      exact q G2 H2 (s1.trans s2) O2
abbrev s_are_seats : Stmt := top 27
theorem sc_are_seats : FnScope ["value", "seat"] ["value"] (defScope s_are_seats) := ⟨rfl, rfl, rfl, by decide +kernel, rfl, by decide +kernel, by decide +kernel⟩
def sp_ase (K : PySem.W.Frag) : Sp := fun vs H Q _ => ∃ (G : Hp) (R : List (Addr × HO)) (v : V) (st : List Str), vs = [v] ∧ Own G H R ∧ Dt K G v (.list (st.map .str)) ∧ st.length ≤ 5 ∧ (∀ x ∈ st, Nm x) ∧ st.Nodup ∧
  ∀ (G' H' : Hp), Same G G' → Own G' H' R → Q (.bl true) H'
theorem ok_ase {f : Addr} {fd : FuncData} (F : Fun K "are_seats" "are_seats" s_are_seats f fd) (B : Btt mg) (T : Tc K mg kw C D) (C_is_list : Cal P w K mg base k "is_list" ["value"] (sp_isD K)) (C_is_name : Cal P w K mg base k "is_name" ["value"] sp_name) (C_are_different : Cal P w K mg base k "are_different" ["items"] (sp_difS K)) : FnG P w K mg base (k + 1) f fd ["value"] (sp_ase K) := by
  refine fnG_of F sc_are_seats (fun vs H Q E h => ?_) (fun cdv A outer s H vs Q E r h => ?_)
  · obtain ⟨_, _, _, _, rfl, _⟩ := h
    rfl
  · obtain ⟨G, R, v, st, rfl, O, hv, l5, hn, nd, q⟩ := h
    refine ⟨_, (pss_cons (ps_if (PW.pt (pw_or (pt_not (pt_truK (K := K) rfl (g_call C_is_list r (by rfl) passL (pa_cons (pv 0) pa_nil)))) (pw_or (pt_cmpR oGt (pe_callB (cLenK (K := K) rfl) (by rfl) B.len (by decide +kernel) (pa_cons (pv 0) pa_nil)) (C8.pe_gc (by rfl) T.MOST_SEATS) (nomark _)) (pw_or1 (pt_not (pt_truK (K := K) rfl (pe_callB (cAllK (K := K) rfl rfl) (by rfl) B.all (by decide +kernel) (pa_cons (pe_lc (own := [("seat", 1)]) rfl sc_are_seats.nd (pi_sqK (K := K) rfl (pv 0)) (blkOk_by (N := ["value", "seat"]) (sc := defScope s_are_seats) (by decide +kernel)) (fun _ _ _ _ _ => (pg_name (i := 1) sc_are_seats.nd rfl (Or.inl rfl))) (fun _ _ _ _ _ => pts_nil) (fun _ _ _ _ _ => (g_call C_is_name r (by rfl) passL (pa_cons (pv 1) pa_nil)))) pa_nil))))))))
       (pss_one (ps_ret pe_bl))
       pss_nil)
       (pss_one (ps_ret (g_call C_are_different r (by rfl) passL (pa_cons (pv 0) pa_nil))))), ?_⟩
    try dsimp only [cxOf]
    refine x_start (σ' := [some _, none]) rfl ?_
    walk_at "s"
    obtain ⟨a, rfl, ha⟩ := dt_strsL hv
    refine ⟨G, R, .ref a, _, rfl, O, hv, fun G1 H1 s1 O1 => ?_⟩
    rw [show isL (PyData.list (st.map .str)) = true from rfl]
    have ha1 := s1.seq ha
    walk_at "s"
    refine x_lenl (O1.seq ha1) ?_
    rw [List.length_map]
    walk_at "s"
    refine ite_b (fun c => absurd (of_decide_eq_true c) (by omega)) (fun _ => ?_)
    walk_at "s"
    refine x_sqL (O1.seq ha1) ?_
    refine lc_map (by walk_at "n") walk_list O1 (by rw [List.length_map]; omega) (fun _ i y => y = V.bl true) (fun _ _ _ _ _ z => z) (fun G' H' D acc s' O' => O'.seq (s'.seq ha1)) ?_ gm_name ?_
    · rintro i x G' H' H2 D acc hi s' O' ⟨rfl, ex⟩ kk
      obtain ⟨z, rfl, ez⟩ := txt_at ex
      walk_at "s"
      refine ⟨G', _, z, rfl, O', hn z (List.mem_of_getElem? ez), fun G4 H4 s4 O4 => ?_⟩
      exact kk _ _ _ s4 O4 rfl
    intro G2 H2 p2 ys s2 O2 e2 l2 r2
    walk_at "s"
    refine x_all1 (SqL.of (O2.sub _ _ e2)) l2 r2 ?_
    walk_at "s"
    refine ⟨a, st, rfl, .inl (O2.seq (s2.seq ha1)), by omega, ?_⟩
    rw [decide_eq_true nd]
    exact q G2 H2 (s1.trans s2) O2
end
end
section
open PySem PySem.Spec PyProof.Rows L2 G
set_option maxHeartbeats 4000000
local macro_rules | `(tactic| walk_at "s1") => `(tactic| with_reducible first | refine x_appL ?_ | refine x_star ?_)
theorem atI_neg1 {α : Type} {xs : List α} {v : α} (h : xs[xs.length - 1]? = some v) : atI xs (-1) = some v := by
  rcases List.eq_nil_or_concat xs with rfl | ⟨ini, x, rfl⟩
  · cases h
  · rw [List.concat_eq_append] at h ⊢
    rw [List.length_append, List.length_singleton, Nat.add_sub_cancel, List.getElem?_append_right (Nat.le_refl _), Nat.sub_self] at h
    cases h
    exact atI_last ini v
theorem nd_lenS {l l' : List Str} (n : l.Nodup) (h : ∀ x ∈ l, x ∈ l') : l.length ≤ l'.length := nd_len n h
theorem dt_sqL {K : PySem.W.Frag} {H : Hp} {v : V} {ds : List PyData} (h : Dt K H v (sqD true ds)) : ∃ a xs, v = .ref a ∧ SqL K H a xs ∧ DtL K H xs ds := dt_lst h
section
variable {P : Program} {w : World} {K : PySem.W.Frag} {mg : Str → Option Value} {base : Heap} {k : Nat} {kw C D CW : Addr}
abbrev s_is_case : Stmt := top 28
theorem sc_is_case : FnScope ["known", "seats", "rooms", "value", "marks", "word", "goal", "sources", "seat", "one"] ["known", "seats", "rooms", "value"] (defScope s_is_case) := ⟨rfl, rfl, rfl, by decide +kernel, rfl, by decide +kernel, by decide +kernel⟩
def sp_isc (K : PySem.W.Frag) : Sp := fun vs H Q _ => ∃ (G : Hp) (R : List (Addr × HO)) (kd rd : Addr) (sv v : V) (c : Cs) (st kn : List Str) (ss : List Sd), vs = [.ref kd, sv, .ref rd, v] ∧ Own G H R ∧ KnD G kd kn ∧ kn.length ≤ 1000 ∧ Dt K G sv (.list (st.map .str)) ∧ st.length ≤ 5 ∧ NuD G rd (ss.map (·.nm)) (roomS ss) ∧ (∀ x, roomS ss x ≤ 5) ∧ Dt K G v (dCs true c) ∧ CsOk kn ss st c ∧
  ∀ (G' H' : Hp), Same G G' → Own G' H' R → Q (.bl true) H'
theorem ok_isc {f : Addr} {fd : FuncData} (F : Fun K "is_case" "is_case" s_is_case f fd) (B : Btt mg) (T : Tc K mg kw C D) (C_is_row : Cal P w K mg base k "is_row" ["value", "many"] (sp_row K)) (C_is_list : Cal P w K mg base k "is_list" ["value"] (sp_isD K)) (C_are_marks : Cal P w K mg base k "are_marks" ["known", "value"] (sp_amk K)) (C_is_word : Cal P w K mg base k "is_word" ["value"] sp_word) : FnG P w K mg base (k + 1) f fd ["known", "seats", "rooms", "value"] (sp_isc K) := by
  refine fnG_of F sc_is_case (fun vs H Q E h => ?_) (fun cdv A outer s H vs Q E r h => ?_)
  · obtain ⟨_, _, _, _, _, _, _, _, _, _, rfl, _⟩ := h
    rfl
  · obtain ⟨G, R, kd, rd, sv, v, c, st, kn, ss, rfl, O, kD, lk, hs, ls, nD, r5, hv, ok, q⟩ := h
    refine ⟨_, (pss_cons (ps_if (pt_not (pt_truK (K := K) rfl (g_call C_is_row r (by rfl) passL (pa_cons (pv 3) (pa_cons pe_int pa_nil)))))
       (pss_one (ps_ret pe_bl))
       pss_nil)
       (pss_cons (ps_asg (pv 3) (pg_tupK (K := K) (n := 4) rfl rfl (pgs_cons (pg_name (i := 4) sc_is_case.nd rfl (Or.inl rfl)) (pgs_cons (pg_name (i := 5) sc_is_case.nd rfl (Or.inl rfl)) (pgs_cons (pg_name (i := 6) sc_is_case.nd rfl (Or.inl rfl)) (pgs_cons (pg_name (i := 7) sc_is_case.nd rfl (Or.inl rfl)) pgs_nil))))))
       (pss_cons (ps_if (PW.pt (pw_or (pt_not (pt_truK (K := K) rfl (g_call C_is_list r (by rfl) passL (pa_cons (pv 4) pa_nil)))) (pw_or (pt_cmpR (oNeK (K := K) rfl r) (pe_callB (cLenK (K := K) rfl) (by rfl) B.len (by decide +kernel) (pa_cons (pv 4) pa_nil)) (pe_callB (cLenK (K := K) rfl) (by rfl) B.len (by decide +kernel) (pa_cons (pv 1) pa_nil)) (nomark _)) (pw_or1 (pt_not (pt_truK (K := K) rfl (pe_callB (cAllK (K := K) rfl rfl) (by rfl) B.all (by decide +kernel) (pa_cons (pe_lc (own := [("one", 9)]) rfl sc_is_case.nd (pi_sqK (K := K) rfl (pv 4)) (blkOk_by (N := ["known", "seats", "rooms", "value", "marks", "word", "goal", "sources", "seat", "one"]) (sc := defScope s_is_case) (by decide +kernel)) (fun _ _ _ _ _ => (pg_name (i := 9) sc_is_case.nd rfl (Or.inl rfl))) (fun _ _ _ _ _ => pts_nil) (fun _ _ _ _ _ => (g_call C_are_marks r (by rfl) passL (pa_cons (pv 0) (pa_cons (pv 9) pa_nil))))) pa_nil))))))))
       (pss_one (ps_ret pe_bl))
       pss_nil)
       (pss_cons (ps_if (PW.pt (pw_or (pt_not (pt_truK (K := K) rfl (g_call C_is_word r (by rfl) passL (pa_cons (pv 5) pa_nil)))) (pw_or (pt_not (pt_truK (K := K) rfl (pe_callB (cIsiK (K := K) rfl) (by rfl) B.isinstance (by decide +kernel) (pa_cons (pv 6) (pa_cons (pe_bltn (v := .ty "str") (u := .type "str") (by rfl) B.str (by decide +kernel) rfl) pa_nil))))) (pw_or1 (pt_cmpR (oNinD r.hu) (pv 6) (pv 2) (by rfl))))))
       (pss_one (ps_ret pe_bl))
       pss_nil)
       (pss_cons (ps_if (PW.pt (pw_or (pt_not (pt_truK (K := K) rfl (g_call C_is_list r (by rfl) passL (pa_cons (pv 7) pa_nil)))) (pw_or1 (pt_cmpR (oNeK (K := K) rfl r) (pe_callB (cLenK (K := K) rfl) (by rfl) B.len (by decide +kernel) (pa_cons (pv 7) pa_nil)) (pe_dget r.hu (pv 2) (pv 6) (fun _ _ => rfl)) (nomark _)))))
       (pss_one (ps_ret pe_bl))
       pss_nil)
       (pss_one (ps_ret (pe_callB (cAllK (K := K) rfl rfl) (by rfl) B.all (by decide +kernel) (pa_cons (pe_lc (own := [("seat", 8)]) rfl sc_is_case.nd (pi_sqK (K := K) rfl (pv 7)) (blkOk_by (N := ["known", "seats", "rooms", "value", "marks", "word", "goal", "sources", "seat", "one"]) (sc := defScope s_is_case) (by decide +kernel)) (fun _ _ _ _ _ => (pg_name (i := 8) sc_is_case.nd rfl (Or.inl rfl))) (fun _ _ _ _ _ => pts_nil) (fun _ _ _ _ _ => (pe_and (pe_callB (cIsiK (K := K) rfl) (by rfl) B.isinstance (by decide +kernel) (pa_cons (pv 8) (pa_cons (pe_bltn (v := .ty "str") (u := .type "str") (by rfl) B.str (by decide +kernel) rfl) pa_nil))) (pe_one (pe_or (pe_cmpR (oEqK (K := K) rfl r) (pv 8) (C8.pe_gc (by rfl) T.NEW) (nomark _)) (pe_one (pe_cmpR (oInK (K := K) rfl) (pv 8) (pv 1) (by rfl)))))))) pa_nil))))))))), ?_⟩
    try dsimp only [cxOf]
    refine x_start (σ' := [some _, some _, some _, some _, none, none, none, none, none, none]) rfl ?_
    obtain ⟨a, v1, v4, rfl, ha, h1, h4⟩ := dt_cs hv
    obtain ⟨sa, rfl, hsa⟩ := dt_strsL hs
    obtain ⟨a1, x1, rfl, ha1, hx1⟩ := dt_sqL h1
    obtain ⟨a4, x4, rfl, ha4, hx4⟩ := dt_sqL h4
    have l1 : x1.length = st.length := by rw [hx1.length, List.length_map]; exact ok.ml
    rw [dtl_strs hx4] at ha4
    walk_at "s"
    refine ⟨a, _, 4, rfl, O.set ha, rfl, ?_⟩
    walk_at "s"
    refine x_gT (O.set ha) rfl ?_
    refine x_gC ?_
    walk_at "n1"
    refine x_gC ?_
    walk_at "n1"
    refine x_gC ?_
    walk_at "n1"
    refine x_gC ?_
    walk_at "n1"
    refine x_gNl ?_
    walk_at "s"
    refine ⟨G, R, .ref a1, _, rfl, O, h1, fun G1 H1 s1 O1 => ?_⟩
    rw [show isL (sqD true (c.ms.map (dMk true))) = true from rfl]
    walk_at "s"
    refine x_lenl (O1.seq (s1.seq ha1)) ?_
    walk_at "s"
    refine x_lenl (O1.seq (s1.seq hsa)) ?_
    rw [List.length_map, l1]
    refine x_ne rfl ?_
    rw [decide_eq_true (rfl : V.int (st.length : Nat) = V.int (st.length : Nat))]
    walk_at "s"
    refine x_sqL (O1.seq (s1.seq ha1)) ?_
    refine lc_map (by walk_at "n") walk_list O1 (by omega) (fun _ i y => y = V.bl true) (fun _ _ _ _ _ z => z) (fun G' H' D acc s' O' => O'.seq ((s1.trans s').seq ha1)) ?_ gm_name ?_
    · rintro i x G' H' H2 D acc hi s' O' ⟨rfl, ex⟩ kk
      obtain ⟨m, em, hm⟩ := dtl_mapAt hx1 ex
      have mo := ok.mm m (List.mem_of_getElem? em)
      have s1' := s1.trans s'
      walk_at "s"
      refine ⟨G', _, kd, x, m, kn, rfl, O', kD.same s1', hm.mono s1', mo, fun ms e => Nat.le_trans (nd_lenS (mo.nd ms e) (mo.sub ms e)) lk, fun G4 H4 s4 O4 => ?_⟩
      exact kk _ _ _ s4 O4 rfl
    intro G2 H2 p2 ys s2 O2 e2 l2 r2
    have s12 := s1.trans s2
    walk_at "s"
    refine x_all1 (SqL.of (O2.sub _ _ e2)) l2 r2 ?_
    walk_at "s"
    refine ⟨G2, R, c.wd, rfl, O2, ok.wd.l1, ok.wd.l8, ok.wd.let_, fun G3 H3 s3 O3 => ?_⟩
    have s13 := s12.trans s3
    walk_at "s"
    refine x_isiS (.str c.gl) ?_
    walk_at "s"
    rw [show (!tyN (PyData.str c.gl) == "str") = false from rfl]
    refine ite_f ?_
    walk_at "s"
    obtain ⟨kvr, hr, hr1, hr2⟩ := nD
    have hrg := hr1 c.gl ok.gl
    have dg : ∀ {G' H' : Hp} {R' : List (Addr × HO)}, Same G G' → Own G' H' R' → DGet H' rd (.str c.gl) (some (.int (roomS ss c.gl : Nat))) := fun s O => by
      have := DGet.k (k := Sum.inr c.gl) (O.sub _ _ (s _ _ hr))
      rw [hrg] at this
      exact this
    refine ⟨rd, _, rfl, dg s13 O3, ?_⟩
    refine ⟨false, rfl, ?_⟩
    refine ite_f ?_
    walk_at "s"
    refine ⟨G3, R, .ref a4, _, rfl, O3, h4.mono s13, fun G4 H4 s4 O4 => ?_⟩
    have s14 := s13.trans s4
    rw [show isL (sqD true (c.sr.map .str)) = true from rfl]
    walk_at "s"
    refine x_lenl (O4.seq (s14.seq ha4)) ?_
    rw [List.length_map]
    walk_at "s"
    refine ⟨rd, _, rfl, dg s14 O4, ?_⟩
    refine x_ne rfl ?_
    rw [decide_eq_true (show V.int (c.sr.length : Nat) = V.int (roomS ss c.gl : Nat) by rw [ok.sl])]
    walk_at "s"
    have l5 : c.sr.length ≤ 5 := by rw [ok.sl]; exact r5 _
    refine x_sqL (O4.seq (s14.seq ha4)) ?_
    refine lc_map (by walk_at "n") walk_list O4 (by rw [List.length_map]; omega) (fun _ i y => y = V.bl true) (fun _ _ _ _ _ z => z) (fun G' H' D acc s' O' => O'.seq ((s14.trans s').seq ha4)) ?_ gm_name ?_
    · rintro i x G' H' H5 D acc hi s' O' ⟨rfl, ex⟩ kk
      obtain ⟨z, rfl, ez⟩ := txt_at ex
      walk_at "s"
      refine x_isiS (.str z) ?_
      walk_at "s"
      refine ite_t ?_
      walk_at "s"
      refine x_eq rfl ?_
      rcases Decidable.em (z = wNew) with hz | hz
      · rw [decide_eq_true (show V.str z = V.str (Str.ofString "new") by rw [hz])]
        walk_at "s"
        exact kk _ _ _ (Same.refl _) O' rfl
      · rw [decide_eq_false (fun e : V.str z = V.str (Str.ofString "new") => hz (V.str.inj e))]
        walk_at "s"
        refine x_inA (.inl (O'.seq ((s14.trans s').seq hsa))) ?_
        rw [List.contains_iff_mem.mpr ((ok.sr z (List.mem_of_getElem? ez)).resolve_left hz)]
        exact kk _ _ _ (Same.refl _) O' rfl
    intro G5 H5 p5 ys5 s5 O5 e5 l5' r5'
    walk_at "s"
    refine x_all1 (SqL.of (O5.sub _ _ e5)) l5' r5' ?_
    exact q G5 H5 (s14.trans s5) O5
abbrev s_are_cases : Stmt := top 29
theorem sc_are_cases : FnScope ["known", "seats", "rooms", "value", "marks", "case"] ["known", "seats", "rooms", "value"] (defScope s_are_cases) := ⟨rfl, rfl, rfl, by decide +kernel, rfl, by decide +kernel, by decide +kernel⟩
def sp_acs (K : PySem.W.Frag) : Sp := fun vs H Q _ => ∃ (G : Hp) (R : List (Addr × HO)) (kd rd : Addr) (sv v : V) (cs : List Cs) (st kn : List Str) (ss : List Sd), vs = [.ref kd, sv, .ref rd, v] ∧ Own G H R ∧ KnD G kd kn ∧ kn.length ≤ 1000 ∧ Dt K G sv (.list (st.map .str)) ∧ st.length ≤ 5 ∧ NuD G rd (ss.map (·.nm)) (roomS ss) ∧ (∀ x, roomS ss x ≤ 5) ∧ Dt K G v (sqD true (cs.map (dCs true))) ∧ 1 ≤ cs.length ∧ cs.length ≤ 130 ∧ (∀ c ∈ cs, CsOk kn ss st c) ∧ (∀ c, cs[cs.length - 1]? = some c → ∀ m ∈ c.ms, m = none) ∧
  ∀ (G' H' : Hp), Same G G' → Own G' H' R → Q (.bl true) H'
theorem ok_acs {f : Addr} {fd : FuncData} (F : Fun K "are_cases" "are_cases" s_are_cases f fd) (B : Btt mg) (T : Tc K mg kw C D) (C_is_list : Cal P w K mg base k "is_list" ["value"] (sp_isD K)) (C_is_case : Cal P w K mg base k "is_case" ["known", "seats", "rooms", "value"] (sp_isc K)) : FnG P w K mg base (k + 1) f fd ["known", "seats", "rooms", "value"] (sp_acs K) := by
  refine fnG_of F sc_are_cases (fun vs H Q E h => ?_) (fun cdv A outer s H vs Q E r h => ?_)
  · obtain ⟨_, _, _, _, _, _, _, _, _, _, rfl, _⟩ := h
    rfl
  · obtain ⟨G, R, kd, rd, sv, v, cs, st, kn, ss, rfl, O, kD, lk, hs, ls, nD, r5, hv, c1, c130, ok, last, q⟩ := h
    refine ⟨_, (pss_cons (ps_if (PW.pt (pw_or (pt_not (pt_truK (K := K) rfl (g_call C_is_list r (by rfl) passL (pa_cons (pv 3) pa_nil)))) (pw_or1 (pt_not (pt_chain oLe oLe pe_int (pe_callB (cLenK (K := K) rfl) (by rfl) B.len (by decide +kernel) (pa_cons (pv 3) pa_nil)) (C8.pe_gc (by rfl) T.MOST_CASES))))))
       (pss_one (ps_ret pe_bl))
       pss_nil)
       (pss_cons (ps_if (pt_not (pt_truK (K := K) rfl (pe_callB (cAllK (K := K) rfl rfl) (by rfl) B.all (by decide +kernel) (pa_cons (pe_lc (own := [("case", 5)]) rfl sc_are_cases.nd (pi_sqK (K := K) rfl (pv 3)) (blkOk_by (N := ["known", "seats", "rooms", "value", "marks", "case"]) (sc := defScope s_are_cases) (by decide +kernel)) (fun _ _ _ _ _ => (pg_name (i := 5) sc_are_cases.nd rfl (Or.inl rfl))) (fun _ _ _ _ _ => pts_nil) (fun _ _ _ _ _ => (g_call C_is_case r (by rfl) passL (pa_cons (pv 0) (pa_cons (pv 1) (pa_cons (pv 2) (pa_cons (pv 5) pa_nil))))))) pa_nil))))
       (pss_one (ps_ret pe_bl))
       pss_nil)
       (pss_one (ps_ret (pe_callB (cAllK (K := K) rfl rfl) (by rfl) B.all (by decide +kernel) (pa_cons (pe_lc (own := [("marks", 4)]) rfl sc_are_cases.nd (pi_sqK (K := K) rfl (pe_ix (ixK (K := K) rfl) (pe_ix (ixK (K := K) rfl) (pv 3) (pe_un un_neg pe_int) (fun _ _ => rfl)) pe_int (fun _ _ => rfl))) (blkOk_by (N := ["known", "seats", "rooms", "value", "marks", "case"]) (sc := defScope s_are_cases) (by decide +kernel)) (fun _ _ _ _ _ => (pg_name (i := 4) sc_are_cases.nd rfl (Or.inl rfl))) (fun _ _ _ _ _ => pts_nil) (fun _ _ _ _ _ => (pe_cmpR oIs (pv 4) pe_non (nomark _)))) pa_nil)))))), ?_⟩
    try dsimp only [cxOf]
    refine x_start (σ' := [some _, some _, some _, some _, none, none]) rfl ?_
    obtain ⟨a, xs, rfl, ha, hx⟩ := dt_sqL hv
    have lx : xs.length = cs.length := by rw [hx.length, List.length_map]
    walk_at "s"
    refine ⟨G, R, .ref a, _, rfl, O, hv, fun G1 H1 s1 O1 => ?_⟩
    rw [show isL (sqD true (cs.map (dCs true))) = true from rfl]
    have ha1 := s1.seq ha
    walk_at "s"
    refine x_chain ?_
    walk_at "s"
    refine x_lenl (O1.seq ha1) ?_
    rw [lx]
    walk_at "s"
    refine ite_b (fun _ => ?_) (fun c => absurd (of_decide_eq_false c) (by omega))
    walk_at "s"
    rw [decide_eq_true (show ((cs.length : Nat) : Int) ≤ 130 by omega)]
    walk_at "s"
    refine x_sqL (O1.seq ha1) ?_
    refine lc_map (by walk_at "n") walk_list O1 (by omega) (fun _ i y => y = V.bl true) (fun _ _ _ _ _ z => z) (fun G' H' D acc s' O' => O'.seq (s'.seq ha1)) ?_ gm_name ?_
    · rintro i x G' H' H2 D acc hi s' O' ⟨rfl, ex⟩ kk
      obtain ⟨c, ec, hc⟩ := dtl_mapAt hx ex
      have s1' := s1.trans s'
      walk_at "s"
      refine ⟨G', _, kd, rd, sv, x, c, st, kn, ss, rfl, O', kD.same s1', lk, hs.mono s1', ls, nD.same s1', r5, hc.mono s1', ok c (List.mem_of_getElem? ec), fun G4 H4 s4 O4 => ?_⟩
      exact kk _ _ _ s4 O4 rfl
    intro G2 H2 p2 ys s2 O2 e2 l2 r2
    have s12 := s1.trans s2
    walk_at "s"
    refine x_all1 (SqL.of (O2.sub _ _ e2)) l2 r2 ?_
    walk_at "s"
    obtain ⟨c, ec⟩ : ∃ c, cs[cs.length - 1]? = some c := ⟨_, List.getElem?_eq_getElem (by omega)⟩
    obtain ⟨x, ex, hc⟩ := dtl_mapGet hx ec
    obtain ⟨ca, v1, v4, rfl, hca, h1, h4⟩ := dt_cs hc
    obtain ⟨a1, x1, rfl, ha1', hx1⟩ := dt_sqL h1
    refine x_ixl (v := .ref ca) (O2.seq (s12.seq ha)) (atI_neg1 (by rw [lx]; exact ex)) ?_
    walk_at "s"
    refine x_ixt (v := .ref a1) (O2.set (same_t s12 hca)) rfl ?_
    refine x_sqL (O2.seq (s12.seq ha1')) ?_
    have c5 := (ok c (List.mem_of_getElem? ec)).ml
    have l1 : x1.length = c.ms.length := by rw [hx1.length, List.length_map]
    refine lc_map (by walk_at "n") walk_list O2 (by omega) (fun _ i y => y = V.bl true) (fun _ _ _ _ _ z => z) (fun G' H' D acc s' O' => O'.seq ((s12.trans s').seq ha1')) ?_ gm_name ?_
    · rintro i x G' H' H5 D acc hi s' O' ⟨rfl, ex⟩ kk
      obtain ⟨m, em, hm⟩ := dtl_mapAt hx1 ex
      have mn := last c ec m (List.mem_of_getElem? em)
      subst mn
      obtain rfl := dt_non hm
      walk_at "s"
      rw [decide_eq_true (rfl : V.non = V.non)]
      exact kk _ _ _ (Same.refl _) O' rfl
    intro G5 H5 p5 ys5 s5 O5 e5 l5 r5'
    walk_at "s"
    refine x_all1 (SqL.of (O5.sub _ _ e5)) l5 r5' ?_
    exact q G5 H5 (s12.trans s5) O5
end
end
section
open PySem PySem.Spec PyProof.Rows L2 G
set_option maxHeartbeats 4000000
local macro_rules | `(tactic| walk_at "s1") => `(tactic| with_reducible first | refine x_appL ?_ | refine x_star ?_ | refine x_dcS ?_)
/-! ### dicts with texts as keys, made -/
def kvF (f : Str → V) (ks : List Str) : List (Key × V) := ks.map fun y => (Sum.inr y, f y)
theorem val_kvF {f : Str → V} : ∀ {ks : List Str} {x : Str}, x ∈ ks → valV (kvF f ks) (Sum.inr x) = some (f x)
  | [], _, h => nomatch h
  | y :: ks, x, h => by
    by_cases e : y = x
    · rw [e]
      unfold valV kvF
      rw [List.map_cons, List.find?_cons]
      simp
    · have hx : x ∈ ks := (List.mem_cons.mp h).resolve_left fun z => e z.symm
      have ih := val_kvF (f := f) hx
      unfold valV kvF at ih ⊢
      rw [List.map_cons, List.find?_cons]
      have : decide ((Sum.inr y : Key) = Sum.inr x) = false := decide_eq_false fun z => e (Sum.inr.inj z)
      rw [this]
      exact ih
theorem val_kvF_none {f : Str → V} {ks : List Str} {x : Str} (h : x ∉ ks) : valV (kvF f ks) (Sum.inr x) = none := valV_none fun z => by
  unfold kvF at z
  rw [List.map_map] at z
  obtain ⟨y, hy, e⟩ := List.mem_map.mp z
  exact h (Sum.inr.inj e ▸ hy)
theorem put_kvF {f : Str → V} {ks : List Str} {i : Nat} {x : Str} {z : V} (nd : ks.Nodup) (e : ks[i]? = some x) (ez : z = f x) : putK (kvF f (ks.take i)) (Sum.inr x) z = kvF f (ks.take (i + 1)) := by
  have hn : x ∉ ks.take i := fun h => by
    obtain ⟨j, hj, ej⟩ := List.getElem_of_mem h
    rw [List.length_take] at hj
    rw [List.getElem_take] at ej
    obtain ⟨hi, ei⟩ := List.getElem?_eq_some_iff.mp e
    exact List.pairwise_iff_getElem.mp nd j i (by omega) hi (by omega) (ej.trans ei.symm)
  rw [putK_new _ (val_kvF_none hn), take_snoc e, ez]
  unfold kvF
  rw [List.map_append]
  rfl
theorem kvF_len {f : Str → V} {ks : List Str} : (kvF f ks).length = ks.length := List.length_map _
theorem knD_kvF {G : Hp} {d : Addr} {f : Str → V} {ks : List Str} (h : G d = some (.dK (kvF f ks))) : KnD G d ks := by
  refine ⟨_, h, fun x => ?_⟩
  by_cases hx : x ∈ ks
  · rw [val_kvF hx]
    exact ⟨fun _ => hx, fun _ => rfl⟩
  · rw [val_kvF_none hx]
    exact ⟨fun z => (nomatch z), fun z => absurd z hx⟩
theorem nuD_kvF {G : Hp} {d : Addr} {f : Str → Nat} {ks : List Str} (h : G d = some (.dK (kvF (fun x => .int (f x : Nat)) ks))) : NuD G d ks f := ⟨_, h, fun x hx => val_kvF hx, fun x hx => val_kvF_none hx⟩
theorem roomS_of {ss : List Sd} (nd : (ss.map (·.nm)).Nodup) {s : Sd} (h : s ∈ ss) : roomS ss s.nm = s.st.length := by
  unfold roomS
  induction ss with
  | nil => cases h
  | cons t ss ih =>
    rw [List.find?_cons]
    have nd' : (t.nm :: ss.map (·.nm)).Nodup := nd
    obtain ⟨n1, n2⟩ := List.nodup_cons.mp nd'
    rcases List.mem_cons.mp h with rfl | h
    · rw [decide_eq_true rfl]
      rfl
    · have hne : ¬ t.nm = s.nm := fun e => n1 (by rw [e]; exact List.mem_map.mpr ⟨s, h, rfl⟩)
      rw [decide_eq_false hne]
      exact ih n2 h
theorem roomS_le {ss : List Sd} (h : ∀ s ∈ ss, s.st.length ≤ 5) (x : Str) : roomS ss x ≤ 5 := by
  unfold roomS
  cases e : ss.find? fun s => decide (s.nm = x) with
  | none => exact Nat.zero_le _
  | some s => exact h s (List.mem_of_find?_eq_some e)
/-- a list of pairs of texts that stands -/
def WyAt (G : Hp) (a : Addr) (W : List (Str × Str)) : Prop := ∃ L : List (Addr × Str × Str), G a = some (.lst (L.map fun q => V.ref q.1)) ∧ Prs G L ∧ L.map (·.2) = W
theorem WyAt.same {G G' : Hp} {a : Addr} {W : List (Str × Str)} (h : WyAt G a W) (s : Same G G') : WyAt G' a W := by
  obtain ⟨L, h1, h2, h3⟩ := h
  exact ⟨L, s _ _ h1, h2.same s, h3⟩
def knW (W : List (Str × Str)) : List Str := wIs :: keysW W
section
variable {P : Program} {w : World} {K : PySem.W.Frag} {mg : Str → Option Value} {base : Heap} {k : Nat} {kw C D CW : Addr}
abbrev s_are_standings : Stmt := top 30
theorem sc_are_standings : FnScope ["ways", "value", "rooms", "known", "name", "seats", "cases", "mark", "item", "back"] ["ways", "value"] (defScope s_are_standings) := ⟨rfl, rfl, rfl, by decide +kernel, rfl, by decide +kernel, by decide +kernel⟩
def sp_ast (K : PySem.W.Frag) : Sp := fun vs H Q _ => ∃ (G : Hp) (R : List (Addr × HO)) (a : Addr) (v : V) (W : List (Str × Str)) (ss : List Sd), vs = [.ref a, v] ∧ Own G H R ∧ WyAt G a W ∧ WaysOk W ∧ Dt K G v (dSt true ss) ∧ StOk (knW W) ss ∧
  ∀ (G' H' : Hp), Same G G' → Own G' H' R → Q (.bl true) H'
theorem ok_ast {f : Addr} {fd : FuncData} (F : Fun K "are_standings" "are_standings" s_are_standings f fd) (B : Btt mg) (T : Tc K mg kw C D) (C_is_list : Cal P w K mg base k "is_list" ["value"] (sp_isD K)) (C_is_row : Cal P w K mg base k "is_row" ["value", "many"] (sp_row K)) (C_is_word : Cal P w K mg base k "is_word" ["value"] sp_word) (C_are_seats : Cal P w K mg base k "are_seats" ["value"] (sp_ase K)) (C_are_cases : Cal P w K mg base k "are_cases" ["known", "seats", "rooms", "value"] (sp_acs K)) : FnG P w K mg base (k + 1) f fd ["ways", "value"] (sp_ast K) := by
  refine fnG_of F sc_are_standings (fun vs H Q E h => ?_) (fun cdv A outer s H vs Q E r h => ?_)
  · obtain ⟨_, _, _, _, _, _, rfl, _⟩ := h
    rfl
  · obtain ⟨G, R, wa, v, W, ss, rfl, O, wy, wo, hv, ok, q⟩ := h
    refine ⟨_, (pss_cons (ps_if (PW.pt (pw_or (pt_not (pt_truK (K := K) rfl (g_call C_is_list r (by rfl) passL (pa_cons (pv 1) pa_nil)))) (pw_or1 (pt_not (pt_chain oLe oLe pe_int (pe_callB (cLenK (K := K) rfl) (by rfl) B.len (by decide +kernel) (pa_cons (pv 1) pa_nil)) (C8.pe_gc (by rfl) T.MOST_STANDINGS))))))
       (pss_one (ps_ret pe_bl))
       pss_nil)
       (pss_cons (ps_if (pt_not (pt_truK (K := K) rfl (pe_callB (cAllK (K := K) rfl rfl) (by rfl) B.all (by decide +kernel) (pa_cons (pe_lc (own := [("item", 8)]) rfl sc_are_standings.nd (pi_sqK (K := K) rfl (pv 1)) (blkOk_by (N := ["ways", "value", "rooms", "known", "name", "seats", "cases", "mark", "item", "back"]) (sc := defScope s_are_standings) (by decide +kernel)) (fun _ _ _ _ _ => (pg_name (i := 8) sc_are_standings.nd rfl (Or.inl rfl))) (fun _ _ _ _ _ => pts_nil) (fun _ _ _ _ _ => (pe_and (g_call C_is_row r (by rfl) passL (pa_cons (pv 8) (pa_cons pe_int pa_nil))) (pe_and (g_call C_is_word r (by rfl) passL (pa_cons (pe_ix (ixK (K := K) rfl) (pv 8) pe_int (fun _ _ => rfl)) pa_nil)) (pe_one (g_call C_are_seats r (by rfl) passL (pa_cons (pe_ix (ixK (K := K) rfl) (pv 8) pe_int (fun _ _ => rfl)) pa_nil))))))) pa_nil))))
       (pss_one (ps_ret pe_bl))
       pss_nil)
       (pss_cons (ps_set (i := 2) sc_are_standings.nd rfl (Or.inr rfl) (pe_dc (own := [("name", 4), ("seats", 5), ("cases", 6)]) rfl sc_are_standings.nd (pi_sqK (K := K) rfl (pv 1)) (blkOk_by (N := ["ways", "value", "rooms", "known", "name", "seats", "cases", "mark", "item", "back"]) (sc := defScope s_are_standings) (by decide +kernel)) (fun _ _ _ _ _ => (pg_tupK (K := K) (n := 3) rfl rfl (pgs_cons (pg_name (i := 4) sc_are_standings.nd rfl (Or.inl rfl)) (pgs_cons (pg_name (i := 5) sc_are_standings.nd rfl (Or.inl rfl)) (pgs_cons (pg_name (i := 6) sc_are_standings.nd rfl (Or.inl rfl)) pgs_nil))))) (fun _ _ _ _ _ => pts_nil) (fun _ _ _ _ _ => (pv 4)) (fun _ _ _ _ _ => (pe_callB (cLenK (K := K) rfl) (by rfl) B.len (by decide +kernel) (pa_cons (pv 5) pa_nil)))))
       (pss_cons (ps_if (PW.pt (pw_or (pt_cmpR (oNeK (K := K) rfl r) (pe_callB call_lenD (by rfl) B.len (by decide +kernel) (pa_cons (pv 2) pa_nil)) (pe_callB (cLenK (K := K) rfl) (by rfl) B.len (by decide +kernel) (pa_cons (pv 1) pa_nil)) (nomark _)) (pw_or1 (pt_cmpR oGt (pe_callB (cLenK (K := K) rfl) (by rfl) B.len (by decide +kernel) (pa_cons (pe_ix (ixK (K := K) rfl) (pe_ix (ixK (K := K) rfl) (pv 1) pe_int (fun _ _ => rfl)) pe_int (fun _ _ => rfl)) pa_nil)) pe_int (nomark _)))))
       (pss_one (ps_ret pe_bl))
       pss_nil)
       (pss_cons (ps_set (i := 3) sc_are_standings.nd rfl (Or.inr rfl) (pe_dc (own := [("mark", 7)]) rfl sc_are_standings.nd (pi_sqK (K := K) rfl (pe_op (oAddK (K := K) rfl) (d_lst (pa_cons (C8.pe_gc (by rfl) T.SAME) pa_nil)) (pe_lc (own := [("name", 4), ("back", 9)]) rfl sc_are_standings.nd (pi_sqK (K := K) rfl (pv 0)) (blkOk_by (N := ["ways", "value", "rooms", "known", "name", "seats", "cases", "mark", "item", "back"]) (sc := defScope s_are_standings) (by decide +kernel)) (fun _ _ _ _ _ => (pg_tupK (K := K) (n := 2) rfl rfl (pgs_cons (pg_name (i := 4) sc_are_standings.nd rfl (Or.inl rfl)) (pgs_cons (pg_name (i := 9) sc_are_standings.nd rfl (Or.inl rfl)) pgs_nil)))) (fun _ _ _ _ _ => pts_nil) (fun _ _ _ _ _ => (pv 4))))) (blkOk_by (N := ["ways", "value", "rooms", "known", "name", "seats", "cases", "mark", "item", "back"]) (sc := defScope s_are_standings) (by decide +kernel)) (fun _ _ _ _ _ => (pg_name (i := 7) sc_are_standings.nd rfl (Or.inl rfl))) (fun _ _ _ _ _ => pts_nil) (fun _ _ _ _ _ => (pv 7)) (fun _ _ _ _ _ => pe_bl)))
       (pss_one (ps_ret (pe_callB (cAllK (K := K) rfl rfl) (by rfl) B.all (by decide +kernel) (pa_cons (pe_lc (own := [("name", 4), ("seats", 5), ("cases", 6)]) rfl sc_are_standings.nd (pi_sqK (K := K) rfl (pv 1)) (blkOk_by (N := ["ways", "value", "rooms", "known", "name", "seats", "cases", "mark", "item", "back"]) (sc := defScope s_are_standings) (by decide +kernel)) (fun _ _ _ _ _ => (pg_tupK (K := K) (n := 3) rfl rfl (pgs_cons (pg_name (i := 4) sc_are_standings.nd rfl (Or.inl rfl)) (pgs_cons (pg_name (i := 5) sc_are_standings.nd rfl (Or.inl rfl)) (pgs_cons (pg_name (i := 6) sc_are_standings.nd rfl (Or.inl rfl)) pgs_nil))))) (fun _ _ _ _ _ => pts_nil) (fun _ _ _ _ _ => (g_call C_are_cases r (by rfl) passL (pa_cons (pv 3) (pa_cons (pv 5) (pa_cons (pv 2) (pa_cons (pv 6) pa_nil))))))) pa_nil))))))))), ?_⟩
    try dsimp only [cxOf]
    refine x_start (σ' := [some _, some _, none, none, none, none, none, none, none, none]) rfl ?_
    obtain ⟨a, xs, rfl, ha, hx⟩ := dt_sqL hv
    have lx : xs.length = ss.length := by rw [hx.length, List.length_map]
    have o1 := ok.l1
    have o2 := ok.l2
    walk_at "s"
    refine ⟨G, R, .ref a, _, rfl, O, hv, fun G1 H1 s1 O1 => ?_⟩
    rw [show isL (dSt true ss) = true from rfl]
    have ha1 := s1.seq ha
    walk_at "s"
    refine x_chain ?_
    walk_at "s"
    refine x_lenl (O1.seq ha1) ?_
    rw [lx]
    walk_at "s"
    refine ite_b (fun _ => ?_) (fun c => absurd (of_decide_eq_false c) (by omega))
    walk_at "s"
    rw [decide_eq_true (show ((ss.length : Nat) : Int) ≤ 20000 by omega)]
    walk_at "s"
    refine x_sqL (O1.seq ha1) ?_
    refine lc_map (by walk_at "n") walk_list O1 (by omega) (fun _ i y => y = V.bl true) (fun _ _ _ _ _ z => z) (fun G' H' D acc s' O' => O'.seq (s'.seq ha1)) ?_ gm_name ?_
    · rintro i x G' H' H2 D acc hi s' O' ⟨rfl, ex⟩ kk
      obtain ⟨sd, es, hs⟩ := dtl_mapAt hx ex
      have so := ok.sd sd (List.mem_of_getElem? es)
      obtain ⟨b, v2, v3, rfl, hb, h2, h3⟩ := dt_sd hs
      have s1' := s1.trans s'
      have hb' := same_t s1' hb
      walk_at "s"
      refine ⟨b, _, 3, rfl, O'.set hb', rfl, ?_⟩
      walk_at "s"
      refine x_ixt (i := 0) (O'.set hb') rfl ?_
      walk_at "s"
      refine ⟨G', _, sd.nm, rfl, O', so.wd.l1, so.wd.l8, so.wd.let_, fun G4 H4 s4 O4 => ?_⟩
      walk_at "s"
      refine x_ixt (i := 1) (O4.set (same_t s4 hb')) rfl ?_
      walk_at "s"
      refine ⟨G4, _, v2, sd.st, rfl, O4, h2.mono (s1'.trans s4), so.sl, so.sn, so.sd, fun G5 H5 s5 O5 => ?_⟩
      exact kk _ _ _ (s4.trans s5) O5 rfl
    intro G2 H2 p2 ys s2 O2 e2 l2 r2
    have s12 := s1.trans s2
    have ha2 := s12.seq ha
    walk_at "s"
    refine x_all1 (SqL.of (O2.sub _ _ e2)) l2 r2 ?_
    walk_at "s"
    refine x_sqL (O2.seq ha2) ?_
    refine dc_own (by walk_at "n") walk_list O2 (fun i G' L' kvs => R = L' ∧ kvs = kvF (fun x => .int (roomS ss x : Nat)) ((ss.map (·.nm)).take i)) ⟨rfl, rfl⟩ (fun i G' H' D L' kvs s' O' _ => O'.seq (s'.seq ha2)) ?_ ?_
    · rintro i x G' H' H3 D L' kvs hi s' O' ⟨rfl, rfl⟩ ⟨rfl, ex⟩
      obtain ⟨sd, es, hs⟩ := dtl_mapAt hx ex
      obtain ⟨b, v2, v3, rfl, hb, h2, h3⟩ := dt_sd hs
      obtain ⟨b2, rfl, hb2⟩ := dt_strsL (show Dt K G v2 (.list (sd.st.map .str)) from h2)
      have s2' := s12.trans s'
      refine x_gT (O'.set (same_t s2' hb)) rfl ?_
      refine x_gC ?_
      walk_at "n1"
      refine x_gC ?_
      walk_at "n1"
      refine x_gC ?_
      walk_at "n1"
      refine x_gNl ?_
      refine ⟨by walk_at "n", ?_⟩
      walk_at "s"
      refine x_lenl (O'.seq (s2'.seq hb2)) ?_
      rw [List.length_map]
      exact dcn (k := Sum.inr sd.nm) s' O' (by rw [kvF_len, List.length_take, List.length_map, sizeLine_eq]; omega) ⟨rfl, put_kvF ok.nd (by rw [List.getElem?_map, es]; rfl) (by rw [roomS_of ok.nd (List.mem_of_getElem? es)])⟩
    rintro G3 H3 rd L' kvs s3 O3 ⟨rfl, rfl⟩
    rw [lx, List.take_of_length_le (by rw [List.length_map]; exact Nat.le_refl _)] at O3
    have sf := Same.new (o := .dK (kvF (fun x => .int (roomS ss x : Nat)) (ss.map (·.nm)))) O3.no0
    have O4 := O3.frz0
    have e4 : upd G3 rd (.dK (kvF (fun x => .int (roomS ss x : Nat)) (ss.map (·.nm)))) rd = some (.dK (kvF (fun x => .int (roomS ss x : Nat)) (ss.map (·.nm)))) := upd_same
    generalize upd G3 rd (.dK (kvF (fun x => .int (roomS ss x : Nat)) (ss.map (·.nm)))) = G4 at sf O4 e4
    have nD : NuD G4 rd (ss.map (·.nm)) (roomS ss) := nuD_kvF e4
    have s14 := s12.trans (s3.trans sf)
    have ha4 := s14.seq ha
    walk_at "s"
    refine ⟨rd, _, rfl, O4.sub _ _ e4, ?_⟩
    rw [kvF_len, List.length_map]
    walk_at "s"
    refine x_lenl (O4.seq ha4) ?_
    rw [lx]
    refine x_ne rfl ?_
    rw [decide_eq_true (rfl : V.int (ss.length : Nat) = V.int (ss.length : Nat))]
    walk_at "s"
    obtain ⟨sd0, es0⟩ : ∃ sd0, ss[0]? = some sd0 := ⟨_, List.getElem?_eq_getElem (by omega)⟩
    obtain ⟨x0, ex0, hs0⟩ := dtl_mapGet hx es0
    obtain ⟨b0, v02, v03, rfl, hb0, h02, h03⟩ := dt_sd hs0
    obtain ⟨b02, rfl, hb02⟩ := dt_strsL (show Dt K G v02 (.list (sd0.st.map .str)) from h02)
    refine x_ixl (v := .ref b0) (O4.seq ha4) (by show atI xs ((0 : Nat) : Int) = _; exact atI_nat ex0) ?_
    walk_at "s"
    refine x_ixt (v := .ref b02) (O4.set (same_t s14 hb0)) rfl ?_
    walk_at "s"
    refine x_lenl (O4.seq (s14.seq hb02)) ?_
    rw [List.length_map, ok.first sd0 es0]
    walk_at "s"
    refine ite_b (fun c => absurd (of_decide_eq_true c) (by show ¬ ((0 : Int) < 0); decide)) (fun _ => ?_)
    walk_at "s"
    refine ⟨by show 1 ≤ sizeLine; decide, x_fix O4 fun p5 G5 H5 s5 O5 e5 => ?_⟩
    walk_at "s"
    obtain ⟨L, hw, pr, rfl⟩ := wy
    have hw5 := s14.trans s5
    have wl4 := wo.l4
    rw [List.length_map] at wl4
    refine x_sqL (SqL.of (O5.sub _ _ (hw5 _ _ hw))) ?_
    refine lc_map (by walk_at "n") walk_list O5 (by rw [List.length_map]; omega) (fun _ i y => ((keysW (L.map (·.2))).map V.str)[i]? = some y) (fun _ _ _ _ _ z => z) (fun G' H' D acc s' O' => SqL.of (O'.sub _ _ (s' _ _ (hw5 _ _ hw)))) ?_ gm_tup2 ?_
    · rintro i x G' H' H6 D acc hi s' O' ⟨rfl, ex⟩ kk
      obtain ⟨t, rfl, et⟩ := ref_at ex
      have gt := (hw5.trans s') _ _ (pr t (List.mem_of_getElem? et))
      refine x_gT (SqT.of (O'.sub _ _ gt)) rfl ?_
      refine x_gC ?_
      walk_at "n1"
      refine x_gC ?_
      walk_at "n1"
      refine x_gNl ?_
      refine ⟨by walk_at "n", ?_⟩
      walk_at "s"
      refine kk _ _ _ (Same.refl _) O' ?_
      unfold keysW
      rw [List.getElem?_map, List.getElem?_map, List.getElem?_map, et]
      rfl
    intro G6 H6 p6 ys s6 O6 e6 l6 r6
    have ey : ys = (keysW (L.map (·.2))).map V.str := by
      refine List.ext_getElem? fun j => ?_
      cases e : ys[j]? with
      | none =>
        have := List.getElem?_eq_none_iff.mp e
        rw [List.length_map] at l6
        exact (List.getElem?_eq_none (by unfold keysW; rw [List.length_map, List.length_map, List.length_map]; omega)).symm
      | some y => exact (r6 j y e).symm
    subst ey
    walk_at "s"
    refine x_addl (O6.sub _ _ (s6 _ _ e5)) (O6.sub _ _ e6) (by rw [List.length_map]; unfold keysW; rw [List.length_map, List.length_map, sizeLine_eq]; simp; omega) (x_fix O6 fun p7 G7 H7 s7 O7 e7 => ?_)
    have e7 : G7 p7 = some (.lst ((knW (L.map (·.2))).map V.str)) := e7
    have lk : (knW (L.map (·.2))).length ≤ 5 := by unfold knW keysW; rw [List.length_cons, List.length_map, List.length_map]; omega
    have ndk : (knW (L.map (·.2))).Nodup := List.nodup_cons.mpr ⟨fun h => by
      obtain ⟨q, hq, e⟩ := List.mem_map.mp h
      have := (wo.nm q hq).free
      rw [e] at this
      exact absurd this (by decide), wo.nd⟩
    walk_at "s"
    refine x_sqL (SqL.of (O7.sub _ _ e7)) ?_
    refine dc_own (by walk_at "n") walk_list O7 (fun i G' L' kvs => R = L' ∧ kvs = kvF (fun _ => .bl true) ((knW (L.map (·.2))).take i)) ⟨rfl, rfl⟩ (fun i G' H' D L' kvs s' O' _ => SqL.of (O'.sub _ _ (s' _ _ e7))) ?_ ?_
    · rintro i x G' H' H8 D L' kvs hi s' O' ⟨rfl, rfl⟩ ⟨rfl, ex⟩
      obtain ⟨z, rfl, ez⟩ := txt_at ex
      walk_at "s"
      exact dcn (k := Sum.inr z) s' O' (by rw [kvF_len, List.length_take, sizeLine_eq]; omega) ⟨rfl, put_kvF ndk ez rfl⟩
    rintro G8 H8 kd L' kvs s8 O8 ⟨rfl, rfl⟩
    rw [List.length_map, List.take_length] at O8
    have sf8 := Same.new (o := .dK (kvF (fun _ => .bl true) (knW (L.map (·.2))))) O8.no0
    have O9 := O8.frz0
    have e9 : upd G8 kd (.dK (kvF (fun _ => .bl true) (knW (L.map (·.2))))) kd = some (.dK (kvF (fun _ => .bl true) (knW (L.map (·.2))))) := upd_same
    generalize upd G8 kd (.dK (kvF (fun _ => .bl true) (knW (L.map (·.2))))) = G9 at sf8 O9 e9
    have kD := knD_kvF e9
    have s49 := s5.trans (s6.trans (s7.trans (s8.trans sf8)))
    have s19 := s14.trans s49
    walk_at "s"
    refine x_sqL (O9.seq (s19.seq ha)) ?_
    refine lc_map (by walk_at "n") walk_list O9 (by omega) (fun _ i y => y = V.bl true) (fun _ _ _ _ _ z => z) (fun G' H' D acc s' O' => O'.seq ((s19.trans s').seq ha)) ?_ gm_tup3 ?_
    · rintro i x G' H' H5 D acc hi s' O' ⟨rfl, ex⟩ kk
      obtain ⟨sd, es, hs⟩ := dtl_mapAt hx ex
      have so := ok.sd sd (List.mem_of_getElem? es)
      obtain ⟨b, v2, v3, rfl, hb, h2, h3⟩ := dt_sd hs
      have s9' := s19.trans s'
      refine x_gT (O'.set (same_t s9' hb)) rfl ?_
      refine x_gC ?_
      walk_at "n1"
      refine x_gC ?_
      walk_at "n1"
      refine x_gC ?_
      walk_at "n1"
      refine x_gNl ?_
      refine ⟨by walk_at "n", ?_⟩
      walk_at "s"
      refine ⟨G', _, kd, rd, v2, v3, sd.cs, sd.st, _, ss, rfl, O', kD.same s', by omega, h2.mono s9', so.sl, nD.same (s49.trans s'), roomS_le fun s hs => (ok.sd s hs).sl, h3.mono s9', so.c1, so.c130, so.cs, so.last, fun G4 H4 s4 O4 => ?_⟩
      exact kk _ _ _ s4 O4 rfl
    intro Ga Ha pa ysa sa Oa ea la ra
    walk_at "s"
    refine x_all1 (SqL.of (Oa.sub _ _ ea)) la ra ?_
    exact q Ga Ha (s19.trans sa) Oa
end
end
section
open PySem PySem.Spec PyProof.Rows L2 G
set_option maxHeartbeats 4000000
local macro_rules | `(tactic| walk_at "s1") => `(tactic| with_reducible first | refine x_appL ?_ | refine x_star ?_ | refine x_dcS ?_)
/-! ### lists turned to tuples -/
def tupN : Nat → PyData → PyData
  | 0, d => d
  | n + 1, .list ds => .tuple (ds.map (tupN n))
  | n + 1, .tuple ds => .tuple (ds.map (tupN n))
  | _ + 1, d => d
/-- plain data of lists and tuples, so deep at most -/
def plT : Nat → PyData → Prop
  | 0, d => itD d = none
  | n + 1, d => itD d = none ∨ ∃ ds, itD d = some ds ∧ ds.length ≤ 100000 ∧ ∀ e ∈ ds, plT n e
theorem tupN_it {n : Nat} {d : PyData} {ds : List PyData} (h : itD d = some ds) : tupN (n + 1) d = .tuple (ds.map (tupN n)) := by
  cases d <;> cases h <;> rfl
theorem tupN_no {n : Nat} {d : PyData} (h : itD d = none) : tupN n d = d := by
  cases n with
  | zero => rfl
  | succ n => cases d <;> first | (cases h; done) | rfl
theorem dtl_snoc {K : PySem.W.Frag} {H : Hp} : ∀ {xs : List V} {ds : List PyData} {x : V} {d : PyData}, DtL K H xs ds → Dt K H x d → DtL K H (xs ++ [x]) (ds ++ [d])
  | _, _, _, _, .nil, h => .cons h .nil
  | _, _, _, _, .cons a t, h => .cons a (dtl_snoc t h)
section
variable {P : Program} {w : World} {K : PySem.W.Frag} {mg : Str → Option Value} {base : Heap} {k : Nat} {kw C D CW : Addr}
abbrev s_tuples_of : Stmt := top 16
theorem sc_tuples_of : FnScope ["value", "item"] ["value"] (defScope s_tuples_of) := ⟨rfl, rfl, rfl, by decide +kernel, rfl, by decide +kernel, by decide +kernel⟩
def sp_tpX : Sp := fun _ _ _ _ => False
def sp_tpl (K : PySem.W.Frag) (n : Nat) : Sp := fun vs H Q _ => ∃ (G : Hp) (R : List (Addr × HO)) (v : V) (d : PyData), vs = [v] ∧ Own G H R ∧ Dt K G v d ∧ plT n d ∧ ∀ (G' H' : Hp) (v' : V), Same G G' → Own G' H' R → Dt K G' v' (tupN n d) → Q v' H'
theorem ok_tp0 {f : Addr} {fd : FuncData} (F : Fun K "tuples_of" "tuples_of" s_tuples_of f fd) (B : Btt mg) (C_is_list : Cal P w K mg base k "is_list" ["value"] (sp_isD K)) (C_tuples_of : Cal P w K mg base k "tuples_of" ["value"] sp_tpX) : FnG P w K mg base (k + 1) f fd ["value"] (sp_tpl K 0) := by
  refine fnG_of F sc_tuples_of (fun vs H Q E h => ?_) (fun cdv A outer s H vs Q E r h => ?_)
  · obtain ⟨_, _, _, _, rfl, _⟩ := h
    rfl
  · obtain ⟨G, R, v, d, rfl, O, hv, pl, q⟩ := h
    have pl : itD d = none := pl
    refine ⟨_, (pss_one (ps_ret (pe_ifExp (pt_truK (K := K) rfl (g_call C_is_list r (by rfl) passL (pa_cons (pv 0) pa_nil))) (pe_callTy (cTupleK (K := K) rfl) (by rfl) B.tuple (by decide +kernel) (pa_cons (pe_lc (own := [("item", 1)]) rfl sc_tuples_of.nd (pi_sqK (K := K) rfl (pv 0)) (blkOk_by (N := ["value", "item"]) (sc := defScope s_tuples_of) (by decide +kernel)) (fun _ _ _ _ _ => (pg_name (i := 1) sc_tuples_of.nd rfl (Or.inl rfl))) (fun _ _ _ _ _ => pts_nil) (fun _ _ _ _ _ => (g_call C_tuples_of r (by rfl) passL (pa_cons (pv 1) pa_nil)))) pa_nil)) (pv 0)))), ?_⟩
    try dsimp only [cxOf]
    refine x_start (σ' := [some _, none]) rfl ?_
    walk_at "s"
    refine ⟨G, R, v, d, rfl, O, hv, fun G1 H1 s1 O1 => ?_⟩
    rw [show isL d = false by unfold isL; rw [pl]; rfl]
    walk_at "s"
    exact q G1 H1 v s1 O1 (hv.mono s1)
theorem ok_tpS {n : Nat} {f : Addr} {fd : FuncData} (F : Fun K "tuples_of" "tuples_of" s_tuples_of f fd) (B : Btt mg) (C_is_list : Cal P w K mg base k "is_list" ["value"] (sp_isD K)) (C_tuples_of : Cal P w K mg base k "tuples_of" ["value"] (sp_tpl K n)) : FnG P w K mg base (k + 1) f fd ["value"] (sp_tpl K (n + 1)) := by
  refine fnG_of F sc_tuples_of (fun vs H Q E h => ?_) (fun cdv A outer s H vs Q E r h => ?_)
  · obtain ⟨_, _, _, _, rfl, _⟩ := h
    rfl
  · obtain ⟨G, R, v, d, rfl, O, hv, pl, q⟩ := h
    refine ⟨_, (pss_one (ps_ret (pe_ifExp (pt_truK (K := K) rfl (g_call C_is_list r (by rfl) passL (pa_cons (pv 0) pa_nil))) (pe_callTy (cTupleK (K := K) rfl) (by rfl) B.tuple (by decide +kernel) (pa_cons (pe_lc (own := [("item", 1)]) rfl sc_tuples_of.nd (pi_sqK (K := K) rfl (pv 0)) (blkOk_by (N := ["value", "item"]) (sc := defScope s_tuples_of) (by decide +kernel)) (fun _ _ _ _ _ => (pg_name (i := 1) sc_tuples_of.nd rfl (Or.inl rfl))) (fun _ _ _ _ _ => pts_nil) (fun _ _ _ _ _ => (g_call C_tuples_of r (by rfl) passL (pa_cons (pv 1) pa_nil)))) pa_nil)) (pv 0)))), ?_⟩
    try dsimp only [cxOf]
    refine x_start (σ' := [some _, none]) rfl ?_
    walk_at "s"
    refine ⟨G, R, v, d, rfl, O, hv, fun G1 H1 s1 O1 => ?_⟩
    rcases pl with pl | ⟨ds, pl, hl, hp⟩
    · rw [show isL d = false by unfold isL; rw [pl]; rfl]
      walk_at "s"
      exact q G1 H1 v s1 O1 (by rw [tupN_no pl]; exact hv.mono s1)
    rw [show isL d = true by unfold isL; rw [pl]; rfl]
    obtain ⟨a, xs, rfl, ha, hx⟩ := dt_it hv pl
    have lx := hx.length
    walk_at "s"
    refine x_sqA (S := fun J => tLc (iAt J) _ _ _ _ _ _ _) O1 (ha.same s1) fun J Gd Wk hG => ?_
    refine lc_own (by walk_at "n") Wk O1 (fun i G' L' acc => R = L' ∧ acc.length = i ∧ DtL K G' acc ((ds.take i).map (tupN n))) ⟨rfl, rfl, by rw [List.take_zero]; exact .nil⟩ (fun i G' H' D L' acc s' O' _ => hG G' H' _ s' O') ?_ ?_
    · rintro i x G' H' H2 D' L' acc hi s' O' ⟨rfl, la, da⟩ ⟨rfl, ex⟩
      obtain ⟨e, ee, he⟩ := dtl_at hx ex
      walk_at "s"
      refine ⟨G', _, x, e, rfl, O', he.mono (s1.trans s'), hp e (List.mem_of_getElem? ee), fun G4 H4 v4 s4 O4 h4 => ?_⟩
      refine lcn (s'.trans s4) O4 (lt_line (by omega)) ⟨rfl, by rw [List.length_append, List.length_singleton, la], ?_⟩
      rw [take_snoc ee, List.map_append]
      exact dtl_snoc (da.mono s4) h4
    · rintro G2 H2 D' L' acc s2 O2 ⟨rfl, la, da⟩
      walk_at "s"
      rw [lx, List.take_length] at da
      refine x_tupleL (SqL.of O2.at0) (x_fix O2 fun t G3 H3 s3 O3 e3 => ?_)
      refine q G3 H3 _ (s1.trans (s2.trans s3)) O3.tail ?_
      rw [tupN_it pl]
      exact .tup (SqT.of e3) (da.mono s3)
end
/-! ### standings, turned -/
theorem tup_strs {n : Nat} {b : Bool} (r : List Str) : tupN (n + 1) (sqD b (r.map .str)) = sqD false (r.map .str) := by
  have : (r.map PyData.str).map (tupN n) = r.map .str := by
    rw [List.map_map]
    exact List.map_congr_left fun x _ => tupN_no rfl
  cases b
  · exact (tupN_it (ds := r.map .str) rfl).trans (by rw [this]; rfl)
  · exact (tupN_it (ds := r.map .str) rfl).trans (by rw [this]; rfl)
theorem tup_sq {n : Nat} {b : Bool} {α : Type} {f g : α → PyData} {l : List α} (h : ∀ x ∈ l, tupN n (f x) = g x) : tupN (n + 1) (sqD b (l.map f)) = sqD false (l.map g) := by
  have : (l.map f).map (tupN n) = l.map g := by
    rw [List.map_map]
    exact List.map_congr_left h
  cases b
  · exact (tupN_it (ds := l.map f) rfl).trans (by rw [this]; rfl)
  · exact (tupN_it (ds := l.map f) rfl).trans (by rw [this]; rfl)
theorem tup_mk {n : Nat} (m : Option (List Str)) : tupN (n + 1) (dMk true m) = dMk false m := by
  cases m with
  | none => rfl
  | some ms => exact tup_strs ms
theorem tup_cs {n : Nat} (c : Cs) : tupN (n + 3) (dCs true c) = dCs false c := by
  unfold dCs
  rw [tupN_it (n := n + 2) rfl]
  simp only [List.map_cons, List.map_nil]
  rw [tup_sq (n := n + 1) fun m _ => tup_mk m, tup_strs, tupN_no rfl, tupN_no rfl]
theorem tup_sd {n : Nat} (s : Sd) : tupN (n + 5) (dSd true s) = dSd false s := by
  unfold dSd
  rw [tupN_it (n := n + 4) rfl]
  simp only [List.map_cons, List.map_nil]
  rw [tup_sq (n := n + 3) fun c _ => tup_cs c, tup_strs, tupN_no rfl]
theorem tup_st {n : Nat} (ss : List Sd) : tupN (n + 6) (dSt true ss) = dSt false ss := tup_sq (n := n + 5) fun s _ => tup_sd s
theorem pl_sq {n : Nat} {b : Bool} {α : Type} {f : α → PyData} {l : List α} (hl : l.length ≤ 100000) (h : ∀ x ∈ l, plT n (f x)) : plT (n + 1) (sqD b (l.map f)) :=
  .inr ⟨l.map f, by cases b <;> rfl, by rw [List.length_map]; exact hl, fun e he => by
    obtain ⟨x, hx, rfl⟩ := List.mem_map.mp he
    exact h x hx⟩
theorem pl_no {n : Nat} {d : PyData} (h : itD d = none) : plT n d := by
  cases n with
  | zero => exact h
  | succ n => exact .inl h
theorem pl_strs {n : Nat} {b : Bool} {r : List Str} (h : r.length ≤ 100000) : plT (n + 1) (sqD b (r.map .str)) := pl_sq h fun _ _ => pl_no rfl
theorem pl_tup {n : Nat} {ds : List PyData} (hl : ds.length ≤ 100000) (h : ∀ e ∈ ds, plT n e) : plT (n + 1) (.tuple ds) := .inr ⟨ds, rfl, hl, h⟩
theorem pl_st {kn : List Str} {ss : List Sd} (lk : kn.length ≤ 1000) (ok : StOk kn ss) : plT 6 (dSt true ss) := by
  refine pl_sq (Nat.le_trans ok.l2 (by decide)) fun s hs => ?_
  have so := ok.sd s hs
  refine pl_tup (by show 3 ≤ 100000; decide) fun e he => ?_
  rcases List.mem_cons.mp he with rfl | he
  · exact pl_no rfl
  rcases List.mem_cons.mp he with rfl | he
  · exact pl_strs (Nat.le_trans so.sl (by decide))
  rw [List.mem_singleton.mp he]
  refine pl_sq (Nat.le_trans so.c130 (by decide)) fun c hc => ?_
  have co := so.cs c hc
  refine pl_tup (by show 4 ≤ 100000; decide) fun e he => ?_
  rcases List.mem_cons.mp he with rfl | he
  · refine pl_sq (by rw [co.ml]; exact Nat.le_trans so.sl (by decide)) fun m hm => ?_
    cases m with
    | none => exact pl_no rfl
    | some ms => exact pl_strs (Nat.le_trans (nd_lenS ((co.mm _ hm).nd ms rfl) ((co.mm _ hm).sub ms rfl)) (Nat.le_trans lk (by decide)))
  rcases List.mem_cons.mp he with rfl | he
  · exact pl_no rfl
  rcases List.mem_cons.mp he with rfl | he
  · exact pl_no rfl
  rw [List.mem_singleton.mp he]
  refine pl_strs ?_
  rw [co.sl]
  exact Nat.le_trans (roomS_le (fun s hs => (ok.sd s hs).sl) _) (by decide)
/-! ### ways, turned -/
def dWy (b : Bool) (W : List (Str × Str)) : PyData := sqD b (W.map fun p => .tuple [.str p.1, .str p.2])
theorem wy_dtl {K : PySem.W.Frag} {G : Hp} : ∀ {L : List (Addr × Str × Str)}, Prs G L → DtL K G (L.map fun q => V.ref q.1) ((L.map (·.2)).map fun p => .tuple [.str p.1, .str p.2])
  | [], _ => .nil
  | q :: L, h => .cons (.tup (SqT.of (h q List.mem_cons_self)) (.cons (.str _) (.cons (.str _) .nil))) (wy_dtl fun r hr => h r (List.mem_cons_of_mem _ hr))
theorem WyAt.dt {K : PySem.W.Frag} {G : Hp} {a : Addr} {W : List (Str × Str)} (h : WyAt G a W) : Dt K G (.ref a) (dWy true W) := by
  obtain ⟨L, h1, h2, rfl⟩ := h
  exact .lst (SqL.of h1) (wy_dtl h2)
theorem tup_wy {n : Nat} (W : List (Str × Str)) : tupN (n + 2) (dWy true W) = dWy false W := tup_sq (n := n + 1) fun p _ => by
  rw [tupN_it (n := n) rfl]
  simp only [List.map_cons, List.map_nil]
  rw [tupN_no rfl, tupN_no rfl]
theorem pl_wy {n : Nat} {W : List (Str × Str)} (h : W.length ≤ 4) : plT (n + 2) (dWy true W) := pl_sq (Nat.le_trans h (by decide)) fun p _ => pl_tup (by show 2 ≤ 100000; decide) fun e he => by
  rcases List.mem_cons.mp he with rfl | he
  · exact pl_no rfl
  · rw [List.mem_singleton.mp he]; exact pl_no rfl
end
section
open PySem PySem.Spec PyProof.Rows L2 G
set_option maxHeartbeats 4000000
/-! ### places in lists of texts -/
def ixOf : List Str → Str → Nat
  | [], _ => 0
  | y :: ys, x => if y = x then 0 else ixOf ys x + 1
theorem ix_get : ∀ {xs : List Str} {x : Str}, x ∈ xs → xs[ixOf xs x]? = some x
  | [], _, h => nomatch h
  | y :: ys, x, h => by
    unfold ixOf
    by_cases e : y = x
    · rw [if_pos e, e]; rfl
    · rw [if_neg e, List.getElem?_cons_succ]
      exact ix_get ((List.mem_cons.mp h).resolve_left fun z => e z.symm)
theorem ix_lt {xs : List Str} {x : Str} (h : x ∈ xs) : ixOf xs x < xs.length := (List.getElem?_eq_some_iff.mp (ix_get h)).1
theorem ix_at : ∀ {xs : List Str} {i : Nat} {x : Str}, xs.Nodup → xs[i]? = some x → ixOf xs x = i
  | [], i, x, _, e => by cases e
  | y :: ys, 0, x, _, e => by
    cases e
    unfold ixOf
    exact if_pos rfl
  | y :: ys, i + 1, x, n, e => by
    have e : ys[i]? = some x := e
    obtain ⟨n1, n2⟩ := List.nodup_cons.mp n
    unfold ixOf
    rw [if_neg fun z => n1 (by rw [z]; exact List.mem_of_getElem? e), ix_at n2 e]
/-- a program's steps -/
def dStC (ss : List Sd) (st : List Str) (c : Cs) : PyData := .tuple [sqD false (c.ms.map (dMk false)), .str c.wd, .int (ixOf (ss.map (·.nm)) c.gl : Nat), .tuple (c.sr.map fun x => .int (ixOf (st ++ [wNew]) x : Nat))]
def dSteps (ss : List Sd) : PyData := .list (ss.map fun s => .list (s.cs.map (dStC ss s.st)))
theorem gm_tup4 {K : PySem.W.Frag} {n i j l m : Nat} : ∀ (x : V) (σ' : L2.St) (H' : Hp) (S S' : L2.St → Hp → Prop), (∀ a b, S a b → S' a b) → gTup K n (gCons (gName i) (gCons (gName j) (gCons (gName l) (gCons (gName m) gNil)))) x σ' H' S → gTup K n (gCons (gName i) (gCons (gName j) (gCons (gName l) (gCons (gName m) gNil)))) x σ' H' S' := by
  rintro x σ' H' S S' h ⟨a, xs, rfl, hs, hl, v, r, rfl, v2, r2, rfl, v3, r3, rfl, v4, r4, rfl, rfl, z⟩
  exact ⟨a, _, rfl, hs, hl, v, _, rfl, v2, _, rfl, v3, _, rfl, v4, _, rfl, rfl, h _ _ z⟩
section
variable {K : PySem.W.Frag} {G H : Hp} {R : List (Addr × HO)} {a : Addr} {xs : List V} {σ : L2.St} {Q : VK} {g : TG} {tt : TT} {tk tv te : TE} {vs : List Nat} {ta : TA}
theorem x_dcEA (h : ta σ H fun zs H1 => ∃ a xs J, zs = [.ref a] ∧ ((J = Ite K a ∧ SqL K H1 a xs) ∨ (J = IteT K a ∧ SqT K H1 a xs)) ∧ tDc (iAt J) g tt tk tv vs σ H1 Q) : tDc (iEnumA K ta) g tt tk tv vs σ H Q := h
theorem x_lcEA (h : ta σ H fun zs H1 => ∃ a xs J, zs = [.ref a] ∧ ((J = Ite K a ∧ SqL K H1 a xs) ∨ (J = IteT K a ∧ SqT K H1 a xs)) ∧ tLc (iAt J) g tt te vs σ H1 Q) : tLc (iEnumA K ta) g tt te vs σ H Q := h
theorem x_enS {S : It → Prop} (O : Own G H R) (h : SqA K G a xs) (q : ∀ (J : It) (Gd : Hp → Prop), Walk J xs.length Gd (YPair (fun i => some (.int (i : Nat))) (fun i => xs[i]?)) → (∀ (G' H' : Hp) (L' : List (Addr × HO)), Same G G' → Own G' H' L' → Gd H') → S J) :
    ∃ a' xs' J, [V.ref a] = [.ref a'] ∧ ((J = Ite K a' ∧ SqL K H a' xs') ∨ (J = IteT K a' ∧ SqT K H a' xs')) ∧ S J := by
  rcases h with h | h
  · exact ⟨a, xs, _, rfl, .inl ⟨rfl, O.seq h⟩, q _ _ walk_enum fun G' H' L' s O => O.seq (s.seq h)⟩
  · exact ⟨a, xs, _, rfl, .inr ⟨rfl, O.set h⟩, q _ _ walk_enumT fun G' H' L' s O => O.set (same_t s h)⟩
/-- a new pair, which stays -/
theorem new_pair {T : Addr} {y1 y2 : V} (O : Own G H R) (hT : H T = none) : ∃ G5 H5, Same G G5 ∧ Own G5 H5 R ∧ G5 T = some (.tup [y1, y2]) ∧ upd H T (.tup [y1, y2]) = H5 := ⟨_, _, Same.new (O.free hT), O.fix hT, upd_same, rfl⟩
theorem dt_sqT {v : V} {ds : List PyData} (h : Dt K H v (sqD false ds)) : ∃ a xs, v = .ref a ∧ SqT K H a xs ∧ DtL K H xs ds := dt_tup h
theorem dtl_map {α : Type} {f : α → PyData} {l : List α} : ∀ {ys : List V}, ys.length = l.length → (∀ (i : Nat) (y : V) (c : α), ys[i]? = some y → l[i]? = some c → Dt K H y (f c)) → DtL K H ys (l.map f) := by
  induction l with
  | nil => intro ys hl _; cases ys with
    | nil => exact .nil
    | cons _ _ => cases hl
  | cons c l ih => intro ys hl h; cases ys with
    | nil => cases hl
    | cons y ys => exact .cons (h 0 y c rfl rfl) (ih (by simpa using hl) fun i y c e1 e2 => h (i + 1) y c (by simpa using e1) (by simpa using e2))
end
local macro_rules | `(tactic| walk_at "s1") => `(tactic| with_reducible first | refine x_appL ?_ | refine x_star ?_ | refine x_dcS ?_ | refine x_dcEA ?_)
section
variable {P : Program} {w : World} {K : PySem.W.Frag} {mg : Str → Option Value} {base : Heap} {k : Nat} {kw C D CW : Addr}
abbrev s_steps_of : Stmt := top 31
theorem sc_steps_of : FnScope ["standings", "name", "seats", "cases", "indices", "found", "places", "at", "seat", "marks", "word", "goal", "sources"] ["standings"] (defScope s_steps_of) := ⟨rfl, rfl, rfl, by decide +kernel, rfl, by decide +kernel, by decide +kernel⟩
def sp_sto (K : PySem.W.Frag) : Sp := fun vs H Q _ => ∃ (G : Hp) (R : List (Addr × HO)) (v : V) (kn : List Str) (ss : List Sd), vs = [v] ∧ Own G H R ∧ Dt K G v (dSt false ss) ∧ kn.length ≤ 1000 ∧ StOk kn ss ∧ ∀ (G' H' : Hp) (p : Addr), Same G G' → Own G' H' R → Dt K G' (.ref p) (dSteps ss) → Q (.ref p) H'
theorem ok_sto {f : Addr} {fd : FuncData} (F : Fun K "steps_of" "steps_of" s_steps_of f fd) (B : Btt mg) (T : Tc K mg kw C D) : FnG P w K mg base (k + 1) f fd ["standings"] (sp_sto K) := by
  refine fnG_of F sc_steps_of (fun vs H Q E h => ?_) (fun cdv A outer s H vs Q E r h => ?_)
  · obtain ⟨_, _, _, _, _, rfl, _⟩ := h
    rfl
  · obtain ⟨G, R, v, kn, ss, rfl, O, hv, lkn, ok, q⟩ := h
    refine ⟨_, (pss_cons (ps_set (i := 4) sc_steps_of.nd rfl (Or.inr rfl) (pe_dc (own := [("at", 7), ("name", 1), ("seats", 2), ("cases", 3)]) rfl sc_steps_of.nd (pi_enumA (by rfl) B.enumerate (pa_cons (pv 0) pa_nil)) (blkOk_by (N := ["standings", "name", "seats", "cases", "indices", "found", "places", "at", "seat", "marks", "word", "goal", "sources"]) (sc := defScope s_steps_of) (by decide +kernel)) (fun _ _ _ _ _ => (pg_tupK (K := K) (n := 2) rfl rfl (pgs_cons (pg_name (i := 7) sc_steps_of.nd rfl (Or.inl rfl)) (pgs_cons (pg_tupK (K := K) (n := 3) rfl rfl (pgs_cons (pg_name (i := 1) sc_steps_of.nd rfl (Or.inl rfl)) (pgs_cons (pg_name (i := 2) sc_steps_of.nd rfl (Or.inl rfl)) (pgs_cons (pg_name (i := 3) sc_steps_of.nd rfl (Or.inl rfl)) pgs_nil)))) pgs_nil)))) (fun _ _ _ _ _ => pts_nil) (fun _ _ _ _ _ => (pv 1)) (fun _ _ _ _ _ => (pv 7))))
       (pss_cons (ps_set (i := 5) sc_steps_of.nd rfl (Or.inl rfl) (d_lst pa_nil))
       (pss_cons (ps_for (passes_of rfl) rfl (pi_sqK (K := K) rfl (pv 0)) (pg_tupK (K := K) (n := 3) rfl rfl (pgs_cons (pg_name (i := 1) sc_steps_of.nd rfl (Or.inl rfl)) (pgs_cons (pg_name (i := 2) sc_steps_of.nd rfl (Or.inl rfl)) (pgs_cons (pg_name (i := 3) sc_steps_of.nd rfl (Or.inl rfl)) pgs_nil))))
       (pss_cons (ps_set (i := 6) sc_steps_of.nd rfl (Or.inr rfl) (pe_dc (own := [("at", 7), ("seat", 8)]) rfl sc_steps_of.nd (pi_enumA (by rfl) B.enumerate (pa_cons (d_tup (pa_starK (K := K) rfl (pv 2) (pa_cons (C8.pe_gc (by rfl) T.NEW) pa_nil))) pa_nil)) (blkOk_by (N := ["standings", "name", "seats", "cases", "indices", "found", "places", "at", "seat", "marks", "word", "goal", "sources"]) (sc := defScope s_steps_of) (by decide +kernel)) (fun _ _ _ _ _ => (pg_tupK (K := K) (n := 2) rfl rfl (pgs_cons (pg_name (i := 7) sc_steps_of.nd rfl (Or.inl rfl)) (pgs_cons (pg_name (i := 8) sc_steps_of.nd rfl (Or.inl rfl)) pgs_nil)))) (fun _ _ _ _ _ => pts_nil) (fun _ _ _ _ _ => (pv 8)) (fun _ _ _ _ _ => (pv 7))))
       (pss_one (ps_expr (pe_bmK' (K := K) rfl PySem.F.plainAttrs_list PySem.F.slot_list_append PySem.F.type_list_append mApp (pv 5) (pa_cons (pe_lc (own := [("marks", 9), ("word", 10), ("goal", 11), ("sources", 12)]) rfl sc_steps_of.nd (pi_sqK (K := K) rfl (pv 3)) (blkOk_by (N := ["standings", "name", "seats", "cases", "indices", "found", "places", "at", "seat", "marks", "word", "goal", "sources"]) (sc := defScope s_steps_of) (by decide +kernel)) (fun _ _ _ _ _ => (pg_tupK (K := K) (n := 4) rfl rfl (pgs_cons (pg_name (i := 9) sc_steps_of.nd rfl (Or.inl rfl)) (pgs_cons (pg_name (i := 10) sc_steps_of.nd rfl (Or.inl rfl)) (pgs_cons (pg_name (i := 11) sc_steps_of.nd rfl (Or.inl rfl)) (pgs_cons (pg_name (i := 12) sc_steps_of.nd rfl (Or.inl rfl)) pgs_nil)))))) (fun _ _ _ _ _ => pts_nil) (fun _ _ _ _ _ => (d_tup (pa_cons (pv 9) (pa_cons (pv 10) (pa_cons (pe_dget r.hu (pv 4) (pv 11) (fun _ _ => rfl)) (pa_cons (pe_callTy (cTupleK (K := K) rfl) (by rfl) B.tuple (by decide +kernel) (pa_cons (pe_lc (own := [("seat", 8)]) rfl sc_steps_of.nd (pi_sqK (K := K) rfl (pv 12)) (blkOk_in (N := ["standings", "name", "seats", "cases", "indices", "found", "places", "at", "seat", "marks", "word", "goal", "sources"]) (sc := defScope s_steps_of) rfl rfl (by decide +kernel)) (fun _ _ _ _ _ => (pg_name (i := 8) sc_steps_of.nd rfl (Or.inl rfl))) (fun _ _ _ _ _ => pts_nil) (fun _ _ _ _ _ => (pe_dget r.hu (pv 6) (pv 8) (fun _ _ => rfl)))) pa_nil)) pa_nil))))))) pa_nil))))))
       (pss_one (ps_ret (pv 5)))))), ?_⟩
    try dsimp only [cxOf]
    refine x_start (σ' := [some _, none, none, none, none, none, none, none, none, none, none, none, none]) rfl ?_
    obtain ⟨a, xs, rfl, ha, hx⟩ := dt_sqT hv
    have lx : xs.length = ss.length := by rw [hx.length, List.length_map]
    have o2 := ok.l2
    walk_at "s"
    refine x_enS O (.inr ha) fun J Gd Wk hG => ?_
    refine dc_own (by walk_at "n") Wk O (fun i G' L' kvs => R = L' ∧ kvs = kvF (fun x => .int (ixOf (ss.map (·.nm)) x : Nat)) ((ss.map (·.nm)).take i)) ⟨rfl, rfl⟩ (fun i G' H' D L' kvs s' O' _ => hG G' H' _ s' O') ?_ ?_
    · rintro i x G' H' H3 D L' kvs hi s' O' ⟨rfl, rfl⟩ ⟨T5, y1, y2, rfl, hT, rfl, e1, e2⟩
      cases e1
      have e2 : xs[i]? = some y2 := e2
      obtain ⟨sd, es, hs⟩ := dtl_mapAt hx e2
      obtain ⟨b, v2, v3, rfl, hb, h2, h3⟩ := dt_sd hs
      obtain ⟨G5, H5, s5, O5, e5, hH5⟩ := new_pair O' hT
      rw [hH5]
      have s05 := s'.trans s5
      refine x_gT (SqT.of (O5.sub _ _ e5)) rfl ?_
      refine x_gC ?_
      walk_at "n1"
      refine x_gC ?_
      refine x_gT (O5.set (same_t s05 hb)) rfl ?_
      refine x_gC ?_
      walk_at "n1"
      refine x_gC ?_
      walk_at "n1"
      refine x_gC ?_
      walk_at "n1"
      refine x_gNl ?_
      refine x_gNl ?_
      refine ⟨by walk_at "n", ?_⟩
      walk_at "s"
      exact dcn (k := Sum.inr sd.nm) s05 O5 (by rw [kvF_len, List.length_take, List.length_map, sizeLine_eq]; omega) ⟨rfl, put_kvF ok.nd (by rw [List.getElem?_map, es]; rfl) (by rw [ix_at ok.nd (by rw [List.getElem?_map, es]; rfl)])⟩
    rintro G3 H3 id L' kvs s3 O3 ⟨rfl, rfl⟩
    rw [lx, List.take_of_length_le (by rw [List.length_map]; exact Nat.le_refl _)] at O3
    have sf := Same.new (o := .dK (kvF (fun x => .int (ixOf (ss.map (·.nm)) x : Nat)) (ss.map (·.nm)))) O3.no0
    have O4 := O3.frz0
    have e4 : upd G3 id (.dK (kvF (fun x => .int (ixOf (ss.map (·.nm)) x : Nat)) (ss.map (·.nm)))) id = some (.dK (kvF (fun x => .int (ixOf (ss.map (·.nm)) x : Nat)) (ss.map (·.nm)))) := upd_same
    generalize upd G3 id (.dK (kvF (fun x => .int (ixOf (ss.map (·.nm)) x : Nat)) (ss.map (·.nm)))) = G4 at sf O4 e4
    have nI : NuD G4 id (ss.map (·.nm)) (ixOf (ss.map (·.nm))) := nuD_kvF e4
    have s14 := s3.trans sf
    walk_at "s"
    refine ⟨by decide, x_new O4 fun fp H5 O5 => ?_⟩
    walk_at "s"
    refine x_sqT (O5.set (same_t s14 ha)) ?_
    refine for_own walk_tup O5 (fun i σ' G' L' => ∃ acc x1 x2 x3 x6, L' = (fp, .lst acc) :: R ∧ acc.length = i ∧ DtL K G' acc ((ss.take i).map fun s => .list (s.cs.map (dStC ss s.st))) ∧ σ' = [some (.ref a), x1, x2, x3, some (.ref id), some (.ref fp), x6, none, none, none, none, none, none])
      ⟨[], _, _, _, _, rfl, rfl, .nil, rfl⟩ (fun i σ' G' H' L' s' O' _ => O'.set (same_t (s14.trans s') ha)) ?_ ?_
    · rintro i x σ' G' H' H2 L' hi s' O' ⟨acc, x1, x2, x3, x6, rfl, la, da, rfl⟩ ⟨rfl, ex⟩
      obtain ⟨sd, es, hs⟩ := dtl_mapAt hx ex
      obtain ⟨b, v2, v3, rfl, hb, h2, h3⟩ := dt_sd hs
      obtain ⟨b2, rfl, hb2⟩ := dt_strsT (show Dt K G v2 (.tuple (sd.st.map .str)) from h2)
      obtain ⟨b3, x3', rfl, hb3, hx3⟩ := dt_sqT h3
      have so := ok.sd sd (List.mem_of_getElem? es)
      have ls := so.sl
      have lc := so.c130
      have l3 : x3'.length = sd.cs.length := by rw [hx3.length, List.length_map]
      have s1' := s14.trans s'
      refine x_gT (O'.set (same_t s1' hb)) rfl ?_
      refine x_gC ?_
      walk_at "n1"
      refine x_gC ?_
      walk_at "n1"
      refine x_gC ?_
      walk_at "n1"
      refine x_gNl ?_
      walk_at "s"
      refine ⟨b2, _, rfl, .inl (O'.set (same_t s1' hb2)), ?_⟩
      walk_at "s"
      have e6 : sd.st.map V.str ++ [V.str "new"] = (sd.st ++ [wNew]).map V.str := by rw [List.map_append]; rfl
      rw [e6]
      have nd6 : (sd.st ++ [wNew]).Nodup := List.nodup_append.mpr ⟨so.sd, by simp, fun x hx y hy e => by
        rw [List.mem_singleton] at hy
        have := (so.sn x hx).free
        rw [e, hy] at this
        exact absurd this (by decide)⟩
      refine ⟨by rw [List.length_map, List.length_append, sizeLine_eq]; simp; omega, x_fix O' fun p6 G6 H6 s6 O6 e6 => ?_⟩
      refine x_enS O6 (.inr (SqT.of e6)) fun J Gd Wk hG => ?_
      refine dc_own (by walk_at "n") Wk O6 (fun i G' L' kvs => L' = (fp, .lst acc) :: R ∧ kvs = kvF (fun x => .int (ixOf (sd.st ++ [wNew]) x : Nat)) ((sd.st ++ [wNew]).take i)) ⟨rfl, rfl⟩ (fun i G' H' D L' kvs s' O' _ => hG G' H' _ s' O') ?_ ?_
      · rintro j x G7 H7 H3 D L' kvs hi s7 O7 ⟨rfl, rfl⟩ ⟨T5, y1, y2, rfl, hT, rfl, e1, e2⟩
        cases e1
        obtain ⟨z, rfl, ez⟩ := txt_at e2
        obtain ⟨G8, H8, s8, O8, e8, hH5⟩ := new_pair O7 hT
        rw [hH5]
        refine x_gT (SqT.of (O8.sub _ _ e8)) rfl ?_
        refine x_gC ?_
        walk_at "n1"
        refine x_gC ?_
        walk_at "n1"
        refine x_gNl ?_
        refine ⟨by walk_at "n", ?_⟩
        walk_at "s"
        exact dcn (k := Sum.inr z) (s7.trans s8) O8 (by rw [kvF_len, List.length_take, sizeLine_eq, List.length_append]; simp; omega) ⟨rfl, put_kvF nd6 ez (by rw [ix_at nd6 ez])⟩
      rintro G7 H7 pd L' kvs s7 O7 ⟨rfl, rfl⟩
      rw [List.length_map, List.take_length] at O7
      have sf7 := Same.new (o := .dK (kvF (fun x => .int (ixOf (sd.st ++ [wNew]) x : Nat)) (sd.st ++ [wNew]))) O7.no0
      have O8 := O7.frz0
      have e8 : upd G7 pd (.dK (kvF (fun x => .int (ixOf (sd.st ++ [wNew]) x : Nat)) (sd.st ++ [wNew]))) pd = some (.dK (kvF (fun x => .int (ixOf (sd.st ++ [wNew]) x : Nat)) (sd.st ++ [wNew]))) := upd_same
      generalize upd G7 pd (.dK (kvF (fun x => .int (ixOf (sd.st ++ [wNew]) x : Nat)) (sd.st ++ [wNew]))) = G8 at sf7 O8 e8
      have nP : NuD G8 pd (sd.st ++ [wNew]) (ixOf (sd.st ++ [wNew])) := nuD_kvF e8
      have s68 := s6.trans (s7.trans sf7)
      have s18 := s1'.trans s68
      walk_at "s"
      refine ⟨ty_l (SqL.of O8.at0), ?_⟩
      walk_at "s"
      refine x_sqT (O8.set (same_t s18 hb3)) ?_
      refine lc_map (by walk_at "n") walk_tup O8 (by omega) (fun G' j y => ∀ c, sd.cs[j]? = some c → Dt K G' y (dStC ss sd.st c)) (fun _ _ _ _ s z c e => (z c e).mono s) (fun G' H' D acc s' O' => O'.set (same_t (s18.trans s') hb3)) ?_ gm_tup4 ?_
      · rintro j x G9 H9 H2' D acc' hj s9 O9 ⟨rfl, ex⟩ kk
        obtain ⟨c, ec, hc⟩ := dtl_mapAt hx3 ex
        obtain ⟨ca, v1, v4, rfl, hca, h1, h4⟩ := dt_cs hc
        obtain ⟨b4, rfl, hb4⟩ := dt_strsT (show Dt K G v4 (.tuple (c.sr.map .str)) from h4)
        have co := so.cs c (List.mem_of_getElem? ec)
        have l5 : c.sr.length ≤ 5 := by rw [co.sl]; exact roomS_le (fun s hs => (ok.sd s hs).sl) _
        have s19 := s18.trans s9
        refine x_gT (O9.set (same_t s19 hca)) rfl ?_
        refine x_gC ?_
        walk_at "n1"
        refine x_gC ?_
        walk_at "n1"
        refine x_gC ?_
        walk_at "n1"
        refine x_gC ?_
        walk_at "n1"
        refine x_gNl ?_
        refine ⟨by walk_at "n", ?_⟩
        walk_at "s"
        obtain ⟨kvi, hi1, hi2, _⟩ := nI
        have dI : DGet H2' id (.str c.gl) (some (.int (ixOf (ss.map (·.nm)) c.gl : Nat))) := by
          have := DGet.k (k := Sum.inr c.gl) (O9.sub _ _ ((s'.trans (s68.trans s9)) _ _ hi1))
          rw [hi2 c.gl co.gl] at this
          exact this
        refine ⟨id, _, rfl, dI, ?_⟩
        walk_at "s"
        refine x_sqT (O9.set (same_t s19 hb4)) ?_
        refine lc_map (by walk_at "n") walk_tup O9 (by rw [List.length_map]; omega) (fun _ l y => ∀ x, c.sr[l]? = some x → y = .int (ixOf (sd.st ++ [wNew]) x : Nat)) (fun _ _ _ _ _ z => z) (fun G' H' D acc s' O' => O'.set (same_t (s19.trans s') hb4)) ?_ gm_name ?_
        · rintro l x Ga Ha H2'' D2 acc2 hl sa Oa ⟨rfl, ex⟩ kk2
          obtain ⟨z, rfl, ez⟩ := txt_at ex
          walk_at "s"
          obtain ⟨kvp, hp1, hp2, _⟩ := nP
          have mz : z ∈ sd.st ++ [wNew] := (co.sr z (List.mem_of_getElem? ez)).elim (fun e => List.mem_append_right _ (by rw [e]; exact List.mem_singleton_self _)) (fun e => List.mem_append_left _ e)
          have dP : DGet H2'' pd (.str z) (some (.int (ixOf (sd.st ++ [wNew]) z : Nat))) := by
            have := DGet.k (k := Sum.inr z) (Oa.sub _ _ ((s9.trans sa) _ _ hp1))
            rw [hp2 z mz] at this
            exact this
          refine ⟨pd, _, rfl, dP, ?_⟩
          exact kk2 _ _ _ (Same.refl _) Oa fun x e => by rw [ez] at e; cases e; rfl
        intro Gb Hb pb ysb sb Ob eb lb rb
        walk_at "s"
        refine x_tupleL (SqL.of (Ob.sub _ _ eb)) (x_fix Ob fun tb Gc Hc sc Oc ec' => ?_)
        walk_at "s"
        refine ⟨by show 4 ≤ sizeLine; decide, x_fix Oc fun te Gd' Hd sd' Od ed => ?_⟩
        have s9d := sb.trans (sc.trans sd')
        refine kk _ _ _ s9d Od fun c' ec2 => ?_
        rw [ec] at ec2
        cases ec2
        refine .tup (SqT.of ed) (.cons (h1.mono (s19.trans s9d)) (.cons (.str _) (.cons (.int _) (.cons (.tup (SqT.of (sd' _ _ ec')) (dtl_map (by rw [lb, List.length_map]) fun l y x e1 e2 => ?_)) .nil))))
        rw [rb l y e1 x e2]
        exact .int _
      intro Ge He pe ye se Oe ee le re
      walk_at "s"
      refine x_app Oe.at0 (by rw [la, sizeLine_eq]; omega) (x_md0 Oe fun Hf Of => ?_)
      walk_at "s"
      refine fvh (s'.trans (s68.trans se)) Of ⟨_, _, _, _, _, rfl, by rw [List.length_append, List.length_singleton, la], ?_, rfl⟩
      rw [take_snoc es, List.map_append]
      exact dtl_snoc (da.mono (s68.trans se)) (.lst (SqL.of ee) (dtl_map (by rw [le, l3]) fun j y c e1 e2 => re j y e1 c e2))
    · rintro σ' G' H' L' s' O' ⟨acc, x1, x2, x3, x6, rfl, la, da, rfl⟩
      walk_at "s"
      have sn := Same.new (o := .lst acc) O'.no0
      refine q _ _ fp (s14.trans (s'.trans sn)) O'.frz0 ?_
      rw [lx, List.take_length] at da
      exact .lst (SqL.of upd_same) (da.mono sn)
end
end
section
open PySem PySem.Spec PyProof.Rows L2 G
set_option maxHeartbeats 4000000
local macro_rules | `(tactic| walk_at "s1") => `(tactic| with_reducible first | refine x_appL ?_ | refine x_star ?_ | refine x_dcS ?_ | refine x_dcEA ?_)
/-! ### programs -/
structure Dp (K : PySem.W.Frag) (CP : Addr) : Prop where
  cl : Cls K CP
  ways : NoAttr K CP "ways"
  standings : NoAttr K CP "standings"
  rooms : NoAttr K CP "rooms"
  most : NoAttr K CP "most"
  steps : NoAttr K CP "steps"
def prF (wv sv rv mv tv : V) : List (Str × V) := [("ways", wv), ("standings", sv), ("rooms", rv), ("most", mv), ("steps", tv)]
section
variable {a b c d e : V} {r : List (Str × V)}
theorem p_ways : (((("ways" : Str), a) :: r)).lookup ("ways" : Str) = some a := by rw [lookup_put, if_pos rfl]
theorem p_standings : (((("ways" : Str), a) :: (("standings" : Str), b) :: r)).lookup ("standings" : Str) = some b := by rw [lookup_put, if_neg (by decide +kernel), lookup_put, if_pos rfl]
theorem p_most : (((("ways" : Str), a) :: (("standings" : Str), b) :: (("rooms" : Str), c) :: (("most" : Str), d) :: r)).lookup ("most" : Str) = some d := by rw [lookup_put, if_neg (by decide +kernel), lookup_put, if_neg (by decide +kernel), lookup_put, if_neg (by decide +kernel), lookup_put, if_pos rfl]
theorem p_steps : (((("ways" : Str), a) :: (("standings" : Str), b) :: (("rooms" : Str), c) :: (("most" : Str), d) :: (("steps" : Str), e) :: r)).lookup ("steps" : Str) = some e := by rw [lookup_put, if_neg (by decide +kernel), lookup_put, if_neg (by decide +kernel), lookup_put, if_neg (by decide +kernel), lookup_put, if_neg (by decide +kernel), lookup_put, if_pos rfl]
end
/-- the greatest number of seats -/
def MostS (ss : List Sd) (m : Nat) : Prop := (∀ s ∈ ss, s.st.length ≤ m) ∧ ∃ s ∈ ss, s.st.length = m
structure PrA (K : PySem.W.Frag) (CP : Addr) (G : Hp) (p dx : Addr) (wv sv : V) (rd : Addr) (m : Nat) (tv : V) (W : List (Str × Str)) (ss : List Sd) : Prop where
  at_ : G p = some (.ins CP dx (prF wv sv (.ref rd) (.int m) tv))
  wy : Dt K G wv (dWy false W)
  st : Dt K G sv (dSt false ss)
  rm : NuD G rd (ss.map (·.nm)) (roomS ss)
  mo : MostS ss m
  stp : Dt K G tv (dSteps ss)
  okw : WaysOk W
  oks : StOk (knW W) ss
def Prg (K : PySem.W.Frag) (CP : Addr) (G : Hp) (p : Addr) (W : List (Str × Str)) (ss : List Sd) : Prop := ∃ dx wv sv rd m tv, PrA K CP G p dx wv sv rd m tv W ss
theorem PrA.same {K : PySem.W.Frag} {CP : Addr} {G G' : Hp} {p dx : Addr} {wv sv : V} {rd : Addr} {m : Nat} {tv : V} {W : List (Str × Str)} {ss : List Sd} (h : PrA K CP G p dx wv sv rd m tv W ss) (s : Same G G') : PrA K CP G' p dx wv sv rd m tv W ss :=
  ⟨s _ _ h.at_, h.wy.mono s, h.st.mono s, h.rm.same s, h.mo, h.stp.mono s, h.okw, h.oks⟩
theorem Prg.same {K : PySem.W.Frag} {CP : Addr} {G G' : Hp} {p : Addr} {W : List (Str × Str)} {ss : List Sd} (h : Prg K CP G p W ss) (s : Same G G') : Prg K CP G' p W ss := by
  obtain ⟨dx, wv, sv, rd, m, tv, h⟩ := h
  exact ⟨dx, wv, sv, rd, m, tv, h.same s⟩
theorem knW_len {W : List (Str × Str)} (o : WaysOk W) : (knW W).length ≤ 5 := by
  have := o.l4
  unfold knW keysW
  rw [List.length_cons, List.length_map]
  omega
section
variable {P : Program} {w : World} {K : PySem.W.Frag} {mg : Str → Option Value} {base : Heap} {k : Nat} {kw C CP D CW : Addr}
abbrev s_Program___init__ : Stmt := inClass (top 32) 0
theorem sc_Program___init__ : FnScope ["self", "ways", "standings", "name", "seats", "cases"] ["self", "ways", "standings"] (defScope s_Program___init__) := ⟨rfl, rfl, rfl, by decide +kernel, rfl, by decide +kernel, by decide +kernel⟩
def sp_pri (K : PySem.W.Frag) (CP : Addr) : Sp := fun vs H Q _ => ∃ (G : Hp) (R : List (Addr × HO)) (p dx wa : Addr) (sv : V) (W : List (Str × Str)) (ss : List Sd), vs = [.ref p, .ref wa, sv] ∧ Own G H ((p, .ins CP dx []) :: (dx, .own p) :: R) ∧ WyAt G wa W ∧ WaysOk W ∧ Dt K G sv (dSt true ss) ∧ StOk (knW W) ss ∧
  ∀ (G' H' : Hp), Same G G' → Own G' H' R → Prg K CP G' p W ss → Q .non H'
theorem ok_pri {f : Addr} {fd : FuncData} (F : Fun K "__init__" "Program.__init__" s_Program___init__ f fd) (B : Btt mg) (Z0 : Dp K CP) (C_are_ways : Cal P w K mg base k "are_ways" ["value"] (sp_aw K)) (C_are_standings : Cal P w K mg base k "are_standings" ["ways", "value"] (sp_ast K))
    (C_tuples_of : Cal P w K mg base k "tuples_of" ["value"] (sp_tpl K 6)) (C_steps_of : Cal P w K mg base k "steps_of" ["standings"] (sp_sto K)) : FnG P w K mg base (k + 1) f fd ["self", "ways", "standings"] (sp_pri K CP) := by
  refine fnG_of F sc_Program___init__ (fun vs H Q E h => ?_) (fun cdv A outer s H vs Q E r h => ?_)
  · obtain ⟨_, _, _, _, _, _, _, _, rfl, _⟩ := h
    rfl
  · obtain ⟨G, R, p, dx, wa, sv, W, ss, rfl, O, wy, wo, hv, ok, q⟩ := h
    refine ⟨_, (pss_cons (ps_if (pt_not (pt_truK (K := K) rfl (g_call C_are_ways r (by rfl) passL (pa_cons (pv 1) pa_nil))))
       (pss_one ps_never)
       pss_nil)
       (pss_cons (ps_if (pt_not (pt_truK (K := K) rfl (g_call C_are_standings r (by rfl) passL (pa_cons (pv 1) (pa_cons (pv 2) pa_nil)))))
       (pss_one ps_never)
       pss_nil)
       (pss_cons (ps_fldK (K := K) rfl (pv 0) (g_call C_tuples_of r (by rfl) passL (pa_cons (pv 1) pa_nil)) rfl)
       (pss_cons (ps_fldK (K := K) rfl (pv 0) (g_call C_tuples_of r (by rfl) passL (pa_cons (pv 2) pa_nil)) rfl)
       (pss_cons (ps_fldK (K := K) rfl (pv 0) (pe_dc (own := [("name", 3), ("seats", 4), ("cases", 5)]) rfl sc_Program___init__.nd (pi_sqK (K := K) rfl (pe_fldK (K := K) rfl (pv 0) rfl)) (blkOk_by (N := ["self", "ways", "standings", "name", "seats", "cases"]) (sc := defScope s_Program___init__) (by decide +kernel)) (fun _ _ _ _ _ => (pg_tupK (K := K) (n := 3) rfl rfl (pgs_cons (pg_name (i := 3) sc_Program___init__.nd rfl (Or.inl rfl)) (pgs_cons (pg_name (i := 4) sc_Program___init__.nd rfl (Or.inl rfl)) (pgs_cons (pg_name (i := 5) sc_Program___init__.nd rfl (Or.inl rfl)) pgs_nil))))) (fun _ _ _ _ _ => pts_nil) (fun _ _ _ _ _ => (pv 3)) (fun _ _ _ _ _ => (pe_callB (cLenK (K := K) rfl) (by rfl) B.len (by decide +kernel) (pa_cons (pv 4) pa_nil)))) rfl)
       (pss_cons (ps_fldK (K := K) rfl (pv 0) (pe_callB (cMaxK (K := K) rfl rfl) (by rfl) B.max (by decide +kernel) (pa_cons (pe_lc (own := [("name", 3), ("seats", 4), ("cases", 5)]) rfl sc_Program___init__.nd (pi_sqK (K := K) rfl (pe_fldK (K := K) rfl (pv 0) rfl)) (blkOk_by (N := ["self", "ways", "standings", "name", "seats", "cases"]) (sc := defScope s_Program___init__) (by decide +kernel)) (fun _ _ _ _ _ => (pg_tupK (K := K) (n := 3) rfl rfl (pgs_cons (pg_name (i := 3) sc_Program___init__.nd rfl (Or.inl rfl)) (pgs_cons (pg_name (i := 4) sc_Program___init__.nd rfl (Or.inl rfl)) (pgs_cons (pg_name (i := 5) sc_Program___init__.nd rfl (Or.inl rfl)) pgs_nil))))) (fun _ _ _ _ _ => pts_nil) (fun _ _ _ _ _ => (pe_callB (cLenK (K := K) rfl) (by rfl) B.len (by decide +kernel) (pa_cons (pv 4) pa_nil)))) pa_nil)) rfl)
       (pss_one (ps_fldK (K := K) rfl (pv 0) (g_call C_steps_of r (by rfl) passL (pa_cons (pe_fldK (K := K) rfl (pv 0) rfl) pa_nil)) rfl)))))))), ?_⟩
    try dsimp only [cxOf]
    refine x_start (σ' := [some _, some _, some _, none, none, none]) rfl ?_
    obtain ⟨L, hw, pr, eW⟩ := id wy
    walk_at "s"
    refine ⟨G, _, wa, L, rfl, O, hw, pr, by rw [eW]; exact wo, fun G1 H1 s1 O1 => ?_⟩
    walk_at "s"
    refine ⟨G1, _, wa, sv, W, ss, rfl, O1, wy.same s1, wo, hv.mono s1, ok, fun G2 H2 s2 O2 => ?_⟩
    have s12 := s1.trans s2
    walk_at "s"
    refine ⟨G2, _, .ref wa, _, rfl, O2, (wy.same s12).dt, pl_wy wo.l4, fun G3 H3 v3 s3 O3 h3 => ?_⟩
    rw [tup_wy] at h3
    walk_at "s"
    refine x_sfldI O3.at0 Z0.cl Z0.ways (by show 0 < 1000; decide) ?_
    rw [putF_nil]
    have O4 := Own.upd0 (o' := .ins CP dx [("ways", v3)]) O3
    generalize upd H3 p (.ins CP dx [("ways", v3)]) = H4 at O4 ⊢
    have s13 := s12.trans s3
    walk_at "s"
    refine ⟨G3, _, sv, _, rfl, O4, hv.mono s13, pl_st (Nat.le_trans (knW_len wo) (by decide)) ok, fun G5 H5 v5 s5 O5 h5 => ?_⟩
    rw [tup_st (n := 0)] at h5
    walk_at "s"
    refine x_sfldI O5.at0 Z0.cl Z0.standings (by show 1 < 1000; decide) ?_
    rw [putF_ne (by decide +kernel), putF_nil]
    have O6 := Own.upd0 (o' := .ins CP dx [("ways", v3), ("standings", v5)]) O5
    generalize upd H5 p (.ins CP dx [("ways", v3), ("standings", v5)]) = H6 at O6 ⊢
    have s15 := s13.trans s5
    walk_at "s"
    refine x_fldI O6.at0 Z0.cl Z0.standings p_standings ?_
    obtain ⟨a, xs, rfl, ha, hx⟩ := dt_sqT h5
    have lx : xs.length = ss.length := by rw [hx.length, List.length_map]
    have o1 := ok.l1
    have o2 := ok.l2
    generalize hB : (p, HO.ins CP dx [("ways", v3), ("standings", V.ref a)]) :: (dx, HO.own p) :: R = Bs at *
    refine x_sqT (O6.set ha) ?_
    refine dc_own (by walk_at "n") walk_tup O6 (fun i G' L' kvs => Bs = L' ∧ kvs = kvF (fun x => .int (roomS ss x : Nat)) ((ss.map (·.nm)).take i)) ⟨rfl, rfl⟩ (fun i G' H' D L' kvs s' O' _ => O'.set (same_t s' ha)) ?_ ?_
    · rintro i x G' H' H3 D L' kvs hi s' O' ⟨rfl, rfl⟩ ⟨rfl, ex⟩
      obtain ⟨sd, es, hs⟩ := dtl_mapAt hx ex
      obtain ⟨b, v2, v3, rfl, hb, h2, h3⟩ := dt_sd hs
      obtain ⟨b2, rfl, hb2⟩ := dt_strsT (show Dt K G5 v2 (.tuple (sd.st.map .str)) from h2)
      refine x_gT (O'.set (same_t s' hb)) rfl ?_
      refine x_gC ?_
      walk_at "n1"
      refine x_gC ?_
      walk_at "n1"
      refine x_gC ?_
      walk_at "n1"
      refine x_gNl ?_
      refine ⟨by walk_at "n", ?_⟩
      walk_at "s"
      refine x_lent (O'.set (same_t s' hb2)) ?_
      rw [List.length_map]
      exact dcn (k := Sum.inr sd.nm) s' O' (by rw [kvF_len, List.length_take, List.length_map, sizeLine_eq]; omega) ⟨rfl, put_kvF ok.nd (by rw [List.getElem?_map, es]; rfl) (by rw [roomS_of ok.nd (List.mem_of_getElem? es)])⟩
    rintro G7 H7 rd L' kvs s7 O7 ⟨rfl, rfl⟩
    rw [lx, List.take_of_length_le (by rw [List.length_map]; exact Nat.le_refl _)] at O7
    have sf := Same.new (o := .dK (kvF (fun x => .int (roomS ss x : Nat)) (ss.map (·.nm)))) O7.no0
    have O8 := O7.frz0
    have e8 : upd G7 rd (.dK (kvF (fun x => .int (roomS ss x : Nat)) (ss.map (·.nm)))) rd = some (.dK (kvF (fun x => .int (roomS ss x : Nat)) (ss.map (·.nm)))) := upd_same
    generalize upd G7 rd (.dK (kvF (fun x => .int (roomS ss x : Nat)) (ss.map (·.nm)))) = G8 at sf O8 e8
    have nD : NuD G8 rd (ss.map (·.nm)) (roomS ss) := nuD_kvF e8
    have s58 := s7.trans sf
    subst hB
    walk_at "s"
    refine x_sfldI O8.at0 Z0.cl Z0.rooms (by show 2 < 1000; decide) ?_
    rw [putF_ne (by decide +kernel), putF_ne (by decide +kernel), putF_nil]
    have O9 := Own.upd0 (o' := .ins CP dx [("ways", v3), ("standings", .ref a), ("rooms", .ref rd)]) O8
    generalize upd H7 p (.ins CP dx [("ways", v3), ("standings", .ref a), ("rooms", .ref rd)]) = H9 at O9 ⊢
    walk_at "s"
    refine x_fldI O9.at0 Z0.cl Z0.standings p_standings ?_
    generalize hB : (p, HO.ins CP dx [("ways", v3), ("standings", V.ref a), ("rooms", .ref rd)]) :: (dx, HO.own p) :: R = Bs at *
    refine x_sqT (O9.set (same_t s58 ha)) ?_
    refine lc_map (by walk_at "n") walk_tup O9 (by omega) (fun _ i y => ((ss.map fun s => V.int (s.st.length : Nat)))[i]? = some y) (fun _ _ _ _ _ z => z) (fun G' H' D acc s' O' => O'.set (same_t (s58.trans s') ha)) ?_ gm_tup3 ?_
    · rintro i x G' H' H3 D acc hi s' O' ⟨rfl, ex⟩ kk
      obtain ⟨sd, es, hs⟩ := dtl_mapAt hx ex
      obtain ⟨b, v2, v3, rfl, hb, h2, h3⟩ := dt_sd hs
      obtain ⟨b2, rfl, hb2⟩ := dt_strsT (show Dt K G5 v2 (.tuple (sd.st.map .str)) from h2)
      have s5' := s58.trans s'
      refine x_gT (O'.set (same_t s5' hb)) rfl ?_
      refine x_gC ?_
      walk_at "n1"
      refine x_gC ?_
      walk_at "n1"
      refine x_gC ?_
      walk_at "n1"
      refine x_gNl ?_
      refine ⟨by walk_at "n", ?_⟩
      walk_at "s"
      refine x_lent (O'.set (same_t s5' hb2)) ?_
      rw [List.length_map]
      exact kk _ _ _ (Same.refl _) O' (by rw [List.getElem?_map, es]; rfl)
    intro Ga Ha pa ys sa Oa ea la ra
    have ey : ys = (ss.map fun s => (s.st.length : Int)).map V.int := by
      rw [List.map_map]
      refine List.ext_getElem? fun j => ?_
      cases e : ys[j]? with
      | none => exact (List.getElem?_eq_none (by have := List.getElem?_eq_none_iff.mp e; rw [List.length_map]; omega)).symm
      | some y => exact (ra j y e).symm
    subst ey
    walk_at "s"
    refine ⟨pa, _, rfl, SqL.of (Oa.sub _ _ ea), by rw [List.length_map]; omega, fun m hm hmx => ?_⟩
    obtain ⟨sm, hsm, rfl⟩ := List.mem_map.mp hm
    have mo : MostS ss sm.st.length := ⟨fun s hs => by have := hmx _ (List.mem_map.mpr ⟨s, hs, rfl⟩); omega, sm, hsm, rfl⟩
    subst hB
    walk_at "s"
    refine x_sfldI Oa.at0 Z0.cl Z0.most (by show 3 < 1000; decide) ?_
    rw [putF_ne (by decide +kernel), putF_ne (by decide +kernel), putF_ne (by decide +kernel), putF_nil]
    have Ob := Own.upd0 (o' := .ins CP dx [("ways", v3), ("standings", .ref a), ("rooms", .ref rd), ("most", .int (sm.st.length : Nat))]) Oa
    generalize upd Ha p (.ins CP dx [("ways", v3), ("standings", .ref a), ("rooms", .ref rd), ("most", .int (sm.st.length : Nat))]) = Hb at Ob ⊢
    have s5a := s58.trans sa
    walk_at "s"
    refine x_fldI Ob.at0 Z0.cl Z0.standings p_standings ?_
    walk_at "s"
    refine ⟨Ga, _, .ref a, _, ss, rfl, Ob, h5.mono s5a, Nat.le_trans (knW_len wo) (by decide), ok, fun Gc Hc tp sc Oc hc => ?_⟩
    walk_at "s"
    refine x_sfldI Oc.at0 Z0.cl Z0.steps (by show 4 < 1000; decide) ?_
    rw [putF_ne (by decide +kernel), putF_ne (by decide +kernel), putF_ne (by decide +kernel), putF_ne (by decide +kernel), putF_nil]
    have Od := Own.upd0 (o' := .ins CP dx (prF v3 (.ref a) (.ref rd) (.int (sm.st.length : Nat)) (.ref tp))) Oc
    have Oe := Od.frz0
    have Of := Oe.frz0
    have sd := Same.new (o := .ins CP dx (prF v3 (.ref a) (.ref rd) (.int (sm.st.length : Nat)) (.ref tp))) Od.no0
    have se := Same.new (o := .own p) Oe.no0
    have sde := sd.trans se
    have s5e := s5a.trans (sc.trans sde)
    refine q _ _ (s15.trans s5e) Of ⟨dx, v3, .ref a, rd, sm.st.length, .ref tp, se _ _ upd_same, h3.mono (s5.trans s5e), h5.mono s5e, nD.same (sa.trans (sc.trans sde)), mo, hc.mono sde, wo, ok⟩
end
end
section
open PySem PySem.Spec PyProof.Rows L2 G
set_option maxHeartbeats 4000000
local macro_rules | `(tactic| walk_at "s1") => `(tactic| with_reducible first | refine x_appL ?_ | refine x_star ?_ | refine x_dcS ?_ | refine x_dcEA ?_ | refine x_lcEA ?_)
/-! ### one step -/
/-- whether a case's marks let this mark -/
def mkB (m : Option (List Str)) (x : Str) : Bool := match m with
  | none => true
  | some l => l.contains x
def MeetsC (ms : List (Option (List Str))) (mk : List Str) : Prop := ∀ (i : Nat) (m : Option (List Str)) (x : Str), ms[i]? = some m → mk[i]? = some x → mkB m x = true
/-- the case that counts -/
structure CaseAt (cs : List Cs) (mk : List Str) (j : Nat) (c : Cs) : Prop where
  at_ : cs[j]? = some c
  ok : MeetsC c.ms mk
  no : ∀ (i : Nat) (c' : Cs), i < j → cs[i]? = some c' → ¬ MeetsC c'.ms mk
theorem CaseAt.uniq {cs : List Cs} {mk : List Str} {i j : Nat} {c d : Cs} (h : CaseAt cs mk i c) (h' : CaseAt cs mk j d) : c = d := by
  rcases Nat.lt_trichotomy i j with z | z | z
  · exact absurd h.ok (h'.no i c z h.at_)
  · subst z
    have := h.at_
    rw [h'.at_] at this
    exact (Option.some.inj this).symm
  · exact absurd h'.ok (h.no j d z h'.at_)
theorem meets_none {ms : List (Option (List Str))} {mk : List Str} (h : ∀ m ∈ ms, m = none) : MeetsC ms mk := fun i m x e _ => by
  rw [h m (List.mem_of_getElem? e)]
  rfl
/-- the rest of a step, as told -/
def dRest (ss : List Sd) (st : List Str) (c : Cs) : List PyData := [.str c.wd, .int (ixOf (ss.map (·.nm)) c.gl : Nat), .tuple (c.sr.map fun x => .int (ixOf (st ++ [wNew]) x : Nat))]
section
variable {K : PySem.W.Frag} {σ σ' : L2.St} {H : Hp} {n b1 c1 : L2.St → Hp → Prop} {r1 : VK}
theorem x_augI {m : Nat} {f : Int → Int → Int} {x y : Int} (h : σ[m]? = some (some (.int x))) (hs : σ.set m (some (.int (f x y))) = σ') (q : n σ' H) : tAug m (tC (.int y)) (ipI f) ⟨n, r1, b1, c1⟩ σ H := by
  subst hs
  exact ⟨_, h, x, y, rfl, rfl, q⟩
end
section
variable {P : Program} {w : World} {K : PySem.W.Frag} {mg : Str → Option Value} {base : Heap} {k : Nat} {kw C CP D CW : Addr}
abbrev s_meets : Stmt := top 33
theorem sc_meets : FnScope ["wanted", "marks", "one", "mark"] ["wanted", "marks"] (defScope s_meets) := ⟨rfl, rfl, rfl, by decide +kernel, rfl, by decide +kernel, by decide +kernel⟩
def sp_mts (K : PySem.W.Frag) : Sp := fun vs H Q _ => ∃ (G : Hp) (R : List (Addr × HO)) (v : V) (b : Addr) (ms : List (Option (List Str))) (mk : List Str), vs = [v, .ref b] ∧ Own G H R ∧ Dt K G v (sqD false (ms.map (dMk false))) ∧ SqT K G b (mk.map V.str) ∧ ms.length = mk.length ∧ mk.length ≤ 1000 ∧
  ∀ (G' H' : Hp) (b : Bool), Same G G' → Own G' H' R → (b = true ↔ MeetsC ms mk) → Q (.bl b) H'
theorem ok_mts {f : Addr} {fd : FuncData} (F : Fun K "meets" "meets" s_meets f fd) (B : Btt mg) : FnG P w K mg base (k + 1) f fd ["wanted", "marks"] (sp_mts K) := by
  refine fnG_of F sc_meets (fun vs H Q E h => ?_) (fun cdv A outer s H vs Q E r h => ?_)
  · obtain ⟨_, _, _, _, _, _, rfl, _⟩ := h
    rfl
  · obtain ⟨G, R, v, b, ms, mk, rfl, O, hv, hb, lm, l1, q⟩ := h
    refine ⟨_, (pss_one (ps_ret (pe_callB (cAllK (K := K) rfl rfl) (by rfl) B.all (by decide +kernel) (pa_cons (pe_lc (own := [("one", 2), ("mark", 3)]) rfl sc_meets.nd (pi_zipW (by rfl) B.zip (pa_cons (pv 0) (pa_cons (pv 1) pa_nil))) (blkOk_by (N := ["wanted", "marks", "one", "mark"]) (sc := defScope s_meets) (by decide +kernel)) (fun _ _ _ _ _ => (pg_tupK (K := K) (n := 2) rfl rfl (pgs_cons (pg_name (i := 2) sc_meets.nd rfl (Or.inl rfl)) (pgs_cons (pg_name (i := 3) sc_meets.nd rfl (Or.inl rfl)) pgs_nil)))) (fun _ _ _ _ _ => pts_nil) (fun _ _ _ _ _ => (pe_or (pe_cmpR oIs (pv 2) pe_non (nomark _)) (pe_one (pe_cmpR (oInK (K := K) rfl) (pv 3) (pv 2) (by rfl)))))) pa_nil)))), ?_⟩
    try dsimp only [cxOf]
    refine x_start (σ' := [some _, some _, none, none]) rfl ?_
    obtain ⟨a, xs, rfl, ha, hx⟩ := dt_sqT hv
    have lx : xs.length = ms.length := by rw [hx.length, List.length_map]
    walk_at "s"
    refine ⟨a, b, xs, _, _, rfl, O.set hb, .inr ⟨rfl, O.set ha⟩, ?_⟩
    refine lc_map (by walk_at "n") (walk_zipT (n := ms.length) (by rw [List.length_map]; omega)) O (by omega) (fun _ j y => ∃ b : Bool, y = .bl b ∧ (b = true ↔ ∀ (m : Option (List Str)) (x : Str), ms[j]? = some m → mk[j]? = some x → mkB m x = true)) (fun _ _ _ _ _ z => z) (fun G' H' D acc s' O' => ⟨O'.set (same_t s' ha), O'.set (same_t s' hb)⟩) ?_ gm_tup2 ?_
    · rintro j x G' H' H2 D acc hj s' O' ⟨T5, y1, y2, rfl, hT, rfl, e1, e2⟩ kk
      have e1 : xs[j]? = some y1 := e1
      obtain ⟨m, em, hm⟩ := dtl_mapAt hx e1
      obtain ⟨z, rfl, ez⟩ := txt_at e2
      obtain ⟨G5, H5, s5, O5, e5, hH5⟩ := new_pair O' hT
      rw [hH5]
      have s05 := s'.trans s5
      refine x_gT (SqT.of (O5.sub _ _ e5)) rfl ?_
      refine x_gC ?_
      walk_at "n1"
      refine x_gC ?_
      walk_at "n1"
      refine x_gNl ?_
      refine ⟨by walk_at "n", ?_⟩
      walk_at "s"
      have fin : ∀ b : Bool, b = mkB m z → (b = true ↔ ∀ (m : Option (List Str)) (x : Str), ms[j]? = some m → mk[j]? = some x → mkB m x = true) := fun b hb => ⟨fun h m' x' e e' => by
        rw [em] at e
        rw [ez] at e'
        cases e
        cases e'
        rw [← hb, h], fun h => by rw [hb]; exact h m z em ez⟩
      cases m with
      | none =>
        obtain rfl := dt_non hm
        rw [decide_eq_true (rfl : V.non = V.non)]
        walk_at "s"
        exact kk _ _ _ s5 O5 ⟨true, rfl, fin true rfl⟩
      | some l =>
        obtain ⟨c, rfl, hc⟩ := dt_strsT hm
        rw [decide_eq_false (fun e : V.ref c = V.non => nomatch e)]
        walk_at "s"
        refine x_inA (.inr (O5.set (same_t s05 hc))) ?_
        exact kk _ _ _ s5 O5 ⟨_, rfl, fin _ rfl⟩
    intro G7 H7 p7 bs7 s7 O7 e7 l7 r7
    walk_at "s"
    refine x_allR (Φ := fun i => ∀ (m : Option (List Str)) (x : Str), ms[i]? = some m → mk[i]? = some x → mkB m x = true) (SqL.of (O7.sub _ _ e7)) l7 r7 fun b hb7 => ?_
    exact q G7 H7 b s7 O7 (hb7.trans ⟨fun h i m x e1 e2 => h i (List.getElem?_eq_some_iff.mp e1).1 m x e1 e2, fun h i _ m x e1 e2 => h i m x e1 e2⟩)
abbrev s_step : Stmt := top 34
theorem sc_step : FnScope ["program", "at", "marks", "cases", "which"] ["program", "at", "marks"] (defScope s_step) := ⟨rfl, rfl, rfl, by decide +kernel, rfl, by decide +kernel, by decide +kernel⟩
def sp_stp (K : PySem.W.Frag) (CP : Addr) : Sp := fun vs H Q _ => ∃ (G : Hp) (R : List (Addr × HO)) (p b : Addr) (i : Nat) (W : List (Str × Str)) (ss : List Sd) (sd : Sd) (mk : List Str), vs = [.ref p, .int (i : Nat), .ref b] ∧ Own G H R ∧ Prg K CP G p W ss ∧ ss[i]? = some sd ∧ SqT K G b (mk.map V.str) ∧ mk.length = sd.st.length ∧
  ∀ (G' H' : Hp) (v : V) (j : Nat) (c : Cs), Same G G' → Own G' H' R → CaseAt sd.cs mk j c → Dt K G' v (.tuple (dRest ss sd.st c)) → Q v H'
theorem ok_stp {f : Addr} {fd : FuncData} (F : Fun K "step" "step" s_step f fd) (B : Btt mg) (Z0 : Dp K CP) (C_meets : Cal P w K mg base k "meets" ["wanted", "marks"] (sp_mts K)) : FnG P w K mg base (k + 1) f fd ["program", "at", "marks"] (sp_stp K CP) := by
  refine fnG_of F sc_step (fun vs H Q E h => ?_) (fun cdv A outer s H vs Q E r h => ?_)
  · obtain ⟨_, _, _, _, _, _, _, _, _, rfl, _⟩ := h
    rfl
  · obtain ⟨G, R, p, b, i, W, ss, sd, mk, rfl, O, pg, es, hb, lm, q⟩ := h
    refine ⟨_, (pss_cons (ps_par (i := 3) (j := 4) rfl sc_step.nd rfl rfl (by decide) rfl rfl (pa_cons (pe_ix (ixK (K := K) rfl) (pe_fldK (K := K) rfl (pv 0) rfl) (pv 1) (fun _ _ => rfl)) (pa_cons pe_int pa_nil)) (by rfl))
       (pss_cons (ps_while (passes_of rfl) (pt_not (pt_truK (K := K) rfl (g_call C_meets r (by rfl) passL (pa_cons (pe_ix (ixK (K := K) rfl) (pe_ix (ixK (K := K) rfl) (pv 3) (pv 4) (fun _ _ => rfl)) pe_int (fun _ _ => rfl)) (pa_cons (pv 2) pa_nil)))))
       (pss_one (ps_aug (i := 4) sc_step.nd rfl (Or.inl rfl) pe_int ip_add)))
       (pss_one (ps_ret (pe_slice (oSlK (K := K) rfl) (pe_ix (ixK (K := K) rfl) (pv 3) (pv 4) (fun _ _ => rfl)) (po_some pe_int) po_none))))), ?_⟩
    try dsimp only [cxOf]
    refine x_start (σ' := [some _, some _, some _, none, none]) rfl ?_
    obtain ⟨dx, wv, sv, rd, m, tv, T⟩ := id pg
    have so := T.oks.sd sd (List.mem_of_getElem? es)
    have ls := so.sl
    obtain ⟨ta, xs, rfl, hta, hxs⟩ := dt_lst T.stp
    obtain ⟨x, ex, hx⟩ := dtl_mapGet hxs es
    obtain ⟨ca, cx, rfl, hca, hcx⟩ := dt_lst hx
    have lcx : cx.length = sd.cs.length := by rw [hcx.length, List.length_map]
    walk_at "s"
    refine x_fldI (O.sub _ _ T.at_) Z0.cl Z0.steps p_steps ?_
    walk_at "s"
    refine x_ixl (v := .ref ca) (O.seq hta) (atI_nat ex) ?_
    walk_at "s"
    have c1 := so.c1
    have c130 := so.c130
    refine while_own (m := sd.cs.length) O (fun m σ' G' L' => ∃ j : Nat, R = L' ∧ j + m = sd.cs.length ∧ 1 ≤ m ∧ (∀ (i : Nat) (c' : Cs), i < j → sd.cs[i]? = some c' → ¬ MeetsC c'.ms mk) ∧ σ' = [some (.ref p), some (.int (i : Nat)), some (.ref b), some (.ref ca), some (.int (j : Nat))])
      ⟨0, rfl, by omega, c1, (fun i _ z => absurd z (Nat.not_lt_zero _)), rfl⟩ ?_
    rintro m' σ' G' H' L' s' O' ⟨j, rfl, hj, hm1, hno, rfl⟩
    obtain ⟨c, ec⟩ : ∃ c, sd.cs[j]? = some c := ⟨_, List.getElem?_eq_getElem (by omega)⟩
    obtain ⟨y, ey, hy⟩ := dtl_mapGet hcx ec
    obtain ⟨ya, ys, rfl, hya, hys⟩ := dt_tup hy
    obtain _ | ⟨h1, t1⟩ := hys
    obtain _ | ⟨h2, t2⟩ := t1
    obtain _ | ⟨h3, t3⟩ := t2
    obtain _ | ⟨h4, t4⟩ := t3
    cases t4
    have co := so.cs c (List.mem_of_getElem? ec)
    walk_at "s"
    refine x_ixl (v := .ref ya) (O'.seq (s'.seq hca)) (atI_nat ey) ?_
    walk_at "s"
    refine x_ixt (i := 0) (O'.set (same_t s' hya)) rfl ?_
    walk_at "s"
    refine ⟨G', _, _, b, c.ms, mk, rfl, O', h1.mono s', same_t s' hb, by rw [co.ml, lm], by omega, fun G5 H5 bb s5 O5 hbb => ?_⟩
    walk_at "s"
    have s05 := s'.trans s5
    cases bb with
    | false =>
      rw [show (!false) = true from rfl]
      refine ite_t ?_
      refine w_yes ?_
      have hn : ¬ MeetsC c.ms mk := fun z => by cases hbb.mpr z
      have hlt : j + 1 < sd.cs.length := by
        rcases Nat.lt_or_ge (j + 1) sd.cs.length with h | h
        · exact h
        · have : j = sd.cs.length - 1 := by omega
          exact absurd (meets_none (so.last c (by rw [← this]; exact ec))) hn
      refine x_augI rfl rfl ?_
      refine wvh (m' := m' - 1) (by omega) s05 O5 ⟨j + 1, rfl, by omega, by omega, fun i c' hi e => ?_, rfl⟩
      rcases Nat.lt_or_ge i j with h | h
      · exact hno i c' h e
      · have : i = j := by omega
        subst this
        rw [ec] at e
        cases e
        exact hn
    | true =>
      rw [show (!true) = false from rfl]
      refine ite_f ?_
      walk_at "s"
      refine x_ixl (v := .ref ya) (O5.seq (s05.seq hca)) (atI_nat ey) ?_
      walk_at "s"
      refine x_slT (O5.set (same_t s05 hya)) (fun z => absurd z.1 (by show ¬ HT.sIx 4 0 (some 1) = 0; decide)) (fun _ => x_fix O5 fun p6 G6 H6 s6 O6 e6 => ?_)
      have s06 := s05.trans s6
      refine q G6 H6 _ j c s06 O6 ⟨ec, hbb.mp rfl, hno⟩ ?_
      exact .tup (SqT.of e6) (.cons (h2.mono s06) (.cons (h3.mono s06) (.cons (h4.mono s06) .nil)))
end
end
section
open PySem PySem.Spec PyProof.Rows L2 G
set_option maxHeartbeats 4000000
local macro_rules | `(tactic| walk_at "s1") => `(tactic| with_reducible first | refine x_appL ?_ | refine x_star ?_ | refine x_dcS ?_ | refine x_dcEA ?_ | refine x_lcEA ?_)
/-! ### all marks -/
def allM (kn : List Str) : Nat → List (List Str)
  | 0 => [[]]
  | n + 1 => (allM kn n).flatMap fun row => kn.map fun x => row ++ [x]
theorem len_fmap {kn : List Str} : ∀ {rows : List (List Str)}, (rows.flatMap fun row => kn.map fun x => row ++ [x]).length = rows.length * kn.length
  | [] => by simp
  | r :: rows => by
    rw [List.flatMap_cons, List.length_append, List.length_map, len_fmap, List.length_cons, Nat.succ_mul]
    omega
theorem allM_len (kn : List Str) : ∀ n : Nat, (allM kn n).length = kn.length ^ n
  | 0 => rfl
  | n + 1 => by
    show ((allM kn n).flatMap fun row => kn.map fun x => row ++ [x]).length = _
    rw [len_fmap, allM_len kn n, Nat.pow_succ]
theorem allM_mem {kn : List Str} : ∀ {n : Nat} {r : List Str}, r ∈ allM kn n → r.length = n ∧ ∀ x ∈ r, x ∈ kn
  | 0, r, h => by
    rw [List.mem_singleton.mp h]
    exact ⟨rfl, fun _ z => nomatch z⟩
  | n + 1, r, h => by
    obtain ⟨r', hr, h⟩ := List.mem_flatMap.mp h
    obtain ⟨x, hx, rfl⟩ := List.mem_map.mp h
    obtain ⟨h1, h2⟩ := allM_mem hr
    exact ⟨by rw [List.length_append, List.length_singleton, h1], fun y hy => (List.mem_append.mp hy).elim (h2 y) fun z => by rw [List.mem_singleton.mp z]; exact hx⟩
theorem allM_le {kn : List Str} {n : Nat} (h : kn.length ≤ 5) (hn : n ≤ 5) : (allM kn n).length ≤ 3125 := by
  rw [allM_len]
  exact Nat.le_trans (Nat.pow_le_pow_left h n) (Nat.pow_le_pow_right (by decide) hn)
/-- tuples of texts that stand -/
def Tps (G : Hp) (As : List (Addr × List Str)) : Prop := ∀ q ∈ As, G q.1 = some (.tup (q.2.map V.str))
theorem Tps.same {G G' : Hp} {As : List (Addr × List Str)} (h : Tps G As) (s : Same G G') : Tps G' As := fun q hq => s _ _ (h q hq)
section
variable {P : Program} {w : World} {K : PySem.W.Frag} {mg : Str → Option Value} {base : Heap} {k : Nat} {kw C CP D CW CM : Addr}
abbrev s_all_marks : Stmt := top 37
theorem sc_all_marks : FnScope ["known", "many", "found", "_", "row", "mark"] ["known", "many"] (defScope s_all_marks) := ⟨rfl, rfl, rfl, by decide +kernel, rfl, by decide +kernel, by decide +kernel⟩
def sp_alm (K : PySem.W.Frag) : Sp := fun vs H Q _ => ∃ (G : Hp) (R : List (Addr × HO)) (a : Addr) (kn : List Str) (n : Nat), vs = [.ref a, .int (n : Nat)] ∧ Own G H R ∧ SqL K G a (kn.map V.str) ∧ kn.length ≤ 5 ∧ n ≤ 5 ∧
  ∀ (G' H' : Hp) (q : Addr) (As : List (Addr × List Str)), Same G G' → Own G' H' R → G' q = some (.lst (As.map fun q => V.ref q.1)) → Tps G' As → As.map (·.2) = allM kn n → Q (.ref q) H'
theorem ok_alm {f : Addr} {fd : FuncData} (F : Fun K "all_marks" "all_marks" s_all_marks f fd) (B : Btt mg) : FnG P w K mg base (k + 1) f fd ["known", "many"] (sp_alm K) := by
  refine fnG_of F sc_all_marks (fun vs H Q E h => ?_) (fun cdv A outer s H vs Q E r h => ?_)
  · obtain ⟨_, _, _, _, _, rfl, _⟩ := h
    rfl
  · obtain ⟨G, R, a, kn, n, rfl, O, ha, hk, hn, q⟩ := h
    refine ⟨_, (pss_cons (ps_set (i := 2) sc_all_marks.nd rfl (Or.inl rfl) (d_lst (pa_cons (d_tup pa_nil) pa_nil)))
       (pss_cons (ps_for (passes_of rfl) rfl (pi_range1 (by rfl) B.range (pa_cons (pv 1) pa_nil)) (pg_name (i := 3) sc_all_marks.nd rfl (Or.inl rfl))
       (pss_one (ps_setLcL2 (i := 2) (own := [("row", 4), ("mark", 5)]) (vs1 := [5]) rfl sc_all_marks.nd rfl rfl (sw_true rfl rfl rfl (by decide +kernel)) (pi_sqK (K := K) rfl (pv 2)) (blkOk_by (N := ["known", "many", "found", "_", "row", "mark"]) (sc := defScope s_all_marks) (by decide +kernel)) (by decide) (fun _ _ _ _ _ => (pg_name (i := 4) sc_all_marks.nd rfl (Or.inl rfl))) (fun _ _ _ _ _ => pts_nil) (fun _ _ _ _ _ => (pi_sqK (K := K) rfl (pv 0))) (fun _ _ _ _ _ => (pg_name (i := 5) sc_all_marks.nd rfl (Or.inl rfl))) (fun _ _ _ _ _ => pts_nil) (fun _ _ _ _ _ => (d_tup (pa_starK (K := K) rfl (pv 4) (pa_cons (pv 5) pa_nil)))))))
       (pss_one (ps_ret (pv 2))))), ?_⟩
    try dsimp only [cxOf]
    refine x_start (σ' := [some _, some _, none, none, none, none]) rfl ?_
    walk_at "s"
    refine ⟨by decide, x_fix O fun p1 G1 H1 s1 O1 e1 => ?_⟩
    refine ⟨by show 1 ≤ sizeLine; decide, x_fix O1 fun p2 G2 H2 s2 O2 e2 => ?_⟩
    walk_at "s"
    refine x_rg (by omega) (by omega) ?_
    have s12 := s1.trans s2
    refine for_own walk_range O2 (fun i σ' G' L' => ∃ (fp : Addr) (As : List (Addr × List Str)) (x3 : Option V), R = L' ∧ G' fp = some (.lst (As.map fun q => V.ref q.1)) ∧ Tps G' As ∧ As.map (·.2) = allM kn i ∧ σ' = [some (.ref a), some (.int (n : Nat)), some (.ref fp), x3, none, none])
      ⟨p2, [(p1, [])], none, rfl, e2, fun q hq => by rw [List.mem_singleton.mp hq]; exact s2 _ _ e1, rfl, rfl⟩ (fun _ _ _ _ _ _ _ _ => True.intro) ?_ ?_
    · rintro i x σ' G' H' H2' L' hi s' O' ⟨fp, As, x3, rfl, hf, tA, eA, rfl⟩ ⟨rfl, rfl⟩
      have hi5 : i < 5 := by omega
      have lA : As.length = kn.length ^ i := by rw [← List.length_map (f := (·.2)) (as := As), eA, allM_len]
      have l625 : As.length ≤ 625 := by
        rw [lA]
        exact Nat.le_trans (Nat.pow_le_pow_left hk i) (Nat.pow_le_pow_right (n := 5) (by decide) (show i ≤ 4 by omega))
      walk_at "s"
      refine x_sqL (SqL.of (O'.sub _ _ hf)) ?_
      refine comp_own (by walk_at "n") walk_list O' (fun Dd i G' L' => ∃ Bs : List (Addr × List Str), L' = (Dd, .lst (Bs.map fun q => V.ref q.1)) :: R ∧ Tps G' Bs ∧ Bs.map (·.2) = ((As.map (·.2)).take i).flatMap fun row => kn.map fun x => row ++ [x])
        (fun Dd => ⟨[], rfl, (fun _ z => nomatch z), rfl⟩) (fun Dd i G9 H9 L9 s9 O9 _ => SqL.of (O9.sub _ _ (s9 _ _ hf))) ?_ ?_
      · rintro Dd j x G3 H3 H3' L3 hj s3 O3 ⟨Bs, rfl, tB, eB⟩ ⟨rfl, ex⟩
        obtain ⟨t, rfl, et⟩ := ref_at ex
        have gt := tA t (List.mem_of_getElem? et)
        have lB : Bs.length ≤ j * 5 := by
          have := len_fmap (kn := kn) (rows := (As.map (·.2)).take j)
          rw [← eB, List.length_map, List.length_take, List.length_map] at this
          rw [this]
          exact Nat.mul_le_mul (Nat.min_le_left _ _) hk
        rw [List.length_map] at hj
        walk_at "s"
        refine x_sqL (O3.seq ((s12.trans (s'.trans s3)).seq ha)) ?_
        refine in_own (by walk_at "n") walk_list O3 (fun l G4 L4 => ∃ Cs : List (Addr × List Str), L4 = (Dd, .lst (Cs.map fun q => V.ref q.1)) :: R ∧ Tps G4 Cs ∧ Cs.map (·.2) = Bs.map (·.2) ++ (kn.take l).map fun x => t.2 ++ [x])
          ⟨Bs, rfl, tB, by rw [List.take_zero]; simp⟩ (fun l G4 H4 L4 s4 O4 _ => O4.seq ((s12.trans (s'.trans (s3.trans s4))).seq ha)) ?_ ?_
        · rintro l x G4 H4 H4' L4 hl s4 O4 ⟨Cs, rfl, tC, eC⟩ ⟨rfl, ex⟩
          obtain ⟨z, rfl, ez⟩ := txt_at ex
          have s34 := s3.trans s4
          rw [List.length_map] at hl
          have lC : Cs.length = Bs.length + l := by
            have := congrArg List.length eC
            rw [List.length_map, List.length_append, List.length_map, List.length_map, List.length_take] at this
            omega
          walk_at "s"
          refine ⟨t.1, _, rfl, .inl (SqT.of (O4.sub _ _ (s34 _ _ gt))), ?_⟩
          walk_at "s"
          have e6 : t.2.map V.str ++ [V.str z] = (t.2 ++ [z]).map V.str := by rw [List.map_append]; rfl
          have lt5 : t.2.length = i := (allM_mem (kn := kn) (by rw [← eA]; exact List.mem_map.mpr ⟨t, List.mem_of_getElem? et, rfl⟩)).1
          rw [e6]
          refine ⟨by rw [List.length_map, List.length_append, sizeLine_eq]; simp; omega, x_fix O4 fun p6 G6 H6 s6 O6 e6 => ?_⟩
          refine ⟨_, O6.at0, by rw [List.length_map, sizeLine_eq]; omega, ?_⟩
          refine cvh (s4.trans s6) O6.upd0 ⟨Cs ++ [(p6, t.2 ++ [z])], by rw [List.map_append]; rfl, fun q hq => ?_, ?_⟩
          · rcases List.mem_append.mp hq with hq | hq
            · exact s6 _ _ (tC q hq)
            · rw [List.mem_singleton.mp hq]; exact e6
          · rw [List.map_append, eC, List.append_assoc, take_snoc ez, List.map_append]
            rfl
        · rintro G5 H5 L5 s5 O5 ⟨Cs, rfl, tC, eC⟩
          refine cvh (s3.trans s5) O5 ⟨Cs, rfl, tC, ?_⟩
          rw [List.length_map, List.take_length] at eC
          rw [eC, eB, take_snoc (show (As.map (·.2))[j]? = some t.2 by rw [List.getElem?_map, et]; rfl), List.flatMap_append]
          simp
      · rintro Dd G3 H3 L3 s3 O3 ⟨Bs, rfl, tB, eB⟩
        rw [List.length_map, ← List.length_map (f := (·.2)), List.take_length, eA] at eB
        have sn := Same.new (o := .lst (Bs.map fun q => V.ref q.1)) O3.no0
        walk_at "s"
        refine fvh (s'.trans (s3.trans sn)) O3.frz0 ⟨Dd, Bs, _, rfl, upd_same, tB.same sn, eB, rfl⟩
    · rintro σ' G' H' L' s' O' ⟨fp, As, x3, rfl, hf, tA, eA, rfl⟩
      walk_at "s"
      exact q G' H' fp As (s12.trans s') O' hf tA eA
end
end
section
open PySem PySem.Spec PyProof.Rows L2 G
set_option maxHeartbeats 4000000
local macro_rules | `(tactic| walk_at "s1") => `(tactic| with_reducible first | refine x_appL ?_ | refine x_star ?_ | refine x_dcS ?_ | refine x_dcEA ?_ | refine x_lcEA ?_)
/-! ### rows -/
/-- a row: the marks, and the case that counts -/
def RowC (ss : List Sd) (s : Sd) (mk : List Str) (d : PyData) : Prop := ∃ j c, CaseAt s.cs mk j c ∧ d = .tuple (.tuple (mk.map .str) :: dRest ss s.st c)
/-- the rows of a standing -/
def RowsC (kn : List Str) (ss : List Sd) (s : Sd) (ds : List PyData) : Prop := ds.length = (allM kn s.st.length).length ∧ ∀ (i : Nat) (mk : List Str) (d : PyData), (allM kn s.st.length)[i]? = some mk → ds[i]? = some d → RowC ss s mk d
theorem RowC.uniq {ss : List Sd} {s : Sd} {mk : List Str} {d d' : PyData} (h : RowC ss s mk d) (h' : RowC ss s mk d') : d = d' := by
  obtain ⟨j, c, h1, rfl⟩ := h
  obtain ⟨j', c', h2, rfl⟩ := h'
  rw [h1.uniq h2]
theorem RowsC.uniq {kn : List Str} {ss : List Sd} {s : Sd} {ds ds' : List PyData} (h : RowsC kn ss s ds) (h' : RowsC kn ss s ds') : ds = ds' := by
  refine List.ext_getElem (h.1.trans h'.1.symm) fun i h1 h2 => ?_
  have hi : i < (allM kn s.st.length).length := by rw [← h.1]; exact h1
  exact (h.2 i _ _ (List.getElem?_eq_getElem hi) (List.getElem?_eq_getElem h1)).uniq (h'.2 i _ _ (List.getElem?_eq_getElem hi) (List.getElem?_eq_getElem h2))
/-- how many rows there are -/
def cntS (n : Nat) (ss : List Sd) : Nat := (ss.map fun s => n ^ s.st.length).sum
theorem dt_wp {K : PySem.W.Frag} {H : Hp} {v : V} {a b : Str} (h : Dt K H v (.tuple [.str a, .str b])) : ∃ c, v = .ref c ∧ SqT K H c [.str a, .str b] := by
  obtain ⟨c, xs, rfl, h1, h2⟩ := dt_tup h
  obtain _ | ⟨e1, t⟩ := h2
  obtain _ | ⟨e2, t⟩ := t
  cases t
  rw [dt_str e1, dt_str e2] at h1
  exact ⟨c, rfl, h1⟩
theorem pow_le5 {n m : Nat} (h : n ≤ 5) (hm : m ≤ 5) : n ^ m ≤ 3125 := Nat.le_trans (Nat.pow_le_pow_left h m) (Nat.pow_le_pow_right (by decide) hm)
theorem ext_map {ys : List V} {zs : List V} (l : ys.length = zs.length) (h : ∀ (i : Nat) (y : V), ys[i]? = some y → zs[i]? = some y) : ys = zs := by
  refine List.ext_getElem? fun j => ?_
  cases e : ys[j]? with
  | none => exact (List.getElem?_eq_none (by have := List.getElem?_eq_none_iff.mp e; omega)).symm
  | some y => exact (h j y e).symm
theorem sum_cast (f : Sd → Nat) : ∀ ss : List Sd, (ss.map fun s => ((f s : Nat) : Int)).sum = ((ss.map f).sum : Nat)
  | [] => rfl
  | s :: ss => by simp only [List.map_cons, List.sum_cons, sum_cast f ss, Int.natCast_add]
section
variable {P : Program} {w : World} {K : PySem.W.Frag} {mg : Str → Option Value} {base : Heap} {k : Nat} {kw C CP D CW CM : Addr}
abbrev s_compiled : Stmt := top 38
theorem sc_compiled : FnScope ["program", "known", "counts", "_", "count", "at", "standing", "name", "seats", "cases", "marks", "back"] ["program"] (defScope s_compiled) := ⟨rfl, rfl, rfl, by decide +kernel, rfl, by decide +kernel, by decide +kernel⟩
def sp_cmp (K : PySem.W.Frag) (CP CM : Addr) : Sp := fun vs H Q E => ∃ (G : Hp) (R : List (Addr × HO)) (p : Addr) (W : List (Str × Str)) (ss : List Sd), vs = [.ref p] ∧ Own G H R ∧ Prg K CP G p W ss ∧
  (cntS (knW W).length ss ≤ 20000 → ∀ (G' H' : Hp) (q : Addr) (Ls : List (Addr × List V)) (kS : List Str), kS.Perm (knW W) → sortedS kS = true → Same G G' → Own G' H' ((q, .lst (Ls.map fun l => V.ref l.1)) :: (E2 Ls ++ R)) → Ls.length = ss.length →
    (∀ (i : Nat) (l : Addr × List V) (s : Sd), Ls[i]? = some l → ss[i]? = some s → ∃ ds, DtL K G' l.2 ds ∧ RowsC kS ss s ds) → Q (.ref q) H') ∧
  (20000 < cntS (knW W).length ss → ∀ (d' : Addr) (G' H' : Hp), Same G G' → Own G' H' R → G' d' = some (.xd [("count", .int (cntS (knW W).length ss : Nat))]) → E (.ref CM) (some d') H')
theorem ok_cmp {f : Addr} {fd : FuncData} (F : Fun K "compiled" "compiled" s_compiled f fd) (B : Btt mg) (T : Tc K mg kw C D) (Z0 : Dp K CP) (C_step : Cal P w K mg base k "step" ["program", "at", "marks"] (sp_stp K CP)) (C_all_marks : Cal P w K mg base k "all_marks" ["known", "many"] (sp_alm K))
    (X_TooMany : XkF P w K mg base k "TooMany" "count" CM D) : FnG P w K mg base (k + 2) f fd ["program"] (sp_cmp K CP CM) := by
  refine fnG_of F sc_compiled (fun vs H Q E h => ?_) (fun cdv A outer s H vs Q E r h => ?_)
  · obtain ⟨_, _, _, _, _, rfl, _⟩ := h
    rfl
  · obtain ⟨G, R, p, W, ss, rfl, O, pg, q, qE⟩ := h
    replace C_step := C_step.up (show k ≤ k + 1 by omega)
    replace C_all_marks := C_all_marks.up (show k ≤ k + 1 by omega)
    obtain ⟨dx, wv, sv, rd, m, tv, Pg⟩ := id pg
    have wl := Pg.okw.l4
    have o1 := Pg.oks.l1
    have o2 := Pg.oks.l2
    obtain ⟨wa, wx, rfl, hwa, hwx⟩ := dt_sqT Pg.wy
    obtain ⟨sa, sx, rfl, hsa, hsx⟩ := dt_sqT Pg.st
    have lw : wx.length = W.length := by rw [hwx.length, List.length_map]
    have ls : sx.length = ss.length := by rw [hsx.length, List.length_map]
    have kl5 := knW_len Pg.okw
    have m5 : m ≤ 5 := by
      obtain ⟨s0, hs0, rfl⟩ := Pg.mo.2
      exact (Pg.oks.sd s0 hs0).sl
    refine ⟨_, (pss_cons (ps_set (i := 1) sc_compiled.nd rfl (Or.inr rfl) (pe_callB (cSortedK (K := K) rfl) (by rfl) B.sorted (by decide +kernel) (pa_cons (pe_op (oAddK (K := K) rfl) (d_lst (pa_cons (C8.pe_gc (by rfl) T.SAME) pa_nil)) (pe_lc (own := [("name", 7), ("back", 11)]) rfl sc_compiled.nd (pi_sqK (K := K) rfl (pe_fldK (K := K) rfl (pv 0) rfl)) (blkOk_by (N := ["program", "known", "counts", "_", "count", "at", "standing", "name", "seats", "cases", "marks", "back"]) (sc := defScope s_compiled) (by decide +kernel)) (fun _ _ _ _ _ => (pg_tupK (K := K) (n := 2) rfl rfl (pgs_cons (pg_name (i := 7) sc_compiled.nd rfl (Or.inl rfl)) (pgs_cons (pg_name (i := 11) sc_compiled.nd rfl (Or.inl rfl)) pgs_nil)))) (fun _ _ _ _ _ => pts_nil) (fun _ _ _ _ _ => (pv 7)))) pa_nil)))
       (pss_cons (ps_set (i := 2) sc_compiled.nd rfl (Or.inr rfl) (d_lst (pa_cons pe_int pa_nil)))
       (pss_cons (ps_for (passes_of rfl) rfl (pi_range1 (by rfl) B.range (pa_cons (pe_fldK (K := K) rfl (pv 0) rfl) pa_nil)) (pg_name (i := 3) sc_compiled.nd rfl (Or.inl rfl))
       (pss_one (ps_expr (pe_bmK' (K := K) rfl PySem.F.plainAttrs_list PySem.F.slot_list_append PySem.F.type_list_append mApp (pv 2) (pa_cons (pe_op oMul (pe_ix (ixK (K := K) rfl) (pv 2) (pe_un un_neg pe_int) (fun _ _ => rfl)) (pe_callB (cLenK (K := K) rfl) (by rfl) B.len (by decide +kernel) (pa_cons (pv 1) pa_nil))) pa_nil)))))
       (pss_cons (ps_set (i := 4) sc_compiled.nd rfl (Or.inl rfl) (pe_callB (cSumK (K := K) rfl rfl) (by rfl) B.sum (by decide +kernel) (pa_cons (pe_lc (own := [("name", 7), ("seats", 8), ("cases", 9)]) rfl sc_compiled.nd (pi_sqK (K := K) rfl (pe_fldK (K := K) rfl (pv 0) rfl)) (blkOk_by (N := ["program", "known", "counts", "_", "count", "at", "standing", "name", "seats", "cases", "marks", "back"]) (sc := defScope s_compiled) (by decide +kernel)) (fun _ _ _ _ _ => (pg_tupK (K := K) (n := 3) rfl rfl (pgs_cons (pg_name (i := 7) sc_compiled.nd rfl (Or.inl rfl)) (pgs_cons (pg_name (i := 8) sc_compiled.nd rfl (Or.inl rfl)) (pgs_cons (pg_name (i := 9) sc_compiled.nd rfl (Or.inl rfl)) pgs_nil))))) (fun _ _ _ _ _ => pts_nil) (fun _ _ _ _ _ => (pe_ix (ixK (K := K) rfl) (pv 2) (pe_callB (cLenK (K := K) rfl) (by rfl) B.len (by decide +kernel) (pa_cons (pv 8) pa_nil)) (fun _ _ => rfl)))) pa_nil)))
       (pss_cons (ps_if (pt_cmpR oGt (pv 4) (C8.pe_gc (by rfl) T.MOST_ROWS) (nomark _))
       (pss_one (ps_raise rfl (takes_of rfl rfl rfl rfl) (g_err X_TooMany.er r (by rfl) passL (pa_cons (pv 4) pa_nil))))
       pss_nil)
       (pss_one (ps_ret (pe_lc (own := [("at", 5), ("standing", 6)]) rfl sc_compiled.nd (pi_enumA (by rfl) B.enumerate (pa_cons (pe_fldK (K := K) rfl (pv 0) rfl) pa_nil)) (blkOk_by (N := ["program", "known", "counts", "_", "count", "at", "standing", "name", "seats", "cases", "marks", "back"]) (sc := defScope s_compiled) (by decide +kernel)) (fun _ _ _ _ _ => (pg_tupK (K := K) (n := 2) rfl rfl (pgs_cons (pg_name (i := 5) sc_compiled.nd rfl (Or.inr rfl)) (pgs_cons (pg_name (i := 6) sc_compiled.nd rfl (Or.inl rfl)) pgs_nil)))) (fun _ _ _ _ _ => pts_nil) (fun _ _ _ _ _ => (pe_lc (own := [("marks", 10)]) rfl sc_compiled.nd (pi_sqK (K := K) rfl (g_call C_all_marks r (by rfl) passL (pa_cons (pv 1) (pa_cons (pe_callB (cLenK (K := K) rfl) (by rfl) B.len (by decide +kernel) (pa_cons (pe_ix (ixK (K := K) rfl) (pv 6) pe_int (fun _ _ => rfl)) pa_nil)) pa_nil)))) (blkOk_in (N := ["program", "known", "counts", "_", "count", "at", "standing", "name", "seats", "cases", "marks", "back"]) (sc := defScope s_compiled) rfl rfl (by decide +kernel)) (fun _ _ _ _ _ => (pg_name (i := 10) sc_compiled.nd rfl (Or.inl rfl))) (fun _ _ _ _ _ => pts_nil) (fun _ _ _ _ _ => (d_tup (pa_cons (pv 10) (pa_starK (K := K) rfl (g_call C_step r (by rfl) passL (pa_cons (pv 0) (pa_cons (pv 5) (pa_cons (pv 10) pa_nil)))) pa_nil)))))))))))))), ?_⟩
    try dsimp only [cxOf]
    refine x_start (σ' := [some _, none, none, none, none, none, none, none, none, none, none, none]) rfl ?_
    walk_at "s"
    refine ⟨by show 1 ≤ sizeLine; decide, x_fix O fun p1 G1 H1 s1 O1 e1 => ?_⟩
    walk_at "s"
    refine x_fldI (O1.sub _ _ (s1 _ _ Pg.at_)) Z0.cl Z0.ways p_ways ?_
    refine x_sqT (O1.set (same_t s1 hwa)) ?_
    refine lc_map (by walk_at "n") walk_tup O1 (by omega) (fun _ i y => ((keysW W).map V.str)[i]? = some y) (fun _ _ _ _ _ z => z) (fun G' H' D acc s' O' => O'.set (same_t (s1.trans s') hwa)) ?_ gm_tup2 ?_
    · rintro i x G' H' H2' D acc hi s' O' ⟨rfl, ex⟩ kk
      obtain ⟨t, et, ht⟩ := dtl_mapAt hwx ex
      obtain ⟨c, rfl, hc⟩ := dt_wp ht
      refine x_gT (O'.set (same_t (s1.trans s') hc)) rfl ?_
      refine x_gC ?_
      walk_at "n1"
      refine x_gC ?_
      walk_at "n1"
      refine x_gNl ?_
      refine ⟨by walk_at "n", ?_⟩
      walk_at "s"
      refine kk _ _ _ (Same.refl _) O' ?_
      unfold keysW
      rw [List.getElem?_map, List.getElem?_map, et]
      rfl
    intro G2 H2 p2 ys s2 O2 e2 l2 r2
    obtain rfl := ext_map (by rw [l2, lw]; unfold keysW; rw [List.length_map, List.length_map]) r2
    walk_at "s"
    refine x_addl (O2.sub _ _ (s2 _ _ e1)) (O2.sub _ _ e2) (by rw [List.length_map]; unfold keysW; rw [List.length_map, sizeLine_eq]; simp; omega) (x_fix O2 fun p3 G3 H3 s3 O3 e3 => ?_)
    have e3 : G3 p3 = some (.lst ((knW W).map V.str)) := e3
    walk_at "s"
    refine x_sortedS (SqL.of (O3.sub _ _ e3)) (by omega) fun kS pm sS => x_fix O3 fun kp G4 H4 s4 O4 e4 => ?_
    have lk : kS.length = (knW W).length := pm.length_eq
    have s14 := s1.trans (s2.trans (s3.trans s4))
    walk_at "s"
    refine ⟨by show 1 ≤ sizeLine; decide, x_new O4 fun cp H5 O5 => ?_⟩
    walk_at "s"
    refine x_fldI (O5.sub _ _ (s14 _ _ Pg.at_)) Z0.cl Z0.most p_most ?_
    refine x_rg (by omega) (by omega) ?_
    refine for_own walk_range O5 (fun i σ' G' L' => ∃ (x3 : Option V), L' = (cp, .lst ((List.range (i + 1)).map fun j => V.int ((kS.length ^ j : Nat) : Int))) :: R ∧ σ' = [some (.ref p), some (.ref kp), some (.ref cp), x3, none, none, none, none, none, none, none, none])
      ⟨none, rfl, rfl⟩ (fun _ _ _ _ _ _ _ _ => True.intro) ?_ ?_
    · rintro i x σ' G' H' H2' L' hi s' O' ⟨x3, rfl, rfl⟩ ⟨rfl, rfl⟩
      have hi5 : i < 5 := by omega
      walk_at "s"
      refine ⟨ty_l (SqL.of O'.at0), ?_⟩
      walk_at "s"
      refine x_ixl (v := .int ((kS.length ^ i : Nat) : Int)) (SqL.of O'.at0) (atI_neg1 (by rw [List.length_map, List.length_range, Nat.add_sub_cancel, List.getElem?_map, List.getElem?_range (by omega)]; rfl)) ?_
      walk_at "s"
      refine x_lenl (SqL.of (O'.sub _ _ (s' _ _ e4))) ?_
      rw [List.length_map]
      have pl := pow_le5 (n := kS.length) (m := i) (by omega) (by omega)
      refine x_mul (.inr ⟨by omega, by omega⟩) ?_
      walk_at "s"
      refine x_app O'.at0 (by rw [List.length_map, List.length_range, sizeLine_eq]; omega) (x_md0 O' fun H6 O6 => ?_)
      walk_at "s"
      refine fvh s' O6 ⟨_, ?_, rfl⟩
      rw [List.range_succ (n := i + 1), List.map_append, List.map_singleton, Nat.pow_succ, Int.natCast_mul]
    · rintro σ' G5 H5' L' s5 O5' ⟨x3, rfl, rfl⟩
      rw [show ((m : Nat) : Int).toNat = m from Int.toNat_natCast m] at O5'
      have sn := Same.new (o := .lst ((List.range (m + 1)).map fun j => V.int ((kS.length ^ j : Nat) : Int))) (O5'.no0)
      have O6 := O5'.frz0
      have ec : upd G5 cp (.lst ((List.range (m + 1)).map fun j => V.int ((kS.length ^ j : Nat) : Int))) cp = some (.lst ((List.range (m + 1)).map fun j => V.int ((kS.length ^ j : Nat) : Int))) := upd_same
      generalize upd G5 cp (.lst ((List.range (m + 1)).map fun j => V.int ((kS.length ^ j : Nat) : Int))) = G6 at sn O6 ec
      have s16 := s14.trans (s5.trans sn)
      walk_at "s"
      refine x_fldI (O6.sub _ _ (s16 _ _ Pg.at_)) Z0.cl Z0.standings p_standings ?_
      refine x_sqT (O6.set (same_t s16 hsa)) ?_
      refine lc_map (by walk_at "n") walk_tup O6 (by omega) (fun _ i y => (ss.map fun s => V.int ((kS.length ^ s.st.length : Nat) : Int))[i]? = some y) (fun _ _ _ _ _ z => z) (fun G' H' D acc s' O' => O'.set (same_t (s16.trans s') hsa)) ?_ gm_tup3 ?_
      · rintro i x G' H' H2' D acc hi s' O' ⟨rfl, ex⟩ kk
        obtain ⟨sd, es, hs⟩ := dtl_mapAt hsx ex
        obtain ⟨b, v2, v3, rfl, hb, h2, h3⟩ := dt_sd hs
        obtain ⟨b2, rfl, hb2⟩ := dt_strsT (show Dt K G v2 (.tuple (sd.st.map .str)) from h2)
        have s6' := s16.trans s'
        have lm := Pg.mo.1 sd (List.mem_of_getElem? es)
        refine x_gT (O'.set (same_t s6' hb)) rfl ?_
        refine x_gC ?_
        walk_at "n1"
        refine x_gC ?_
        walk_at "n1"
        refine x_gC ?_
        walk_at "n1"
        refine x_gNl ?_
        refine ⟨by walk_at "n", ?_⟩
        walk_at "s"
        refine x_lent (O'.set (same_t s6' hb2)) ?_
        rw [List.length_map]
        refine x_ixl (v := .int ((kS.length ^ sd.st.length : Nat) : Int)) (SqL.of (O'.sub _ _ (s' _ _ ec))) (atI_nat (by rw [List.getElem?_map, List.getElem?_range (by omega)]; rfl)) ?_
        exact kk _ _ _ (Same.refl _) O' (by rw [List.getElem?_map, es]; rfl)
      intro G7 H7 p7 ys7 s7 O7 e7 l7 r7
      obtain rfl := ext_map (by rw [l7, ls, List.length_map]) r7
      walk_at "s"
      refine ⟨p7, ss.map fun s => ((kS.length ^ s.st.length : Nat) : Int), rfl, SqL.of (by rw [List.map_map]; exact O7.sub _ _ e7), ?_⟩
      rw [sum_cast (fun s => kS.length ^ s.st.length), lk]
      rw [show (ss.map fun s => (knW W).length ^ s.st.length).sum = cntS (knW W).length ss from rfl]
      walk_at "s"
      have s17 := s16.trans s7
      refine ite_b (fun c => ?_) (fun c => ?_)
      · have c := of_decide_eq_true c
        walk_at "s"
        refine x_raiseF O7 fun d' G8 H8 s8 O8 e8 => ?_
        exact qE (by omega) d' G8 H8 (s17.trans s8) O8 e8
      have c := of_decide_eq_false c
      walk_at "s"
      refine x_fldI (O7.sub _ _ (s17 _ _ Pg.at_)) Z0.cl Z0.standings p_standings ?_
      walk_at "s"
      refine x_enS O7 (.inr (same_t s17 hsa)) fun J Gd Wk hG => ?_
      have s47 := s5.trans (sn.trans s7)
      refine lc_listsO (by walk_at "n") Wk O7 (by omega) (fun G' i ys => ∀ s, ss[i]? = some s → ∃ ds, DtL K G' ys ds ∧ RowsC kS ss s ds) (fun G G' i y s h z e => let ⟨ds, a, b⟩ := h z e; ⟨ds, a.mono s, b⟩) hG ?_ gm_tup2 ?_
      · rintro i x G8 H8 H8' D8 acc8 L8 hi s8 O8 ⟨T5, y1, y2, rfl, hT, rfl, e1', e2'⟩ kk
        cases e1'
        have e2' : sx[i]? = some y2 := e2'
        obtain ⟨sd, es, hs⟩ := dtl_mapAt hsx e2'
        obtain ⟨b, v2, v3, rfl, hb, h2, h3⟩ := dt_sd hs
        obtain ⟨b2, rfl, hb2⟩ := dt_strsT (show Dt K G v2 (.tuple (sd.st.map .str)) from h2)
        have sl5 := (Pg.oks.sd sd (List.mem_of_getElem? es)).sl
        obtain ⟨G9, H9, s9, O9, e9, hH9⟩ := new_pair O8 hT
        rw [hH9]
        have s19 := s17.trans (s8.trans s9)
        refine x_gT (SqT.of (O9.sub _ _ e9)) rfl ?_
        refine x_gC ?_
        walk_at "n1"
        refine x_gC ?_
        walk_at "n1"
        refine x_gNl ?_
        refine ⟨by walk_at "n", ?_⟩
        walk_at "s"
        refine x_ixt (v := .ref b2) (O9.set (same_t s19 hb)) rfl ?_
        walk_at "s"
        refine x_lent (O9.set (same_t s19 hb2)) ?_
        rw [List.length_map]
        refine ⟨G9, _, kp, kS, sd.st.length, rfl, O9, SqL.of ((s47.trans (s8.trans s9)) _ _ e4), by omega, sl5, fun Ga Ha qa As sa Oa ea tA eA => ?_⟩
        have lA : As.length ≤ 3125 := by rw [← List.length_map (f := (·.2)) (as := As), eA]; exact allM_le (by omega) sl5
        refine x_sqL (SqL.of (Oa.sub _ _ ea)) ?_
        have s1a := s19.trans sa
        refine lc_mapO (by walk_at "n") walk_list Oa (by rw [List.length_map]; omega) (fun G' j y => ∀ mk, (As.map (·.2))[j]? = some mk → ∃ d, Dt K G' y d ∧ RowC ss sd mk d) (fun G G' i y s h z e => let ⟨d, a, b⟩ := h z e; ⟨d, a.mono s, b⟩) (fun G' H' D acc s' O' => SqL.of (O'.sub _ _ (s' _ _ ea))) ?_ gm_name ?_
        · rintro j x Gb Hb Hb' Db accb hj sb Ob ⟨rfl, exb⟩ kkb
          obtain ⟨t, rfl, et⟩ := ref_at exb
          have gt := sb _ _ (tA t (List.mem_of_getElem? et))
          have mt : t.2 ∈ allM kS sd.st.length := by rw [← eA]; exact List.mem_map.mpr ⟨t, List.mem_of_getElem? et, rfl⟩
          walk_at "s"
          refine ⟨Gb, _, p, t.1, i, W, ss, sd, t.2, rfl, Ob, pg.same (s1a.trans sb), es, SqT.of gt, (allM_mem mt).1, fun Gc Hc vc jc cc sc Oc cA dc => ?_⟩
          obtain ⟨vt, vx, rfl, hvt, hvx⟩ := dt_tup dc
          have lvx : vx.length = 3 := hvx.length
          refine ⟨vt, vx, rfl, .inl (Oc.set hvt), ?_⟩
          walk_at "s"
          refine ⟨by show (V.ref t.1 :: (vx ++ [])).length ≤ _; rw [List.length_cons, List.length_append, lvx, sizeLine_eq]; simp, x_fix Oc fun pd Gd' Hd sd' Od ed => ?_⟩
          refine kkb _ _ _ (sc.trans sd') Od fun mk emk => ?_
          rw [List.getElem?_map, et] at emk
          cases emk
          refine ⟨_, .tup (SqT.of ed) (.cons (.tup (SqT.of (sc.trans sd' _ _ gt)) (strs_dtl _)) ?_), jc, cc, cA, rfl⟩
          rw [List.append_nil]
          exact hvx.mono sd'
        intro Gb Hb pb ysb sb Ob lb rb
        refine kk Gb Hb pb ysb (s9.trans (sa.trans sb)) Ob fun s es' => ?_
        · rw [es] at es'
          cases es'
          obtain ⟨ds, hds⟩ : ∃ ds : List PyData, ds.length = ysb.length ∧ ∀ (j : Nat) (y : V) (d : PyData), ysb[j]? = some y → ds[j]? = some d → ∃ mk, (As.map (·.2))[j]? = some mk ∧ Dt K Gb y d ∧ RowC ss sd mk d := by
            have : ∀ (n : Nat), n ≤ ysb.length → ∃ ds : List PyData, ds.length = n ∧ ∀ (j : Nat) (y : V) (d : PyData), ysb[j]? = some y → ds[j]? = some d → ∃ mk, (As.map (·.2))[j]? = some mk ∧ Dt K Gb y d ∧ RowC ss sd mk d := by
              intro n
              induction n with
              | zero => exact fun _ => ⟨[], rfl, fun j y d _ e => by simp at e⟩
              | succ n ih =>
                intro hn
                obtain ⟨ds, h1, h2⟩ := ih (by omega)
                have hmk : n < (As.map (·.2)).length := by rw [List.length_map]; rw [List.length_map] at lb; omega
                obtain ⟨d, hd1, hd2⟩ := rb n ysb[n] (List.getElem?_eq_getElem (by omega)) _ (List.getElem?_eq_getElem hmk)
                refine ⟨ds ++ [d], by rw [List.length_append, h1]; rfl, fun j y d' ey ed => ?_⟩
                rcases Nat.lt_trichotomy j n with h | h | h
                · rw [List.getElem?_append_left (by omega)] at ed
                  exact h2 j y d' ey ed
                · subst h
                  rw [← h1, List.getElem?_append_right (Nat.le_refl _), Nat.sub_self] at ed
                  cases ed
                  rw [List.getElem?_eq_getElem (by omega)] at ey
                  cases ey
                  exact ⟨_, List.getElem?_eq_getElem hmk, hd1, hd2⟩
                · rw [List.getElem?_eq_none (by rw [List.length_append, h1]; simp; omega)] at ed
                  cases ed
            exact this _ (Nat.le_refl _)
          rw [List.length_map] at lb
          have lAm : As.length = (allM kS sd.st.length).length := by rw [← eA, List.length_map]
          have dd : DtL K Gb ysb (ds.map id) := dtl_map (by rw [hds.1]) fun j y d e1 e2 => by
            obtain ⟨_, _, h, _⟩ := hds.2 j y d e1 e2
            exact h
          rw [List.map_id] at dd
          refine ⟨ds, dd, by rw [hds.1, lb, lAm], fun j mk d e1 e2 => ?_⟩
          have hj : j < ysb.length := by rw [← hds.1]; exact (List.getElem?_eq_some_iff.mp e2).1
          obtain ⟨mk', e3, _, h⟩ := hds.2 j _ d (List.getElem?_eq_getElem hj) e2
          rw [eA, e1] at e3
          cases e3
          exact h
      intro G8 H8 p8 Ls s8 O8 l8 r8
      exact q (by omega) G8 H8 p8 Ls kS pm sS (s17.trans s8) O8 (by rw [l8, ls]) fun i l s e1 e2 => r8 i l e1 s e2
end
end
section
open PySem PySem.Spec PyProof.Rows L2 G
set_option maxHeartbeats 4000000
theorem x_midS {σ : L2.St} {H : Hp} {t u : TS} {n b1 c1 : L2.St → Hp → Prop} {r1 : VK} (J : L2.St → Hp → Prop) (h1 : ∀ n' : L2.St → Hp → Prop, (∀ σ H, J σ H → n' σ H) → t ⟨n', r1, b1, c1⟩ σ H) (h2 : ∀ σ H, J σ H → u ⟨n, r1, b1, c1⟩ σ H) : tSeq t u ⟨n, r1, b1, c1⟩ σ H := h1 _ h2
structure NmL (m : Nat) (ns : List Str) : Prop where
  len : ns.length = m
  nm : ∀ x ∈ ns, Nm x
  nd : ns.Nodup
/-- names that may be words of the texts yet, these of at most 7 letters -/
structure NmC (m : Nat) (ns : List Str) : Prop where
  len : ns.length = m
  nd : ns.Nodup
  wd : ∀ x ∈ ns, Wd x
  or_ : (∀ x ∈ ns, x.length ≤ 7) ∨ ∀ x ∈ ns, wKept.contains x = false
theorem kept_last : ∀ w ∈ wKept, w.cps.toList.getLast? ≠ some 120 := by decide +kernel
theorem kept_head : ∀ w ∈ wKept, w.cps.toList.head? ≠ some 120 := by decide +kernel
abbrev wX : Str := Str.ofString "x"
theorem x_cps : wX.cps.toList = [120] := by decide +kernel
theorem not_keptL (x : Str) : wKept.contains (x ++ wX) = false := by
  cases e : wKept.contains (x ++ wX) with
  | false => rfl
  | true => exact absurd (by rw [tl_app, x_cps, List.getLast?_append]; rfl) (kept_last _ (List.contains_iff_mem.mp e))
theorem not_keptH (x : Str) : wKept.contains (wX ++ x) = false := by
  cases e : wKept.contains (wX ++ x) with
  | false => rfl
  | true => exact absurd (by rw [tl_app, x_cps]; rfl) (kept_head _ (List.contains_iff_mem.mp e))
theorem lx_x : Lx 1 wX := ⟨rfl, fun c hc => by
  rw [x_cps, List.mem_singleton] at hc
  rw [hc]
  unfold isLetter
  decide⟩
theorem Lx.wd {n : Nat} {x : Str} (h : Lx n x) (h1 : 1 ≤ n) (h8 : n ≤ 8) : Wd x := ⟨by rw [h.1]; exact h1, by rw [h.1]; exact h8, h.2⟩
theorem Wd.nm {x : Str} (h : Wd x) (f : wKept.contains x = false) : Nm x := ⟨h.l1, h.l8, h.let_, f⟩
theorem str_app_inj {x y z : Str} (h : x ++ z = y ++ z) : x = y := by
  have := congrArg (fun s : Str => s.cps.toList) h
  simp only [tl_app] at this
  exact PySem.W.str_of_cps (List.append_cancel_right this)
theorem NmC.fin {m : Nat} {ns : List Str} (h : NmC m ns) : NmL m (if ns.filter (fun x => wKept.contains x) = [] then ns else ns.map (· ++ wX)) := by
  split
  · rename_i e
    exact ⟨h.len, fun x hx => (h.wd x hx).nm (by
      cases c : wKept.contains x with
      | false => rfl
      | true =>
        have : x ∈ ns.filter (fun x => wKept.contains x) := List.mem_filter.mpr ⟨hx, c⟩
        rw [e] at this
        cases this), h.nd⟩
  · rename_i e
    have l7 : ∀ x ∈ ns, x.length ≤ 7 := h.or_.resolve_right fun z => e (List.filter_eq_nil_iff.mpr fun x hx => by rw [z x hx]; exact Bool.false_ne_true)
    refine ⟨by rw [List.length_map, h.len], fun y hy => ?_, ?_⟩
    · obtain ⟨x, hx, rfl⟩ := List.mem_map.mp hy
      have wx := h.wd x hx
      have : Lx (x.length + 1) (x ++ wX) := (show Lx x.length x from ⟨rfl, wx.let_⟩).app lx_x
      exact (this.wd (by omega) (by have := l7 x hx; omega)).nm (not_keptL x)
    · exact List.pairwise_map.mpr (h.nd.imp fun hne e => hne (str_app_inj e))
theorem nmc_of {m : Nat} {f : Nat → Str} (hw : ∀ i, i < m → Wd (f i)) (inj : ∀ i j, i < m → j < m → f i = f j → i = j) (o : (∀ i, i < m → (f i).length ≤ 7) ∨ ∀ i, i < m → wKept.contains (f i) = false) : NmC m ((List.range m).map f) := by
  refine ⟨by rw [List.length_map, List.length_range], ?_, fun x hx => ?_, ?_⟩
  · refine List.pairwise_map.mpr (List.Pairwise.imp_of_mem (fun ha hb hne e => hne (inj _ _ (List.mem_range.mp ha) (List.mem_range.mp hb) e)) (List.nodup_range))
  · obtain ⟨i, hi, rfl⟩ := List.mem_map.mp hx
    exact hw i (List.mem_range.mp hi)
  · rcases o with o | o
    · exact .inl fun x hx => by
        obtain ⟨i, hi, rfl⟩ := List.mem_map.mp hx
        exact o i (List.mem_range.mp hi)
    · exact .inr fun x hx => by
        obtain ⟨i, hi, rfl⟩ := List.mem_map.mp hx
        exact o i (List.mem_range.mp hi)
def ltS (z i : Nat) : Str := ⟨#[97 + (z + 5 * i) % 26]⟩
theorem lt_lx (z i : Nat) : Lx 1 (ltS z i) := lx_1 (Nat.mod_lt _ (by decide))
theorem lt_cps (z i : Nat) : (ltS z i).cps.toList = [97 + (z + 5 * i) % 26] := rfl
/-- stem, letter, tail -/
theorem nmA {m n1 n2 z : Nat} {s t : Str} (hs : Lx n1 s) (ht : Lx n2 t) (h1 : n1 ≤ 4) (h2 : n2 ≤ 2) (hm : m ≤ 26) : NmC m ((List.range m).map fun i => s ++ ltS z i ++ t) := by
  have lx : ∀ i, Lx (n1 + 1 + n2) (s ++ ltS z i ++ t) := fun i => (hs.app (lt_lx z i)).app ht
  refine nmc_of (fun i _ => (lx i).wd (by omega) (by omega)) (fun i j hi hj e => ?_) (.inl fun i _ => by rw [(lx i).1]; omega)
  have := congrArg (fun x : Str => x.cps.toList) e
  simp only [tl_app, List.append_assoc] at this
  have h3 := List.append_cancel_left this
  rw [lt_cps, lt_cps] at h3
  have := (List.cons.inj h3).1
  omega
theorem cut_pre {x : Str} {n j : Nat} (h : Lx n x) : Lx (min j n) (cutS x none (some (j : Int))) := by
  have hc : (cutS x none (some (j : Int))).cps.toList = x.cps.toList.take (min j n) := by
    unfold cutS
    rw [HT.sIx_nat, HT.sIx_none, List.drop_zero, Nat.sub_zero, h.1]
  refine ⟨?_, fun c hc' => h.2 c (List.mem_of_mem_take (by rw [hc] at hc'; exact hc'))⟩
  rw [len_l, hc, List.length_take, ← len_l, h.1]
  omega
theorem cut_mid {x : Str} {n j : Nat} (h : Lx n x) (h1 : 1 ≤ n) (hj : j + 1 ≤ n) : Lx j (cutS x (some 1) (some ((j + 1 : Nat) : Int))) := by
  have e1 : HT.sIx x.length 0 (some 1) = 1 := by
    rw [show (1 : Int) = ((1 : Nat) : Int) from rfl, HT.sIx_nat, h.1]
    omega
  have hc : (cutS x (some 1) (some ((j + 1 : Nat) : Int))).cps.toList = (x.cps.toList.drop 1).take j := by
    unfold cutS
    rw [e1, HT.sIx_nat, h.1, show min (j + 1) n - 1 = j by omega]
  refine ⟨?_, fun c hc' => h.2 c (List.mem_of_mem_drop (List.mem_of_mem_take (by rw [hc] at hc'; exact hc')))⟩
  rw [len_l, hc, List.length_take, List.length_drop, ← len_l, h.1]
  omega
/-- letter, a part of the stem -/
theorem nmCs {m n1 z : Nat} {s : Str} (hs : Lx n1 s) (h1 : n1 ≤ 4) (hm : m ≤ 26) : NmC m ((List.range m).map fun i => ltS z i ++ cutS s none (some (((3 * i % 5 : Nat)) : Int))) := by
  have lx : ∀ i, Lx (1 + min (3 * i % 5) n1) (ltS z i ++ cutS s none (some (((3 * i % 5 : Nat)) : Int))) := fun i => (lt_lx z i).app (cut_pre hs)
  refine nmc_of (fun i _ => (lx i).wd (by omega) (by omega)) (fun i j hi hj e => ?_) (.inl fun i _ => by rw [(lx i).1]; omega)
  have := congrArg (fun x : Str => x.cps.toList) e
  simp only [tl_app] at this
  rw [lt_cps, lt_cps] at this
  have := (List.cons.inj this).1
  omega
theorem nmB {m : Nat} {s : Str} (hs : Lx 8 s) (hm : m < 9) (hf : ((List.range m).map fun i => cutS s none (some ((i + 1 : Nat) : Int))).filter (fun x => wKept.contains x) = []) : NmC m ((List.range m).map fun i => cutS s none (some ((i + 1 : Nat) : Int))) := by
  have lx : ∀ i, i < m → Lx (i + 1) (cutS s none (some ((i + 1 : Nat) : Int))) := fun i hi => by
    have := cut_pre (j := i + 1) hs
    rwa [show min (i + 1) 8 = i + 1 by omega] at this
  refine nmc_of (fun i hi => (lx i hi).wd (by omega) (by omega)) (fun i j hi hj e => ?_) (.inr fun i hi => ?_)
  · have h1 := (lx i hi).1
    have h2 := (lx j hj).1
    rw [e, h2] at h1
    omega
  · have := List.filter_eq_nil_iff.mp hf _ (List.mem_map.mpr ⟨i, List.mem_range.mpr hi, rfl⟩)
    simpa using this
theorem nmX {m : Nat} {s : Str} (hs : Lx 8 s) (hm : m < 9) : NmC m ((List.range m).map fun i => wX ++ cutS s (some 1) (some ((i + 1 : Nat) : Int))) := by
  have lx : ∀ i, i < m → Lx (1 + i) (wX ++ cutS s (some 1) (some ((i + 1 : Nat) : Int))) := fun i hi => lx_x.app (cut_mid hs (by decide) (by omega))
  refine nmc_of (fun i hi => (lx i hi).wd (by omega) (by omega)) (fun i j hi hj e => ?_) (.inr fun i hi => not_keptH _)
  have h1 := (lx i hi).1
  have h2 := (lx j hj).1
  rw [e, h2] at h1
  omega
theorem filt_str {ns : List Str} {p : V → Bool} {p' : Str → Bool} (h : ∀ x, p (.str x) = p' x) : (ns.map V.str).filter p = (ns.filter p').map V.str := by
  induction ns with
  | nil => rfl
  | cons x ns ih =>
    rw [List.map_cons, List.filter_cons, List.filter_cons, h, ih]
    split <;> rfl
theorem perm_mapf {α β : Type} {f : α → β} : ∀ {xs : List α} {ys : List β}, ys.Perm (xs.map f) → ∃ zs : List α, ys = zs.map f ∧ zs.Perm xs
  | [], ys, h => ⟨[], List.Perm.eq_nil h, .nil⟩
  | x :: xs, ys, h => by
    have hm : f x ∈ ys := h.symm.mem_iff.mp List.mem_cons_self
    obtain ⟨s, t, rfl⟩ := List.append_of_mem hm
    have h2 : (s ++ t).Perm (xs.map f) := (List.perm_cons (f x)).mp ((List.perm_middle.symm).trans h)
    obtain ⟨zs, e, hz⟩ := perm_mapf h2
    obtain ⟨z1, z2, rfl, rfl, rfl⟩ := List.append_eq_map_iff.mp e
    exact ⟨z1 ++ x :: z2, by rw [List.map_append, List.map_cons], List.perm_middle.trans (List.Perm.cons x hz)⟩
theorem nml_perm {m : Nat} {ns ns' : List Str} (h : NmL m ns) (p : ns'.Perm ns) : NmL m ns' := ⟨p.length_eq.trans h.len, fun x hx => h.nm x (p.mem_iff.mp hx), p.nodup_iff.mpr h.nd⟩
def tabB : V → Bool := fun x => match x with
  | .str z => wKept.contains z
  | _ => false
theorem tab_filt (ns : List Str) : (ns.map V.str).filter tabB = (ns.filter fun x => wKept.contains x).map V.str := filt_str fun _ => rfl
theorem emp_map {α : Type} {f : α → V} {l : List α} : (l.map f).isEmpty = l.isEmpty := by cases l <;> rfl
section
variable {P : Program} {w : World} {K : PySem.W.Frag} {mg : Str → Option Value} {base : Heap} {k : Nat} {kw C D CW : Addr}
abbrev s__law_taboo : Stmt := top 45
theorem sc__law_taboo : FnScope ["words"] [] (defScope s__law_taboo) := ⟨rfl, rfl, rfl, by decide +kernel, rfl, by decide +kernel, by decide +kernel⟩
def sp_tab : Sp := fun vs H Q _ => ∃ (G : Hp) (R : List (Addr × HO)), vs = [] ∧ Own G H R ∧ ∀ (G' H' : Hp) (p : Addr), Same G G' → Own G' H' R → G' p = some (.lst (wKept.map V.str)) → Q (.ref p) H'
theorem ok_tab {f : Addr} {fd : FuncData} (F : Fun K "_law_taboo" "_law_taboo" s__law_taboo f fd) (B : Btt mg) : FnG P w K mg base (k + 1) f fd [] sp_tab := by
  refine fnG_of F sc__law_taboo (fun vs H Q E h => ?_) (fun cdv A outer s H vs Q E r h => ?_)
  · obtain ⟨_, _, rfl, _⟩ := h
    rfl
  · obtain ⟨G, R, rfl, O, q⟩ := h
    refine ⟨_, (pss_cons (ps_set (i := 0) sc__law_taboo.nd rfl (Or.inl rfl) (d_lst (pa_cons pe_str (pa_cons pe_str (pa_cons pe_str (pa_cons pe_str (pa_cons pe_str (pa_cons pe_str (pa_cons pe_str (pa_cons pe_str (pa_cons pe_str (pa_cons pe_str (pa_cons pe_str (pa_cons pe_str (pa_cons pe_str pa_nil)))))))))))))))
       (pss_one (ps_ret (pe_op (oAddK (K := K) rfl) (pv 0) (d_lst (pa_cons pe_str (pa_cons pe_str pa_nil))))))), ?_⟩
    try dsimp only [cxOf]
    refine x_start (σ' := [none]) rfl ?_
    walk_at "s"
    refine ⟨by show 13 ≤ sizeLine; decide, x_fix O fun p1 G1 H1 s1 O1 e1 => ?_⟩
    walk_at "s"
    refine ⟨by show 2 ≤ sizeLine; decide, x_fix O1 fun p2 G2 H2 s2 O2 e2 => ?_⟩
    refine x_addl (O2.sub _ _ (s2 _ _ e1)) (O2.sub _ _ e2) (by show 13 + 2 ≤ sizeLine; decide) (x_fix O2 fun p3 G3 H3 s3 O3 e3 => ?_)
    exact q G3 H3 p3 (s1.trans (s2.trans s3)) O3 e3
abbrev s__law_names : Stmt := top 46
theorem sc__law_names : FnScope ["box", "many", "way", "stem", "tail", "shift", "long", "letters", "names", "k", "letter", "name"] ["box", "many"] (defScope s__law_names) := ⟨rfl, rfl, rfl, by decide +kernel, rfl, by decide +kernel, by decide +kernel⟩
def sp_nms : Sp := fun vs H Q _ => ∃ (G : Hp) (R : List (Addr × HO)) (b : Addr) (m N : Nat) (bx : List V), vs = [.ref b, .int (m : Nat)] ∧ Own G H ((b, .lst bx) :: R) ∧ Box (N + 60) bx ∧ m ≤ 26 ∧
  ∀ (G' H' : Hp) (p : Addr) (ns : List Str) bx', Same G G' → G' p = some (.lst (ns.map V.str)) → NmL m ns → Own G' H' ((b, .lst bx') :: R) → Box N bx' → Q (.ref p) H'
theorem ok_nms {f : Addr} {fd : FuncData} (F : Fun K "_law_names" "_law_names" s__law_names f fd) (B : Btt mg) (C__law_take : Cal P w K mg base k "_law_take" ["box", "many"] sp_take) (C__law_letters : Cal P w K mg base k "_law_letters" ["box", "many"] sp_ltr) (C__law_taboo : Cal P w K mg base k "_law_taboo" [] sp_tab) (C__law_mixed : Cal P w K mg base k "_law_mixed" ["box", "items"] (sp_mix K)) : FnG P w K mg base (k + 1) f fd ["box", "many"] sp_nms := by
  refine fnG_of F sc__law_names (fun vs H Q E h => ?_) (fun cdv A outer s H vs Q E r h => ?_)
  · obtain ⟨_, _, b, m, N, bx, rfl, _⟩ := h
    rfl
  · obtain ⟨G, R, b, m, N, bx, rfl, O, bo, m26, q⟩ := h
    refine ⟨_, (pss_cons (ps_asg (d_tup (pa_cons (g_call C__law_take r (by rfl) passL (pa_cons (pv 0) (pa_cons pe_int pa_nil))) (pa_cons (g_call C__law_letters r (by rfl) passL (pa_cons (pv 0) (pa_cons (g_call C__law_take r (by rfl) passL (pa_cons (pv 0) (pa_cons pe_int pa_nil))) pa_nil))) (pa_cons (g_call C__law_letters r (by rfl) passL (pa_cons (pv 0) (pa_cons (g_call C__law_take r (by rfl) passL (pa_cons (pv 0) (pa_cons pe_int pa_nil))) pa_nil))) pa_nil)))) (pg_tupK (K := K) (n := 3) rfl rfl (pgs_cons (pg_name (i := 2) sc__law_names.nd rfl (Or.inl rfl)) (pgs_cons (pg_name (i := 3) sc__law_names.nd rfl (Or.inr rfl)) (pgs_cons (pg_name (i := 4) sc__law_names.nd rfl (Or.inr rfl)) pgs_nil)))))
       (pss_cons (ps_asg (d_tup (pa_cons (g_call C__law_take r (by rfl) passL (pa_cons (pv 0) (pa_cons pe_int pa_nil))) (pa_cons (g_call C__law_letters r (by rfl) passL (pa_cons (pv 0) (pa_cons pe_int pa_nil))) pa_nil))) (pg_tupK (K := K) (n := 2) rfl rfl (pgs_cons (pg_name (i := 5) sc__law_names.nd rfl (Or.inr rfl)) (pgs_cons (pg_name (i := 6) sc__law_names.nd rfl (Or.inr rfl)) pgs_nil))))
       (pss_cons (ps_set (i := 7) sc__law_names.nd rfl (Or.inr rfl) (pe_lc (own := [("k", 9)]) rfl sc__law_names.nd (pi_range1 (by rfl) B.range (pa_cons (pv 1) pa_nil)) (blkOk_by (N := ["box", "many", "way", "stem", "tail", "shift", "long", "letters", "names", "k", "letter", "name"]) (sc := defScope s__law_names) (by decide +kernel)) (fun _ _ _ _ _ => (pg_name (i := 9) sc__law_names.nd rfl (Or.inl rfl))) (fun _ _ _ _ _ => pts_nil) (fun _ _ _ _ _ => (pe_ix (ixK (K := K) rfl) pe_str (pe_op op_modN (pe_callTy cInt (by rfl) B.int (by decide +kernel) (pa_cons (pe_op (oAddK (K := K) rfl) (pv 5) (pe_op oMul pe_int (pv 9))) pa_nil)) pe_int) (fun _ _ => rfl)))))
       (pss_cons (ps_setLc (i := 8) (own := [("letter", 10)]) rfl sc__law_names.nd rfl rfl (sw_true rfl rfl rfl (by decide +kernel)) (pi_sqK (K := K) rfl (pv 7)) (blkOk_by (N := ["box", "many", "way", "stem", "tail", "shift", "long", "letters", "names", "k", "letter", "name"]) (sc := defScope s__law_names) (by decide +kernel)) (fun _ _ _ _ _ => (pg_name (i := 10) sc__law_names.nd rfl (Or.inl rfl))) (fun _ _ _ _ _ => pts_nil) (fun _ _ _ _ _ => (pe_op (oAddK (K := K) rfl) (pe_op (oAddK (K := K) rfl) (pv 3) (pv 10)) (pv 4))))
       (pss_cons (ps_if (PW.pt (pw_and (pt_cmpR (oEqK (K := K) rfl r) (pv 2) pe_int (nomark _)) (pw_and1 (pt_cmpR oLt (pv 1) pe_int (nomark _)))))
       (pss_cons (ps_setLc (i := 8) (own := [("k", 9)]) rfl sc__law_names.nd rfl rfl (sw_true rfl rfl rfl (by decide +kernel)) (pi_range1 (by rfl) B.range (pa_cons (pv 1) pa_nil)) (blkOk_by (N := ["box", "many", "way", "stem", "tail", "shift", "long", "letters", "names", "k", "letter", "name"]) (sc := defScope s__law_names) (by decide +kernel)) (fun _ _ _ _ _ => (pg_name (i := 9) sc__law_names.nd rfl (Or.inl rfl))) (fun _ _ _ _ _ => pts_nil) (fun _ _ _ _ _ => (pe_slice (oSlK (K := K) rfl) (pv 6) po_none (po_some (pe_op (oAddK (K := K) rfl) (pv 9) pe_int)))))
       (pss_one (ps_if (pt_cmpR (oNeK (K := K) rfl r) (pe_lc (own := [("name", 11)]) rfl sc__law_names.nd (pi_sqK (K := K) rfl (pv 8)) (blkOk_by (N := ["box", "many", "way", "stem", "tail", "shift", "long", "letters", "names", "k", "letter", "name"]) (sc := defScope s__law_names) (by decide +kernel)) (fun _ _ _ _ _ => (pg_name (i := 11) sc__law_names.nd rfl (Or.inl rfl))) (fun _ _ _ _ _ => (pts_one (pt_cmpR (oInK (K := K) rfl) (pv 11) (g_call0 C__law_taboo r (by rfl) passL) (by rfl)))) (fun _ _ _ _ _ => (pv 11))) (d_lst pa_nil) (nomark _))
       (pss_one (ps_setLc (i := 8) (own := [("k", 9)]) rfl sc__law_names.nd rfl rfl (sw_true rfl rfl rfl (by decide +kernel)) (pi_range1 (by rfl) B.range (pa_cons (pv 1) pa_nil)) (blkOk_by (N := ["box", "many", "way", "stem", "tail", "shift", "long", "letters", "names", "k", "letter", "name"]) (sc := defScope s__law_names) (by decide +kernel)) (fun _ _ _ _ _ => (pg_name (i := 9) sc__law_names.nd rfl (Or.inl rfl))) (fun _ _ _ _ _ => pts_nil) (fun _ _ _ _ _ => (pe_op (oAddK (K := K) rfl) pe_str (pe_slice (oSlK (K := K) rfl) (pv 6) (po_some pe_int) (po_some (pe_op (oAddK (K := K) rfl) (pv 9) pe_int)))))))
       pss_nil)))
       (pss_one (ps_if (pt_cmpR (oEqK (K := K) rfl r) (pv 2) pe_int (nomark _))
       (pss_one (ps_setLc (i := 8) (own := [("k", 9)]) rfl sc__law_names.nd rfl rfl (sw_true rfl rfl rfl (by decide +kernel)) (pi_range1 (by rfl) B.range (pa_cons (pv 1) pa_nil)) (blkOk_by (N := ["box", "many", "way", "stem", "tail", "shift", "long", "letters", "names", "k", "letter", "name"]) (sc := defScope s__law_names) (by decide +kernel)) (fun _ _ _ _ _ => (pg_name (i := 9) sc__law_names.nd rfl (Or.inl rfl))) (fun _ _ _ _ _ => pts_nil) (fun _ _ _ _ _ => (pe_op (oAddK (K := K) rfl) (pe_ix (ixK (K := K) rfl) (pv 7) (pv 9) (fun _ _ => rfl)) (pe_slice (oSlK (K := K) rfl) (pv 3) po_none (po_some (pe_op op_modN (pe_callTy cInt (by rfl) B.int (by decide +kernel) (pa_cons (pe_op oMul pe_int (pv 9)) pa_nil)) pe_int)))))))
       pss_nil)))
       (pss_cons (ps_if (pt_cmpR (oNeK (K := K) rfl r) (pe_lc (own := [("name", 11)]) rfl sc__law_names.nd (pi_sqK (K := K) rfl (pv 8)) (blkOk_by (N := ["box", "many", "way", "stem", "tail", "shift", "long", "letters", "names", "k", "letter", "name"]) (sc := defScope s__law_names) (by decide +kernel)) (fun _ _ _ _ _ => (pg_name (i := 11) sc__law_names.nd rfl (Or.inl rfl))) (fun _ _ _ _ _ => (pts_one (pt_cmpR (oInK (K := K) rfl) (pv 11) (g_call0 C__law_taboo r (by rfl) passL) (by rfl)))) (fun _ _ _ _ _ => (pv 11))) (d_lst pa_nil) (nomark _))
       (pss_one (ps_setLc (i := 8) (own := [("name", 11)]) rfl sc__law_names.nd rfl rfl (sw_true rfl rfl rfl (by decide +kernel)) (pi_sqK (K := K) rfl (pv 8)) (blkOk_by (N := ["box", "many", "way", "stem", "tail", "shift", "long", "letters", "names", "k", "letter", "name"]) (sc := defScope s__law_names) (by decide +kernel)) (fun _ _ _ _ _ => (pg_name (i := 11) sc__law_names.nd rfl (Or.inl rfl))) (fun _ _ _ _ _ => pts_nil) (fun _ _ _ _ _ => (pe_op (oAddK (K := K) rfl) (pv 11) pe_str))))
       pss_nil)
       (pss_one (ps_ret (g_call C__law_mixed r (by rfl) passL (pa_cons (pv 0) (pa_cons (pv 8) pa_nil))))))))))), ?_⟩
    try dsimp only [cxOf]
    refine x_start (σ' := [some _, some _, none, none, none, none, none, none, none, none, none, none]) rfl ?_
    walk_at "s"
    refine ⟨G, R, b, 3, N + 59, bx, rfl, O, bo, by decide, by decide, fun H1 rw b1 _ _ O1 B1 => ?_⟩
    walk_at "s"
    refine ⟨G, R, b, 5, N + 58, b1, rfl, O1, B1, by decide, by decide, fun H2 r2 b2 r20 r21 O2 B2 => ?_⟩
    obtain ⟨n2, rfl⟩ := Int.eq_ofNat_of_zero_le r20
    walk_at "s"
    refine ⟨G, R, b, n2, N + 54, b2, rfl, O2, B2.le (by omega), by omega, fun G3 H3 st b3 s3 hst O3 B3 => ?_⟩
    walk_at "s"
    refine ⟨G3, R, b, 3, N + 53, b3, rfl, O3, B3, by decide, by decide, fun H4 r4 b4 r40 r41 O4 B4 => ?_⟩
    obtain ⟨n4, rfl⟩ := Int.eq_ofNat_of_zero_le r40
    walk_at "s"
    refine ⟨G3, R, b, n4, N + 51, b4, rfl, O4, B4.le (by omega), by omega, fun G5 H5 tl b5 s5 htl O5 B5 => ?_⟩
    walk_at "s"
    refine ⟨by show 3 ≤ sizeLine; decide, x_fix O5 fun p6 G6 H6 s6 O6 e6 => ?_⟩
    refine x_gT (SqT.of (O6.sub _ _ e6)) rfl ?_
    refine x_gC ?_
    walk_at "n1"
    refine x_gC ?_
    walk_at "n1"
    refine x_gC ?_
    walk_at "n1"
    refine x_gNl ?_
    walk_at "s"
    refine ⟨G6, R, b, 26, N + 50, b5, rfl, O6, B5, by decide, by decide, fun H7 r7 b7 r70 r71 O7 B7 => ?_⟩
    obtain ⟨z, rfl⟩ := Int.eq_ofNat_of_zero_le r70
    walk_at "s"
    refine ⟨G6, R, b, 8, N + 42, b7, rfl, O7, B7, by omega, fun G8 H8 lg b8 s8 hlg O8 B8 => ?_⟩
    walk_at "s"
    refine ⟨by show 2 ≤ sizeLine; decide, x_fix O8 fun p9 G9 H9 s9 O9 e9 => ?_⟩
    refine x_gT (SqT.of (O9.sub _ _ e9)) rfl ?_
    refine x_gC ?_
    walk_at "n1"
    refine x_gC ?_
    walk_at "n1"
    refine x_gNl ?_
    walk_at "s"
    refine x_rg (by omega) (by omega) ?_
    rw [show ((m : Nat) : Int).toNat = m from Int.toNat_natCast _]
    refine lc_map (by walk_at "n") walk_range O9 (by omega) (fun _ i y => y = .str (ltS z i)) (fun _ _ _ _ _ z => z) (fun _ _ _ _ _ _ => True.intro) ?_ gm_name ?_
    · rintro i x G' H' H2' D acc hi s' O' ⟨rfl, rfl⟩ kk
      walk_at "s"
      refine x_mul (.inl ⟨by decide, by decide⟩) ?_
      walk_at "s"
      refine x_rI (by decide) ?_
      rw [Int.fmod_eq_emod_of_nonneg _ (by decide)]
      refine x_ixs (by decide) (abc_at (Int.emod_nonneg _ (by decide)) (Int.emod_lt_of_pos _ (by decide))) ?_
      rw [show (((z : Int) + 5 * (0 + (i : Int))) % 26).toNat = (z + 5 * i) % 26 by omega]
      exact kk _ _ _ (Same.refl _) O' rfl
    intro Ga Ha pa ya sa Oa ea la ra
    obtain rfl := eq_of_rg (f := fun i => V.str (ltS z i)) la ra
    walk_at "s"
    refine x_sqL (SqL.of (Oa.sub _ _ ea)) ?_
    refine lc_map (by walk_at "n") walk_list Oa (by rw [List.length_map, List.length_range]; omega) (fun _ i y => y = .str (st ++ ltS z i ++ tl)) (fun _ _ _ _ _ z => z) (fun G' H' D acc s' O' => SqL.of (O'.sub _ _ (s' _ _ ea))) ?_ gm_name ?_
    · rintro i x G' H' H2' D acc hi s' O' ⟨rfl, ex⟩ kk
      rw [List.length_map, List.length_range] at hi
      rw [List.getElem?_map, List.getElem?_range hi] at ex
      cases ex
      walk_at "s"
      refine x_adds (sz20 (by rw [hst.1, (lt_lx z i).1]; omega)) ?_
      walk_at "s"
      refine x_adds (sz20 (by rw [(hst.app (lt_lx z i)).1, htl.1]; omega)) ?_
      exact kk _ _ _ (Same.refl _) O' rfl
    intro Gb Hb pb yb sb Ob eb lb rb
    rw [List.length_map, List.length_range] at lb
    obtain rfl := eq_of_rg (f := fun i => V.str (st ++ ltS z i ++ tl)) lb rb
    walk_at "n1"
    have s0b := s3.trans (s5.trans (s6.trans (s8.trans (s9.trans (sa.trans sb)))))
    refine x_midS (fun σ H' => ∃ (G' : Hp) (pn : Addr) (ns : List Str), σ = [some (.ref b), some (.int (m : Nat)), some (.int rw), some (.str st), some (.str tl), some (.int (z : Nat)), some (.str lg), some (.ref pa), some (.ref pn), none, none, none] ∧ Same G G' ∧ Own G' H' ((b, .lst b8) :: R) ∧ G' pn = some (.lst (ns.map V.str)) ∧ NmC m ns) (fun n' hn' => ?_) ?_
    · walk_at "s"
      have plain := hn' _ Hb ⟨Gb, pb, (List.range m).map fun i => st ++ ltS z i ++ tl, rfl, s0b, Ob, by rw [List.map_map]; exact eb, nmA hst htl (by omega) (by omega) m26⟩
      refine x_eq rfl ?_
      walk_at "s"
      by_cases hz : rw = 0
      · subst hz
        rw [decide_eq_true (rfl : V.int 0 = V.int 0)]
        walk_at "s"
        refine ite_b (fun c2 => ?_) (fun c2 => ?_)
        · have m9 : m < 9 := by have := of_decide_eq_true c2; omega
          walk_at "s"
          refine x_rg (by omega) (by omega) ?_
          rw [show ((m : Nat) : Int).toNat = m from Int.toNat_natCast _]
          refine lc_map (by walk_at "n") walk_range Ob (by omega) (fun _ i y => y = .str (cutS lg none (some ((i + 1 : Nat) : Int)))) (fun _ _ _ _ _ z => z) (fun _ _ _ _ _ _ => True.intro) ?_ gm_name ?_
          · rintro i x G' H' H2' D acc hi s' O' ⟨rfl, rfl⟩ kk
            walk_at "s"
            refine x_slS (sz20 (by rw [hlg.1]; omega)) ?_
            exact kk _ _ _ (Same.refl _) O' (by rw [show (0 : Int) + (i : Int) + 1 = ((i + 1 : Nat) : Int) by omega])
          intro Gc Hc pc yc sc Oc ec lc rc
          obtain rfl := eq_of_rg (f := fun i => V.str (cutS lg none (some ((i + 1 : Nat) : Int)))) lc rc
          obtain ⟨ns, hns, ec⟩ : ∃ ns, ns = (List.range m).map (fun i => cutS lg none (some ((i + 1 : Nat) : Int))) ∧ Gc pc = some (.lst (ns.map V.str)) := ⟨_, rfl, by rw [List.map_map]; exact ec⟩
          have nl : ns.length = m := by rw [hns, List.length_map, List.length_range]
          walk_at "s"
          refine x_sqL (SqL.of (Oc.sub _ _ ec)) ?_
          refine lc_filt (by walk_at "n") walk_list (fun _ _ _ _ _ z => z) Oc (by rw [List.length_map]; omega) tabB (fun G' H' D acc s' O' => SqL.of (O'.sub _ _ (s' _ _ ec))) ?_ ?_
          · intro i x G' H' D acc hi ex s' O' ky kn
            obtain ⟨y, rfl, ey⟩ := txt_at ex
            walk_at "s"
            refine ⟨G', _, rfl, O', fun Gk Hk pk sk Ok ek => ?_⟩
            refine x_inS (ts := wKept) (.inl (SqL.of (Ok.sub _ _ ek))) ?_
            cases c : wKept.contains y with
            | true => exact ⟨true, rfl, ite_t (ky _ _ _ sk Ok c rfl)⟩
            | false => exact ⟨false, rfl, ite_f (kn _ _ sk Ok c)⟩
          intro Gd Hd pd sd Od ed
          rw [tab_filt] at ed
          walk_at "s"
          refine ⟨by show 0 ≤ sizeLine; decide, x_fix Od fun p0 Ge He se Oe ee => ?_⟩
          refine x_neN (SqL.of (Oe.sub _ _ (se _ _ ed))) (SqL.of (Oe.sub _ _ ee)) ?_
          rw [emp_map]
          have sde := sd.trans se
          walk_at "s"
          cases hc : (ns.filter fun x => wKept.contains x) with
          | nil =>
            refine ite_f ?_
            walk_at "s"
            exact hn' _ He ⟨Ge, pc, ns, rfl, s0b.trans (sc.trans sde), Oe, sde _ _ ec, by rw [hns] at hc ⊢; exact nmB hlg m9 hc⟩
          | cons y0 ys0 =>
            refine ite_t ?_
            walk_at "s"
            refine x_rg (by omega) (by omega) ?_
            rw [show ((m : Nat) : Int).toNat = m from Int.toNat_natCast _]
            refine lc_map (by walk_at "n") walk_range Oe (by omega) (fun _ i y => y = .str (wX ++ cutS lg (some 1) (some ((i + 1 : Nat) : Int)))) (fun _ _ _ _ _ z => z) (fun _ _ _ _ _ _ => True.intro) ?_ gm_name ?_
            · rintro i x G' H' H2' D acc hi s' O' ⟨rfl, rfl⟩ kk
              walk_at "s"
              refine x_slS (sz20 (by rw [hlg.1]; omega)) ?_
              rw [show (0 : Int) + (i : Int) + 1 = ((i + 1 : Nat) : Int) by omega]
              refine x_adds (sz20 (by rw [(cut_mid hlg (by decide) (by omega)).1]; show 1 + i ≤ _; omega)) ?_
              exact kk _ _ _ (Same.refl _) O' rfl
            intro Gf Hf pf yf sf Of ef lf rf
            obtain rfl := eq_of_rg (f := fun i => V.str (wX ++ cutS lg (some 1) (some ((i + 1 : Nat) : Int)))) lf rf
            walk_at "n1"
            exact hn' _ Hf ⟨Gf, pf, _, rfl, s0b.trans (sc.trans (sde.trans sf)), Of, by rw [List.map_map]; exact ef, nmX hlg m9⟩
        · walk_at "s"
          refine x_eq rfl ?_
          rw [decide_eq_false (fun e : V.int 0 = V.int 1 => by have := V.int.inj e; omega)]
          walk_at "s"
          exact plain
      · rw [decide_eq_false (fun e : V.int rw = V.int 0 => hz (V.int.inj e))]
        walk_at "s"
        refine x_eq rfl ?_
        by_cases h1 : rw = 1
        · subst h1
          rw [decide_eq_true (rfl : V.int 1 = V.int 1)]
          walk_at "s"
          refine x_rg (by omega) (by omega) ?_
          rw [show ((m : Nat) : Int).toNat = m from Int.toNat_natCast _]
          refine lc_map (by walk_at "n") walk_range Ob (by omega) (fun _ i y => y = .str (ltS z i ++ cutS st none (some (((3 * i % 5 : Nat)) : Int)))) (fun _ _ _ _ _ z => z) (fun _ _ _ _ _ _ => True.intro) ?_ gm_name ?_
          · rintro i x G' H' H2' D acc hi s' O' ⟨rfl, rfl⟩ kk
            walk_at "s"
            refine x_ixl (v := .str (ltS z i)) (SqL.of (O'.sub _ _ ((sb.trans s') _ _ ea))) (by rw [Int.zero_add]; exact atI_nat (by rw [List.getElem?_map, List.getElem?_range hi]; rfl)) ?_
            walk_at "s"
            refine x_mul (.inl ⟨by decide, by decide⟩) ?_
            walk_at "s"
            refine x_rI (by decide) ?_
            rw [Int.fmod_eq_emod_of_nonneg _ (by decide), show (3 * (0 + (i : Int))) % 5 = ((3 * i % 5 : Nat) : Int) by omega]
            walk_at "s"
            refine x_slS (sz20 (by rw [hst.1]; omega)) ?_
            refine x_adds (sz20 (by rw [(lt_lx z i).1, (cut_pre hst).1]; omega)) ?_
            exact kk _ _ _ (Same.refl _) O' rfl
          intro Gc Hc pc yc sc Oc ec lc rc
          obtain rfl := eq_of_rg (f := fun i => V.str (ltS z i ++ cutS st none (some (((3 * i % 5 : Nat)) : Int)))) lc rc
          walk_at "n1"
          exact hn' _ Hc ⟨Gc, pc, _, rfl, s0b.trans sc, Oc, by rw [List.map_map]; exact ec, nmCs hst (by omega) m26⟩
        · rw [decide_eq_false (fun e : V.int rw = V.int 1 => h1 (V.int.inj e))]
          walk_at "s"
          exact plain
    rintro σ' Hc ⟨Gc, pn, ns, rfl, sc, Oc, ec, nc⟩
    have endQ : ∀ (G' H' : Hp) (p : Addr) (ns' : List Str), Same G G' → Own G' H' ((b, .lst b8) :: R) → G' p = some (.lst (ns'.map V.str)) → NmL m ns' → sp_mix K [.ref b, .ref p] H' Q (fun _ _ _ => False) := fun G' H' p ns' s' O' e' nl => by
      refine ⟨G', R, b, p, ns'.map V.str, N + 16, b8, rfl, O', SqL.of e', B8.le (by rw [List.length_map, nl.len]; omega), by rw [List.length_map, nl.len]; omega, fun Gz Hz pz ys bz sz pm ez Oz Bz => ?_⟩
      obtain ⟨zs, rfl, pz'⟩ := perm_mapf pm
      exact q Gz Hz pz zs bz (s'.trans sz) ez (nml_perm nl pz') Oz (Bz.le (by omega))
    walk_at "s"
    refine x_sqL (SqL.of (Oc.sub _ _ ec)) ?_
    have nl := nc.len
    refine lc_filt (by walk_at "n") walk_list (fun _ _ _ _ _ z => z) Oc (by rw [List.length_map]; omega) tabB (fun G' H' D acc s' O' => SqL.of (O'.sub _ _ (s' _ _ ec))) ?_ ?_
    · intro i x G' H' D acc hi ex s' O' ky kn
      obtain ⟨y, rfl, ey⟩ := txt_at ex
      walk_at "s"
      refine ⟨G', _, rfl, O', fun Gk Hk pk sk Ok ek => ?_⟩
      refine x_inS (ts := wKept) (.inl (SqL.of (Ok.sub _ _ ek))) ?_
      cases c : wKept.contains y with
      | true => exact ⟨true, rfl, ite_t (ky _ _ _ sk Ok c rfl)⟩
      | false => exact ⟨false, rfl, ite_f (kn _ _ sk Ok c)⟩
    intro Gd Hd pd sd Od ed
    rw [tab_filt] at ed
    walk_at "s"
    refine ⟨by show 0 ≤ sizeLine; decide, x_fix Od fun p0 Ge He se Oe ee => ?_⟩
    refine x_neN (SqL.of (Oe.sub _ _ (se _ _ ed))) (SqL.of (Oe.sub _ _ ee)) ?_
    rw [emp_map]
    have sde := sd.trans se
    have fin := nc.fin
    walk_at "s"
    cases hc : (ns.filter fun x => wKept.contains x) with
    | nil =>
      rw [if_pos hc] at fin
      refine ite_f ?_
      walk_at "s"
      exact endQ Ge He pn ns (sc.trans sde) Oe (sde _ _ ec) fin
    | cons y0 ys0 =>
      rw [if_neg (by rw [hc]; exact List.cons_ne_nil _ _)] at fin
      refine ite_t ?_
      walk_at "s"
      refine x_sqL (SqL.of (Oe.sub _ _ (sde _ _ ec))) ?_
      refine lc_map (by walk_at "n") walk_list Oe (by rw [List.length_map]; omega) (fun _ i y => ((ns.map (· ++ wX)).map V.str)[i]? = some y) (fun _ _ _ _ _ z => z) (fun G' H' D acc s' O' => SqL.of (O'.sub _ _ (s' _ _ (sde _ _ ec)))) ?_ gm_name ?_
      · rintro i x G' H' H2' D acc hi s' O' ⟨rfl, ex⟩ kk
        obtain ⟨y, rfl, ey⟩ := txt_at ex
        walk_at "s"
        have := (nc.wd y (List.mem_of_getElem? ey)).l8
        refine x_adds (sz20 (by show y.length + 1 ≤ _; omega)) ?_
        exact kk _ _ _ (Same.refl _) O' (by rw [List.getElem?_map, List.getElem?_map, ey]; rfl)
      intro Gf Hf pf yf sf Of ef lf rf
      obtain rfl := ext_map (by rw [lf, List.length_map, List.length_map, List.length_map]) rf
      walk_at "s"
      exact endQ Gf Hf pf _ (sc.trans (sde.trans sf)) Of ef fin
end
end
section
open PySem PySem.Spec PyProof.Rows L2 G
set_option maxHeartbeats 4000000
/-- the numbers of g at 0 .. m - 1 -/
def bL (m : Nat) (g : Nat → Nat) : List V := (List.range m).map fun i => V.int (g i : Nat)
theorem bL_len (m : Nat) (g : Nat → Nat) : (bL m g).length = m := by unfold bL; rw [List.length_map, List.length_range]
theorem bL_at {m i : Nat} (g : Nat → Nat) (h : i < m) : (bL m g)[i]? = some (V.int (g i : Nat)) := by
  unfold bL
  rw [List.getElem?_map, List.getElem?_range h]
  rfl
/-- g changes the places 0 .. m - 1 by pairs -/
def Inv2 (m : Nat) (g : Nat → Nat) : Prop := ∀ i, i < m → g i < m ∧ g (g i) = i
theorem cut_map {α : Type} (f : α → V) (xs : List α) {m : Nat} (h : m ≤ xs.length) : cutV (xs.map f) none (some (m : Int)) = (xs.take m).map f := by
  unfold cutV
  rw [HT.sIx_nat, HT.sIx_none, List.drop_zero, List.length_map, Nat.min_eq_left h, Nat.sub_zero, List.map_take]
/-! ### triples of numbers -/
/-! ### names of numbers -/
def nm (ns : List Str) (i : Nat) : Str := ns.getD i Str.empty
def wOf (m : Nat) (ns : List Str) (g : Nat → Nat) : List (Str × Str) := (List.range m).map fun k => (nm ns k, nm ns (g k))
section
variable {m : Nat} {ns : List Str} {g : Nat → Nat}
theorem nm_at {i : Nat} (h : i < ns.length) : ns[i]? = some (nm ns i) := by
  unfold nm
  rw [List.getD_eq_getElem?_getD, List.getElem?_eq_getElem h]
  rfl
theorem nm_mem (h : NmL m ns) {i : Nat} (hi : i < m) : nm ns i ∈ ns := List.mem_of_getElem? (nm_at (by rw [h.len]; exact hi))
theorem keys_wOf (h : NmL m ns) : keysW (wOf m ns g) = ns := by
  unfold keysW wOf
  rw [List.map_map]
  refine List.ext_getElem? fun i => ?_
  rw [List.getElem?_map]
  by_cases hi : i < m
  · rw [List.getElem?_range hi, nm_at (by rw [h.len]; exact hi)]
    rfl
  · rw [List.getElem?_eq_none (by rw [List.length_range]; omega), List.getElem?_eq_none (by rw [h.len]; omega)]
    rfl
theorem bS_wOf (h : NmL m ns) {i : Nat} (hi : i < m) : bS (wOf m ns g) (nm ns i) = nm ns (g i) :=
  bS_at (W := wOf m ns g) (p := (nm ns i, nm ns (g i))) (by rw [keys_wOf h]; exact h.nd) (List.mem_map.mpr ⟨i, List.mem_range.mpr hi, rfl⟩)
theorem mem_ns (h : NmL m ns) {x : Str} (hx : x ∈ ns) : ∃ i, i < m ∧ x = nm ns i := by
  obtain ⟨i, hi, rfl⟩ := List.getElem_of_mem hx
  refine ⟨i, by rw [← h.len]; exact hi, ?_⟩
  have := nm_at hi
  rw [List.getElem?_eq_getElem hi] at this
  exact Option.some.inj this
theorem ok_wOf (h : NmL m ns) (iv : Inv2 m g) (m1 : 1 ≤ m) (m4 : m ≤ 4) : WaysOk (wOf m ns g) where
  l1 := by unfold wOf; rw [List.length_map, List.length_range]; exact m1
  l4 := by unfold wOf; rw [List.length_map, List.length_range]; exact m4
  nm := fun p hp => by
    obtain ⟨i, hi, rfl⟩ := List.mem_map.mp hp
    exact h.nm _ (nm_mem h (List.mem_range.mp hi))
  nd := by rw [keys_wOf h]; exact h.nd
  bk := fun x hx => by
    rw [keys_wOf h] at hx ⊢
    obtain ⟨i, hi, rfl⟩ := mem_ns h hx
    rw [bS_wOf h hi]
    exact nm_mem h (iv i hi).1
  inv := fun x hx => by
    rw [keys_wOf h] at hx
    obtain ⟨i, hi, rfl⟩ := mem_ns h hx
    rw [bS_wOf h hi, bS_wOf h (iv i hi).1, (iv i hi).2]
end
theorem pick_nat {ls : List Nat} {r : Int} (h0 : 0 ≤ r) (h1 : r < (ls.length : Nat)) : ∃ n, n ∈ ls ∧ atI (ls.map fun n => V.int (n : Nat)) r = some (.int (n : Nat)) := by
  obtain ⟨j, rfl⟩ := Int.eq_ofNat_of_zero_le h0
  have hj : j < ls.length := by omega
  exact ⟨ls[j], List.getElem_mem hj, atI_nat (by rw [List.getElem?_map, List.getElem?_eq_getElem hj]; rfl)⟩
theorem kept_wd : ∀ x ∈ wKept, Wd x := fun x hx => by
  have e : ∀ x ∈ wKept, (1 ≤ x.length ∧ x.length ≤ 8) ∧ ∀ c ∈ x.cps.toList, 97 ≤ c ∧ c ≤ 122 := by decide +kernel
  obtain ⟨⟨h1, h2⟩, h3⟩ := e x hx
  exact ⟨h1, h2, h3⟩
def menuL : List (List Nat) := [[0], [1, 0], [0, 1], [0, 2, 1], [2, 1, 0], [0, 1, 2], [1, 0, 3, 2], [2, 3, 0, 1], [0, 3, 2, 1], [0, 1, 2, 3], [1, 0, 2], [3, 2, 1, 0]]
theorem menu_ok : ∀ l ∈ menuL, (∀ i, i < l.length → l.getD i 0 < l.length ∧ l.getD (l.getD i 0) 0 = i) ∧ 1 ≤ l.length ∧ l.length ≤ 4 := by decide +kernel
def vI (l : List Nat) : List V := l.map fun i => V.int (i : Nat)
theorem vI_bL (l : List Nat) : vI l = bL l.length fun i => l.getD i 0 := by
  unfold vI bL
  refine List.ext_getElem? fun i => ?_
  rw [List.getElem?_map, List.getElem?_map]
  by_cases h : i < l.length
  · rw [List.getElem?_range h, List.getElem?_eq_getElem h]
    simp [List.getD_eq_getElem?_getD, List.getElem?_eq_getElem h]
  · rw [List.getElem?_eq_none (by omega), List.getElem?_eq_none (by rw [List.length_range]; omega)]
    rfl
section
variable {P : Program} {w : World} {K : PySem.W.Frag} {mg : Str → Option Value} {base : Heap} {k : Nat} {kw C D CW : Addr}
abbrev s__law_word : Stmt := top 47
theorem sc__law_word : FnScope ["box", "way", "spot", "many"] ["box"] (defScope s__law_word) := ⟨rfl, rfl, rfl, by decide +kernel, rfl, by decide +kernel, by decide +kernel⟩
def sp_wrd : Sp := fun vs H Q _ => ∃ (G : Hp) (R : List (Addr × HO)) (b : Addr) (N : Nat) (bx : List V), vs = [.ref b] ∧ Own G H ((b, .lst bx) :: R) ∧ Box (N + 11) bx ∧
  ∀ (G' H' : Hp) (x : Str) bx', Same G G' → Wd x → Own G' H' ((b, .lst bx') :: R) → Box N bx' → Q (.str x) H'
theorem ok_wrd {f : Addr} {fd : FuncData} (F : Fun K "_law_word" "_law_word" s__law_word f fd) (B : Btt mg) (C__law_take : Cal P w K mg base k "_law_take" ["box", "many"] sp_take) (C__law_letters : Cal P w K mg base k "_law_letters" ["box", "many"] sp_ltr) (C__law_taboo : Cal P w K mg base k "_law_taboo" [] sp_tab) : FnG P w K mg base (k + 1) f fd ["box"] sp_wrd := by
  refine fnG_of F sc__law_word (fun vs H Q E h => ?_) (fun cdv A outer s H vs Q E r h => ?_)
  · obtain ⟨_, _, b, N, bx, rfl, _⟩ := h
    rfl
  · obtain ⟨G, R, b, N, bx, rfl, O, bo, q⟩ := h
    refine ⟨_, (pss_cons (ps_par3 (i := 1) (j := 2) (l := 3) rfl sc__law_word.nd rfl rfl rfl (by decide) (by decide) (by decide) rfl rfl rfl (pa_cons (g_call C__law_take r (by rfl) passL (pa_cons (pv 0) (pa_cons pe_int pa_nil))) (pa_cons (g_call C__law_take r (by rfl) passL (pa_cons (pv 0) (pa_cons pe_int pa_nil))) (pa_cons (pe_ix (ixK (K := K) rfl) (d_lst (pa_cons pe_int (pa_cons pe_int (pa_cons pe_int (pa_cons pe_int (pa_cons pe_int (pa_cons pe_int (pa_cons pe_int (pa_cons pe_int pa_nil))))))))) (g_call C__law_take r (by rfl) passL (pa_cons (pv 0) (pa_cons pe_int pa_nil))) (fun _ _ => rfl)) pa_nil))) (by rfl))
       (pss_one (ps_ret (pe_ifExp (pt_cmpR (oEqK (K := K) rfl r) (pv 1) pe_int (nomark _)) (pe_ix (ixK (K := K) rfl) (g_call0 C__law_taboo r (by rfl) passL) (pv 2) (fun _ _ => rfl)) (g_call C__law_letters r (by rfl) passL (pa_cons (pv 0) (pa_cons (pv 3) pa_nil))))))), ?_⟩
    try dsimp only [cxOf]
    refine x_start (σ' := [some _, none, none, none]) rfl ?_
    walk_at "s"
    refine ⟨G, R, b, 3, N + 10, bx, rfl, O, bo, by decide, by decide, fun H1 rw b1 _ _ O1 B1 => ?_⟩
    walk_at "s"
    refine ⟨G, R, b, 15, N + 9, b1, rfl, O1, B1, by decide, by decide, fun H2 r2 b2 r20 r21 O2 B2 => ?_⟩
    walk_at "s"
    refine ⟨by show 8 ≤ sizeLine; decide, x_fix O2 fun p3 G3 H3 s3 O3 e3 => ?_⟩
    walk_at "s"
    refine ⟨G3, R, b, 8, N + 8, b2, rfl, O3, B2, by decide, by decide, fun H4 r4 b4 r40 r41 O4 B4 => ?_⟩
    obtain ⟨n, hn, en⟩ := pick_nat (ls := [1, 8, 2, 3, 5, 4, 7, 6]) r40 r41
    have hn : 1 ≤ n ∧ n ≤ 8 := by
      have : ∀ n ∈ ([1, 8, 2, 3, 5, 4, 7, 6] : List Nat), 1 ≤ n ∧ n ≤ 8 := by decide
      exact this n hn
    refine x_ixl (v := .int (n : Nat)) (SqL.of (O4.sub _ _ e3)) en ?_
    walk_at "s"
    refine x_eq rfl ?_
    walk_at "s"
    refine ite_b (fun c => ?_) (fun c => ?_)
    · walk_at "s"
      refine ⟨G3, _, rfl, O4, fun G5 H5 p5 s5 O5 e5 => ?_⟩
      walk_at "s"
      obtain ⟨j, rfl⟩ := Int.eq_ofNat_of_zero_le r20
      have hj : j < wKept.length := by show j < 15; omega
      refine x_ixl (v := .str wKept[j]) (SqL.of (O5.sub _ _ e5)) (atI_nat (by rw [List.getElem?_map, List.getElem?_eq_getElem hj]; rfl)) ?_
      exact q G5 H5 _ b4 (s3.trans s5) (kept_wd _ (List.getElem_mem hj)) O5 (B4.le (by omega))
    · walk_at "s"
      refine ⟨G3, R, b, n, N, b4, rfl, O4, B4.le (by omega), by omega, fun G5 H5 x b5 s5 hx O5 B5 => ?_⟩
      exact q G5 H5 x b5 (s3.trans s5) (hx.wd hn.1 hn.2) O5 B5
abbrev s__law_ways : Stmt := top 48
theorem sc__law_ways : FnScope ["box", "menu", "backs", "names", "k"] ["box"] (defScope s__law_ways) := ⟨rfl, rfl, rfl, by decide +kernel, rfl, by decide +kernel, by decide +kernel⟩
def sp_wys : Sp := fun vs H Q _ => ∃ (G : Hp) (R : List (Addr × HO)) (b : Addr) (N : Nat) (bx : List V), vs = [.ref b] ∧ Own G H ((b, .lst bx) :: R) ∧ Box (N + 61) bx ∧
  ∀ (G' H' : Hp) (p : Addr) (W : List (Str × Str)) bx', Same G G' → WyAt G' p W → WaysOk W → Own G' H' ((b, .lst bx') :: R) → Box N bx' → Q (.ref p) H'
theorem ok_wys {f : Addr} {fd : FuncData} (F : Fun K "_law_ways" "_law_ways" s__law_ways f fd) (B : Btt mg) (C__law_take : Cal P w K mg base k "_law_take" ["box", "many"] sp_take) (C__law_names : Cal P w K mg base k "_law_names" ["box", "many"] sp_nms) : FnG P w K mg base (k + 1) f fd ["box"] sp_wys := by
  refine fnG_of F sc__law_ways (fun vs H Q E h => ?_) (fun cdv A outer s H vs Q E r h => ?_)
  · obtain ⟨_, _, b, N, bx, rfl, _⟩ := h
    rfl
  · obtain ⟨G, R, b, N, bx, rfl, O, bo, q⟩ := h
    refine ⟨_, (pss_cons (ps_set (i := 1) sc__law_ways.nd rfl (Or.inl rfl) (d_lst (pa_cons (d_lst (pa_cons pe_int pa_nil)) (pa_cons (d_lst (pa_cons pe_int (pa_cons pe_int pa_nil))) (pa_cons (d_lst (pa_cons pe_int (pa_cons pe_int pa_nil))) (pa_cons (d_lst (pa_cons pe_int (pa_cons pe_int (pa_cons pe_int pa_nil)))) (pa_cons (d_lst (pa_cons pe_int (pa_cons pe_int (pa_cons pe_int pa_nil)))) (pa_cons (d_lst (pa_cons pe_int (pa_cons pe_int (pa_cons pe_int pa_nil)))) (pa_cons (d_lst (pa_cons pe_int (pa_cons pe_int (pa_cons pe_int (pa_cons pe_int pa_nil))))) (pa_cons (d_lst (pa_cons pe_int (pa_cons pe_int (pa_cons pe_int (pa_cons pe_int pa_nil))))) (pa_cons (d_lst (pa_cons pe_int (pa_cons pe_int (pa_cons pe_int (pa_cons pe_int pa_nil))))) (pa_cons (d_lst (pa_cons pe_int (pa_cons pe_int (pa_cons pe_int (pa_cons pe_int pa_nil))))) pa_nil))))))))))))
       (pss_cons (ps_set (i := 2) sc__law_ways.nd rfl (Or.inr rfl) (pe_ix (ixK (K := K) rfl) (pe_op (oAddK (K := K) rfl) (pv 1) (d_lst (pa_cons (d_lst (pa_cons pe_int (pa_cons pe_int (pa_cons pe_int pa_nil)))) (pa_cons (d_lst (pa_cons pe_int (pa_cons pe_int (pa_cons pe_int (pa_cons pe_int pa_nil))))) pa_nil)))) (g_call C__law_take r (by rfl) passL (pa_cons (pv 0) (pa_cons pe_int pa_nil))) (fun _ _ => rfl)))
       (pss_cons (ps_set (i := 3) sc__law_ways.nd rfl (Or.inr rfl) (g_call C__law_names r (by rfl) passL (pa_cons (pv 0) (pa_cons (pe_callB (cLenK (K := K) rfl) (by rfl) B.len (by decide +kernel) (pa_cons (pv 2) pa_nil)) pa_nil))))
       (pss_one (ps_ret (pe_lc (own := [("k", 4)]) rfl sc__law_ways.nd (pi_range1 (by rfl) B.range (pa_cons (pe_callB (cLenK (K := K) rfl) (by rfl) B.len (by decide +kernel) (pa_cons (pv 2) pa_nil)) pa_nil)) (blkOk_by (N := ["box", "menu", "backs", "names", "k"]) (sc := defScope s__law_ways) (by decide +kernel)) (fun _ _ _ _ _ => (pg_name (i := 4) sc__law_ways.nd rfl (Or.inl rfl))) (fun _ _ _ _ _ => pts_nil) (fun _ _ _ _ _ => (d_tup (pa_cons (pe_ix (ixK (K := K) rfl) (pv 3) (pv 4) (fun _ _ => rfl)) (pa_cons (pe_ix (ixK (K := K) rfl) (pv 3) (pe_ix (ixK (K := K) rfl) (pv 2) (pv 4) (fun _ _ => rfl)) (fun _ _ => rfl)) pa_nil)))))))))), ?_⟩
    try dsimp only [cxOf]
    refine x_start (σ' := [some _, none, none, none, none]) rfl ?_
    walk_at "s"
    refine ⟨by show 1 ≤ sizeLine; decide, x_fix O fun p1 G1 H1 s1 O1 e1 => ?_⟩
    walk_at "s"
    refine ⟨by show 2 ≤ sizeLine; decide, x_fix O1 fun p2 G2 H2 s2 O2 e2 => ?_⟩
    walk_at "s"
    refine ⟨by show 2 ≤ sizeLine; decide, x_fix O2 fun p3 G3 H3 s3 O3 e3 => ?_⟩
    walk_at "s"
    refine ⟨by show 3 ≤ sizeLine; decide, x_fix O3 fun p4 G4 H4 s4 O4 e4 => ?_⟩
    walk_at "s"
    refine ⟨by show 3 ≤ sizeLine; decide, x_fix O4 fun p5 G5 H5 s5 O5 e5 => ?_⟩
    walk_at "s"
    refine ⟨by show 3 ≤ sizeLine; decide, x_fix O5 fun p6 G6 H6 s6 O6 e6 => ?_⟩
    walk_at "s"
    refine ⟨by show 4 ≤ sizeLine; decide, x_fix O6 fun p7 G7 H7 s7 O7 e7 => ?_⟩
    walk_at "s"
    refine ⟨by show 4 ≤ sizeLine; decide, x_fix O7 fun p8 G8 H8 s8 O8 e8 => ?_⟩
    walk_at "s"
    refine ⟨by show 4 ≤ sizeLine; decide, x_fix O8 fun p9 G9 H9 s9 O9 e9 => ?_⟩
    walk_at "s"
    refine ⟨by show 4 ≤ sizeLine; decide, x_fix O9 fun p10 G10 H10 s10 O10 e10 => ?_⟩
    walk_at "s"
    refine ⟨by show 10 ≤ sizeLine; decide, x_fix O10 fun p11 G11 H11 s11 O11 e11 => ?_⟩
    walk_at "s"
    refine ⟨by show 3 ≤ sizeLine; decide, x_fix O11 fun p12 G12 H12 s12 O12 e12 => ?_⟩
    walk_at "s"
    refine ⟨by show 4 ≤ sizeLine; decide, x_fix O12 fun p13 G13 H13 s13 O13 e13 => ?_⟩
    walk_at "s"
    refine ⟨by show 2 ≤ sizeLine; decide, x_fix O13 fun p14 G14 H14 s14 O14 e14 => ?_⟩
    refine x_addl (O14.sub _ _ ((s12.trans (s13.trans s14)) _ _ e11)) (O14.sub _ _ e14) (by show 10 + 2 ≤ sizeLine; decide) (x_fix O14 fun p15 G15 H15 s15 O15 e15 => ?_)
    have g1 := (s2.trans (s3.trans (s4.trans (s5.trans (s6.trans (s7.trans (s8.trans (s9.trans (s10.trans (s11.trans (s12.trans (s13.trans s14)))))))))))) _ _ e1
    have g2 := (s3.trans (s4.trans (s5.trans (s6.trans (s7.trans (s8.trans (s9.trans (s10.trans (s11.trans (s12.trans (s13.trans s14))))))))))) _ _ e2
    have g3 := (s4.trans (s5.trans (s6.trans (s7.trans (s8.trans (s9.trans (s10.trans (s11.trans (s12.trans (s13.trans s14)))))))))) _ _ e3
    have g4 := (s5.trans (s6.trans (s7.trans (s8.trans (s9.trans (s10.trans (s11.trans (s12.trans (s13.trans s14))))))))) _ _ e4
    have g5 := (s6.trans (s7.trans (s8.trans (s9.trans (s10.trans (s11.trans (s12.trans (s13.trans s14)))))))) _ _ e5
    have g6 := (s7.trans (s8.trans (s9.trans (s10.trans (s11.trans (s12.trans (s13.trans s14))))))) _ _ e6
    have g7 := (s8.trans (s9.trans (s10.trans (s11.trans (s12.trans (s13.trans s14)))))) _ _ e7
    have g8 := (s9.trans (s10.trans (s11.trans (s12.trans (s13.trans s14))))) _ _ e8
    have g9 := (s10.trans (s11.trans (s12.trans (s13.trans s14)))) _ _ e9
    have g10 := (s11.trans (s12.trans (s13.trans s14))) _ _ e10
    have g12 := (s13.trans s14) _ _ e12
    have g13 := s14 _ _ e13
    have s0 : Same G G14 := (s1.trans (s2.trans (s3.trans (s4.trans (s5.trans (s6.trans (s7.trans (s8.trans (s9.trans (s10.trans (s11.trans (s12.trans (s13.trans s14)))))))))))))
    walk_at "s"
    refine ⟨G15, R, b, 12, N + 60, bx, rfl, O15, bo, by decide, by decide, fun H16 r16 b16 r160 r161 O16 B16 => ?_⟩
    obtain ⟨Ms, hMs⟩ : ∃ Ms : List (Addr × List Nat), Ms = [(p1, ([0] : List Nat)), (p2, ([1, 0] : List Nat)), (p3, ([0, 1] : List Nat)), (p4, ([0, 2, 1] : List Nat)), (p5, ([2, 1, 0] : List Nat)), (p6, ([0, 1, 2] : List Nat)), (p7, ([1, 0, 3, 2] : List Nat)), (p8, ([2, 3, 0, 1] : List Nat)), (p9, ([0, 3, 2, 1] : List Nat)), (p10, ([0, 1, 2, 3] : List Nat)), (p12, ([1, 0, 2] : List Nat)), (p13, ([3, 2, 1, 0] : List Nat))] := ⟨_, rfl⟩
    obtain ⟨j, rfl⟩ := Int.eq_ofNat_of_zero_le r160
    obtain ⟨q0, eq0⟩ : ∃ q0, Ms[j]? = some q0 := ⟨_, List.getElem?_eq_getElem (by rw [hMs]; show j < 12; omega)⟩
    have gq : G14 q0.1 = some (.lst (vI q0.2)) := by
      have hm := List.mem_of_getElem? eq0
      rw [hMs] at hm
      simp only [List.mem_cons, List.not_mem_nil, or_false] at hm
      rcases hm with rfl | rfl | rfl | rfl | rfl | rfl | rfl | rfl | rfl | rfl | rfl | rfl
      · exact g1
      · exact g2
      · exact g3
      · exact g4
      · exact g5
      · exact g6
      · exact g7
      · exact g8
      · exact g9
      · exact g10
      · exact g12
      · exact g13
    have mq : q0.2 ∈ menuL := by
      have hm : q0.2 ∈ Ms.map (·.2) := List.mem_map.mpr ⟨q0, List.mem_of_getElem? eq0, rfl⟩
      rw [hMs] at hm
      exact hm
    refine x_ixl (v := .ref q0.1) (SqL.of (O16.sub _ _ e15)) (atI_nat (show (Ms.map fun q => V.ref q.1)[j]? = _ by rw [List.getElem?_map, eq0]; rfl) |> fun h => by rw [hMs] at h; exact h) ?_
    obtain ⟨iv, m1, m4⟩ := menu_ok _ mq
    rw [vI_bL] at gq
    obtain ⟨m, hm⟩ : ∃ m, m = q0.2.length := ⟨_, rfl⟩
    obtain ⟨g, hg⟩ : ∃ g : Nat → Nat, g = fun i => q0.2.getD i 0 := ⟨_, rfl⟩
    have iv : Inv2 m g := by rw [hm, hg]; exact iv
    rw [← hm, ← hg] at gq
    rw [← hm] at m1 m4
    walk_at "s"
    refine x_lenl (SqL.of (O16.sub _ _ (s15 _ _ gq))) ?_
    rw [bL_len]
    refine ⟨G15, R, b, m, N, b16, rfl, O16, B16, by omega, fun G17 H17 p17 ns b17 s17 e17 nl O17 B17 => ?_⟩
    walk_at "s"
    refine x_lenl (SqL.of (O17.sub _ _ ((s15.trans s17) _ _ gq))) ?_
    rw [bL_len]
    refine x_rg (by omega) (by omega) ?_
    rw [show ((m : Nat) : Int).toNat = m from Int.toNat_natCast _]
    refine lc_map (by walk_at "n") walk_range O17 (by omega) (fun G' i y => ∃ c, y = .ref c ∧ G' c = some (.tup (vP (nm ns i, nm ns (g i))))) (fun _ _ _ _ s z => let ⟨c, a, b⟩ := z; ⟨c, a, s _ _ b⟩) (fun _ _ _ _ _ _ => True.intro) ?_ gm_name ?_
    · rintro i x G' H' H2' D acc hi s' O' ⟨rfl, rfl⟩ kk
      walk_at "s"
      rw [Int.zero_add]
      refine x_ixl (v := .str (nm ns i)) (SqL.of (O'.sub _ _ (s' _ _ e17))) (atI_nat (by rw [List.getElem?_map, nm_at (by rw [nl.len]; exact hi)]; rfl)) ?_
      walk_at "s"
      refine x_ixl (v := .int (g i : Nat)) (SqL.of (O'.sub _ _ ((s15.trans (s17.trans s')) _ _ gq))) (atI_nat (bL_at g hi)) ?_
      refine x_ixl (v := .str (nm ns (g i))) (SqL.of (O'.sub _ _ (s' _ _ e17))) (atI_nat (by rw [List.getElem?_map, nm_at (by rw [nl.len]; exact (iv i hi).1)]; rfl)) ?_
      walk_at "s"
      refine ⟨by show 2 ≤ sizeLine; decide, x_fix O' fun pt Gt Ht st Ot et => ?_⟩
      exact kk _ _ _ st Ot ⟨pt, rfl, et⟩
    intro G18 H18 p18 ys s18 O18 e18 l18 r18
    obtain ⟨L, rfl, hL⟩ := pulls (b := 0) (f := fun q : Addr × Str × Str => V.ref q.1) (Φ := fun i q => G18 q.1 = some (.tup (vP q.2)) ∧ q.2 = (nm ns i, nm ns (g i))) (fun i y e => by
      obtain ⟨c, rfl, hc⟩ := r18 i y e
      exact ⟨(c, nm ns i, nm ns (g i)), rfl, by rw [Nat.zero_add]; exact ⟨hc, rfl⟩⟩)
    simp only [Nat.zero_add] at hL
    rw [List.length_map] at l18
    have eW : L.map (·.2) = wOf m ns g := by
      unfold wOf
      refine eq_of_rg (f := fun i => (nm ns i, nm ns (g i))) (by rw [List.length_map, l18]) fun i y e => ?_
      rw [List.getElem?_map] at e
      cases e2 : L[i]? with
      | none => rw [e2] at e; cases e
      | some q => rw [e2] at e; cases e; exact (hL i q e2).2
    exact q G18 H18 p18 (wOf m ns g) b17 (s0.trans (s15.trans (s17.trans s18))) ⟨L, e18, fun q hq => by
      obtain ⟨i, hi, rfl⟩ := List.getElem_of_mem hq
      exact (hL i _ (List.getElem?_eq_getElem hi)).1, eW⟩ (ok_wOf nl iv m1 m4) O18 B17
end
end
section
open PySem PySem.Spec PyProof.Rows L2 G
set_option maxHeartbeats 4000000
/-! ### cases, drawn -/
/-- a standing's name and seats -/
abbrev Hd := Str × List Str
def dHd (h : Hd) : PyData := .tuple [.str h.1, .list (h.2.map .str)]
structure CsP (kn st : List Str) (hd : Hd) (c : Cs) : Prop where
  ml : c.ms.length = st.length
  mm : ∀ m ∈ c.ms, MkOk kn m
  wd : Wd c.wd
  gl : c.gl = hd.1
  sl : c.sr.length = hd.2.length
  sr : ∀ x ∈ c.sr, x = wNew ∨ x ∈ st
theorem is_not {ns : List Str} (h : ∀ x ∈ ns, Nm x) : wIs ∉ ns := fun hm => by
  have := (h _ hm).free
  exact absurd this (by decide)
theorem mk_none {kn : List Str} : MkOk kn none := ⟨(fun _ e => nomatch e), (fun _ e => nomatch e), (fun _ e => nomatch e)⟩
theorem take_ne {α : Type} {l : List α} {n : Nat} (h : l ≠ []) : l.take (n + 1) ≠ [] := by
  cases l with
  | nil => exact absurd rfl h
  | cons x l => rw [List.take_succ_cons]; exact List.cons_ne_nil _ _
section
variable {K : PySem.W.Frag} {G H : Hp}
theorem dt_hd {v : V} {h : Hd} (d : Dt K H v (dHd h)) : ∃ a b, v = .ref a ∧ SqT K H a [.str h.1, .ref b] ∧ SqL K H b (h.2.map V.str) := by
  obtain ⟨a, xs, rfl, h1, h2⟩ := dt_tup d
  obtain _ | ⟨e1, t⟩ := h2
  obtain _ | ⟨e2, t⟩ := t
  cases t
  obtain ⟨b, rfl, hb⟩ := dt_strsL e2
  rw [dt_str e1] at h1
  exact ⟨a, b, rfl, h1, hb⟩
end
section
variable {P : Program} {w : World} {K : PySem.W.Frag} {mg : Str → Option Value} {base : Heap} {k : Nat} {kw C D CW : Addr}
abbrev s__law_marks : Stmt := top 49
theorem sc__law_marks : FnScope ["box", "names", "found"] ["box", "names"] (defScope s__law_marks) := ⟨rfl, rfl, rfl, by decide +kernel, rfl, by decide +kernel, by decide +kernel⟩
def sp_mks (K : PySem.W.Frag) : Sp := fun vs H Q _ => ∃ (G : Hp) (R : List (Addr × HO)) (b a : Addr) (m N : Nat) (ns : List Str) (bx : List V), vs = [.ref b, .ref a] ∧ Own G H ((b, .lst bx) :: R) ∧ G a = some (.lst (ns.map V.str)) ∧ NmL m ns ∧ m ≤ 4 ∧ Box (N + 6) bx ∧
  ∀ (G' H' : Hp) (p : Addr) (ms : List Str) bx', Same G G' → MkOk (wIs :: ns) (some ms) → G' p = some (.lst (ms.map V.str)) → Own G' H' ((b, .lst bx') :: R) → Box N bx' → Q (.ref p) H'
theorem ok_mks {f : Addr} {fd : FuncData} (F : Fun K "_law_marks" "_law_marks" s__law_marks f fd) (B : Btt mg) (C__law_take : Cal P w K mg base k "_law_take" ["box", "many"] sp_take) (C__law_mixed : Cal P w K mg base k "_law_mixed" ["box", "items"] (sp_mix K)) : FnG P w K mg base (k + 1) f fd ["box", "names"] (sp_mks K) := by
  refine fnG_of F sc__law_marks (fun vs H Q E h => ?_) (fun cdv A outer s H vs Q E r h => ?_)
  · obtain ⟨_, _, _, _, _, _, _, _, rfl, _⟩ := h
    rfl
  · obtain ⟨G, R, b, a, m, N, ns, bx, rfl, O, ha, nl, m4, bo, q⟩ := h
    refine ⟨_, (pss_cons (ps_set (i := 2) sc__law_marks.nd rfl (Or.inl rfl) (g_call C__law_mixed r (by rfl) passL (pa_cons (pv 0) (pa_cons (pe_op (oAddK (K := K) rfl) (pv 1) (d_lst (pa_cons pe_str pa_nil))) pa_nil))))
       (pss_one (ps_ret (pe_slice (oSlK (K := K) rfl) (pv 2) po_none (po_some (pe_op (oAddK (K := K) rfl) pe_int (g_call C__law_take r (by rfl) passL (pa_cons (pv 0) (pa_cons (pe_callB (cLenK (K := K) rfl) (by rfl) B.len (by decide +kernel) (pa_cons (pv 2) pa_nil)) pa_nil))))))))), ?_⟩
    try dsimp only [cxOf]
    refine x_start (σ' := [some _, some _, none]) rfl ?_
    have ln := nl.len
    walk_at "s"
    refine ⟨by show 1 ≤ sizeLine; decide, x_fix O fun p1 G1 H1 s1 O1 e1 => ?_⟩
    refine x_addl (O1.sub _ _ (s1 _ _ ha)) (O1.sub _ _ e1) (sz20 (by rw [List.length_map]; show ns.length + 1 ≤ _; omega)) (x_fix O1 fun p2 G2 H2 s2 O2 e2 => ?_)
    have e2' : G2 p2 = some (.lst ((ns ++ [wIs]).map V.str)) := by rw [List.map_append]; exact e2
    walk_at "s"
    refine ⟨G2, R, b, p2, (ns ++ [wIs]).map V.str, N + 1, bx, rfl, O2, SqL.of e2', bo.le (by rw [List.length_map, List.length_append, ln]; simp; omega), by rw [List.length_map, List.length_append, ln]; simp; omega, fun G3 H3 p3 ys b3 s3 pm e3 O3 B3 => ?_⟩
    obtain ⟨zs, rfl, pz⟩ := perm_mapf pm
    have lz : zs.length = m + 1 := by rw [pz.length_eq, List.length_append, ln]; rfl
    walk_at "s"
    refine x_lenl (SqL.of (O3.sub _ _ e3)) ?_
    rw [List.length_map, lz]
    refine ⟨G3, R, b, ((m + 1 : Nat) : Int), N, b3, rfl, O3, B3, by omega, by omega, fun H4 r4 b4 r40 r41 O4 B4 => ?_⟩
    obtain ⟨n, rfl⟩ := Int.eq_ofNat_of_zero_le r40
    walk_at "s"
    refine x_slL (SqL.of (O4.sub _ _ e3)) (x_fix O4 fun p5 G5 H5 s5 O5 e5 => ?_)
    rw [show (1 : Int) + ((n : Nat) : Int) = ((n + 1 : Nat) : Int) by omega, cut_map V.str zs (by omega)] at e5
    have nd : (ns ++ [wIs]).Nodup := List.nodup_append.mpr ⟨nl.nd, by simp, fun x hx y hy e => by
      rw [List.mem_singleton] at hy
      rw [e, hy] at hx
      exact is_not nl.nm hx⟩
    refine q G5 H5 p5 (zs.take (n + 1)) b4 (s1.trans (s2.trans (s3.trans s5))) ⟨fun ms e => ?_, fun ms e => ?_, fun ms e x hx => ?_⟩ e5 O5 B4
    · cases e
      exact take_ne (by intro z; rw [z] at lz; cases lz)
    · cases e
      exact (pz.nodup_iff.mpr nd).sublist (List.take_sublist _ _)
    · cases e
      have := pz.mem_iff.mp (List.mem_of_mem_take hx)
      rcases List.mem_append.mp this with h | h
      · exact List.mem_cons_of_mem _ h
      · rw [List.mem_singleton.mp h]; exact List.mem_cons_self
abbrev s__law_case : Stmt := top 50
theorem sc__law_case : FnScope ["box", "names", "seats", "goal", "last", "marks", "sources", "seat"] ["box", "names", "seats", "goal", "last"] (defScope s__law_case) := ⟨rfl, rfl, rfl, by decide +kernel, rfl, by decide +kernel, by decide +kernel⟩
def sp_cas (K : PySem.W.Frag) : Sp := fun vs H Q _ => ∃ (G : Hp) (R : List (Addr × HO)) (b a sa : Addr) (gv : V) (la : Bool) (m N : Nat) (ns st : List Str) (hd : Hd) (bx : List V), vs = [.ref b, .ref a, .ref sa, gv, .bl la] ∧ Own G H ((b, .lst bx) :: R) ∧ G a = some (.lst (ns.map V.str)) ∧ NmL m ns ∧ m ≤ 4 ∧ G sa = some (.lst (st.map V.str)) ∧ st.length ≤ 5 ∧ Dt K G gv (dHd hd) ∧ hd.2.length ≤ 5 ∧ Box (N + 60) bx ∧
  ∀ (G' H' : Hp) (v : V) (c : Cs) bx', Same G G' → Dt K G' v (dCs true c) → CsP (wIs :: ns) st hd c → (la = true → ∀ m ∈ c.ms, m = none) → Own G' H' ((b, .lst bx') :: R) → Box N bx' → Q v H'
theorem ok_cas {f : Addr} {fd : FuncData} (F : Fun K "_law_case" "_law_case" s__law_case f fd) (B : Btt mg) (C__law_take : Cal P w K mg base k "_law_take" ["box", "many"] sp_take) (C__law_marks : Cal P w K mg base k "_law_marks" ["box", "names"] (sp_mks K)) (C__law_word : Cal P w K mg base k "_law_word" ["box"] sp_wrd) : FnG P w K mg base (k + 1) f fd ["box", "names", "seats", "goal", "last"] (sp_cas K) := by
  refine fnG_of F sc__law_case (fun vs H Q E h => ?_) (fun cdv A outer s H vs Q E r h => ?_)
  · obtain ⟨_, _, _, _, _, _, _, _, _, _, _, _, _, rfl, _⟩ := h
    rfl
  · obtain ⟨G, R, b, a, sa, gv, la, m, N, ns, st, hd, bx, rfl, O, ha, nl, m4, hsa, l5, hg, lg, bo, q⟩ := h
    refine ⟨_, (pss_cons (ps_setLc (i := 5) (own := [("seat", 7)]) rfl sc__law_case.nd rfl rfl (sw_true rfl rfl rfl (by decide +kernel)) (pi_sqK (K := K) rfl (pv 2)) (blkOk_by (N := ["box", "names", "seats", "goal", "last", "marks", "sources", "seat"]) (sc := defScope s__law_case) (by decide +kernel)) (fun _ _ _ _ _ => (pg_name (i := 7) sc__law_case.nd rfl (Or.inl rfl))) (fun _ _ _ _ _ => pts_nil) (fun _ _ _ _ _ => (pe_ifExp (PW.pt (pw_or (pt_truK (K := K) rfl (pv 4)) (pw_or1 (pt_cmpR (oEqK (K := K) rfl r) (g_call C__law_take r (by rfl) passL (pa_cons (pv 0) (pa_cons pe_int pa_nil))) pe_int (nomark _))))) pe_non (g_call C__law_marks r (by rfl) passL (pa_cons (pv 0) (pa_cons (pv 1) pa_nil))))))
       (pss_cons (ps_setLc (i := 6) (own := [("seat", 7)]) rfl sc__law_case.nd rfl rfl (sw_true rfl rfl rfl (by decide +kernel)) (pi_sqK (K := K) rfl (pe_ix (ixK (K := K) rfl) (pv 3) pe_int (fun _ _ => rfl))) (blkOk_by (N := ["box", "names", "seats", "goal", "last", "marks", "sources", "seat"]) (sc := defScope s__law_case) (by decide +kernel)) (fun _ _ _ _ _ => (pg_name (i := 7) sc__law_case.nd rfl (Or.inl rfl))) (fun _ _ _ _ _ => pts_nil) (fun _ _ _ _ _ => (pe_ix (ixK (K := K) rfl) (pe_op (oAddK (K := K) rfl) (pv 2) (d_lst (pa_cons pe_str pa_nil))) (g_call C__law_take r (by rfl) passL (pa_cons (pv 0) (pa_cons (pe_op (oAddK (K := K) rfl) (pe_callB (cLenK (K := K) rfl) (by rfl) B.len (by decide +kernel) (pa_cons (pv 2) pa_nil)) pe_int) pa_nil))) (fun _ _ => rfl))))
       (pss_one (ps_ret (d_tup (pa_cons (pv 5) (pa_cons (g_call C__law_word r (by rfl) passL (pa_cons (pv 0) pa_nil)) (pa_cons (pe_ix (ixK (K := K) rfl) (pv 3) pe_int (fun _ _ => rfl)) (pa_cons (pv 6) pa_nil))))))))), ?_⟩
    try dsimp only [cxOf]
    refine x_start (σ' := [some _, some _, some _, some _, some _, none, none, none]) rfl ?_
    obtain ⟨ga, gb, rfl, hga, hgb⟩ := dt_hd hg
    walk_at "s"
    refine x_sqL (SqL.of (O.sub _ _ hsa)) ?_
    refine lc_own (by walk_at "n") walk_list O (fun i G' L' acc => ∃ (b' : List V) (mss : List (Option (List Str))), L' = (b, .lst b') :: R ∧ mss.length = i ∧ DtL K G' acc (mss.map (dMk true)) ∧ (∀ m ∈ mss, MkOk (wIs :: ns) m) ∧ (la = true → ∀ m ∈ mss, m = none) ∧ Box (N + 16 + (44 - 8 * i)) b')
      ⟨bx, [], rfl, rfl, .nil, (fun _ z => nomatch z), (fun _ _ z => nomatch z), bo⟩ (fun i G' H' D L' acc s' O' _ => SqL.of (O'.sub _ _ (s' _ _ hsa))) ?_ ?_
    · rintro i x G' H' H2 D L' acc hi s' O' ⟨b', mss, rfl, lm, dm, om, al, B'⟩ ⟨rfl, ex⟩
      rw [List.length_map] at hi
      have lacc : acc.length = i := by rw [dm.length, List.length_map, lm]
      have non : ∀ (G2 H2 : Hp) (b2 : List V), Same G' G2 → Own G2 H2 ((D, .lst acc) :: (b, .lst b2) :: R) → Box (N + 16 + (44 - 8 * (i + 1))) b2 → LcN G (fun i G' L' acc => ∃ (b' : List V) (mss : List (Option (List Str))), L' = (b, .lst b') :: R ∧ mss.length = i ∧ DtL K G' acc (mss.map (dMk true)) ∧ (∀ m ∈ mss, MkOk (wIs :: ns) m) ∧ (la = true → ∀ m ∈ mss, m = none) ∧ Box (N + 16 + (44 - 8 * i)) b') D i .non H2 := fun G2 H2 b2 s2 O2 B2 => by
        refine lcn (s'.trans s2) O2 (lt_line (by omega)) ⟨b2, mss ++ [none], rfl, by rw [List.length_append, lm]; rfl, ?_, ?_, ?_, B2⟩
        · rw [List.map_append]
          exact dtl_snoc (dm.mono s2) .non
        · intro m hm
          rcases List.mem_append.mp hm with h | h
          · exact om m h
          · rw [List.mem_singleton.mp h]; exact mk_none
        · intro z m hm
          rcases List.mem_append.mp hm with h | h
          · exact al z m h
          · exact List.mem_singleton.mp h
      walk_at "s"
      cases la with
      | true =>
        walk_at "s"
        exact non G' _ b' (Same.refl _) O' (B'.le (by omega))
      | false =>
        walk_at "s"
        refine ⟨G', _, b, 3, N + 16 + (43 - 8 * i), b', rfl, O'.swap, B'.le (by omega), by decide, by decide, fun H3 r3 b3 _ _ O3 B3 => ?_⟩
        walk_at "s"
        refine x_eq rfl ?_
        walk_at "s"
        refine ite_b (fun c => ?_) (fun c => ?_)
        · walk_at "s"
          exact non G' _ b3 (Same.refl _) O3.swap (B3.le (by omega))
        · walk_at "s"
          refine ⟨G', _, b, a, m, N + 16 + (36 - 8 * i), ns, b3, rfl, O3, s' _ _ ha, nl, m4, B3.le (by omega), fun G4 H4 p4 ms b4 s4 mo e4 O4 B4 => ?_⟩
          refine lcn (s'.trans s4) O4.swap (lt_line (by omega)) ⟨b4, mss ++ [some ms], rfl, by rw [List.length_append, lm]; rfl, ?_, ?_, (fun z => nomatch z), B4.le (by omega)⟩
          · rw [List.map_append]
            exact dtl_snoc (dm.mono s4) (.lst (SqL.of e4) (strs_dtl ms))
          · intro m hm
            rcases List.mem_append.mp hm with h | h
            · exact om m h
            · rw [List.mem_singleton.mp h]; exact mo
    · rintro G1 H1 mp L' acc s1 O1 ⟨b1, mss, rfl, lm, dm, om, al, B1⟩
      rw [List.length_map] at lm
      have sf := Same.new (o := .lst acc) O1.no0
      have O2 := O1.frz0
      have e2 : upd G1 mp (.lst acc) mp = some (.lst acc) := upd_same
      generalize upd G1 mp (.lst acc) = G2 at sf O2 e2
      have s2 := s1.trans sf
      walk_at "s"
      refine x_ixt (v := .ref gb) (O2.set (same_t s2 hga)) rfl ?_
      refine x_sqL (O2.seq (s2.seq hgb)) ?_
      refine lc_own (by walk_at "n") walk_list O2 (fun i G' L' acc => ∃ (b' : List V) (sr : List Str), L' = (b, .lst b') :: R ∧ sr.length = i ∧ acc = sr.map V.str ∧ (∀ x ∈ sr, x = wNew ∨ x ∈ st) ∧ Box (N + 11 + (5 - i)) b')
        ⟨b1, [], rfl, rfl, rfl, (fun _ z => nomatch z), B1.le (by omega)⟩ (fun i G' H' D L' acc s' O' _ => O'.seq ((s2.trans s').seq hgb)) ?_ ?_
      · rintro i x G' H' H2' D L' acc hi s' O' ⟨b', sr, rfl, lr, rfl, osr, B'⟩ ⟨rfl, ex⟩
        rw [List.length_map] at hi
        walk_at "s"
        refine ⟨by show 1 ≤ sizeLine; decide, x_fix O' fun p3 G3 H3 s3 O3 e3 => ?_⟩
        have hs3 := (s2.trans (s'.trans s3)) _ _ hsa
        refine x_addl (O3.sub _ _ hs3) (O3.sub _ _ e3) (sz20 (by rw [List.length_map]; show st.length + 1 ≤ _; omega)) (x_fix O3 fun p4 G4 H4 s4 O4 e4 => ?_)
        have e4' : G4 p4 = some (.lst ((st ++ [wNew]).map V.str)) := by rw [List.map_append]; exact e4
        walk_at "s"
        refine x_lenl (SqL.of (O4.sub _ _ (s4 _ _ hs3))) ?_
        rw [List.length_map]
        walk_at "s"
        refine ⟨G4, _, b, ((st.length : Nat) : Int) + 1, N + 11 + (4 - i), b', rfl, O4.swap, B'.le (by omega), by omega, by omega, fun H5 r5 b5 r50 r51 O5 B5 => ?_⟩
        obtain ⟨n, rfl⟩ := Int.eq_ofNat_of_zero_le r50
        have hn : n < (st ++ [wNew]).length := by rw [List.length_append, List.length_singleton]; omega
        refine x_ixl (v := .str (st ++ [wNew])[n]) (SqL.of (O5.sub _ _ e4')) (atI_nat (by rw [List.getElem?_map, List.getElem?_eq_getElem hn]; rfl)) ?_
        refine lcn (s'.trans (s3.trans s4)) O5.swap (lt_line (by rw [List.length_map]; omega)) ⟨b5, sr ++ [(st ++ [wNew])[n]], rfl, by rw [List.length_append, lr]; rfl, by rw [List.map_append]; rfl, fun y hy => ?_, B5.le (by omega)⟩
        rcases List.mem_append.mp hy with h | h
        · exact osr y h
        · rw [List.mem_singleton.mp h]
          rcases List.mem_append.mp (List.getElem_mem hn) with h | h
          · exact .inr h
          · exact .inl (List.mem_singleton.mp h)
      · rintro G3 H3 sp L' acc' s3 O3 ⟨b3, sr, rfl, lr, rfl, osr, B3⟩
        rw [List.length_map] at lr
        have sf3 := Same.new (o := .lst (sr.map V.str)) O3.no0
        have O4 := O3.frz0
        have e4 : upd G3 sp (.lst (sr.map V.str)) sp = some (.lst (sr.map V.str)) := upd_same
        generalize upd G3 sp (.lst (sr.map V.str)) = G4 at sf3 O4 e4
        have s24 := s3.trans sf3
        walk_at "s"
        refine ⟨G4, R, b, N, b3, rfl, O4, B3.le (by omega), fun G5 H5 x b5 s5 hx O5 B5 => ?_⟩
        walk_at "s"
        refine x_ixt (v := .str hd.1) (O5.set (same_t (s2.trans (s24.trans s5)) hga)) rfl ?_
        walk_at "s"
        refine ⟨by show 4 ≤ sizeLine; decide, x_fix O5 fun p6 G6 H6 s6 O6 e6 => ?_⟩
        have s26 := s24.trans (s5.trans s6)
        refine q G6 H6 _ ⟨mss, x, hd.1, sr⟩ b5 (s2.trans s26) ?_ ⟨lm, om, hx, rfl, lr, osr⟩ al O6 B5
        exact .tup (SqT.of e6) (.cons (.lst (SqL.of (s26 _ _ e2)) (dm.mono (sf.trans s26))) (.cons (.str _) (.cons (.str _) (.cons (.lst (SqL.of ((s5.trans s6) _ _ e4)) (strs_dtl sr)) .nil))))
end
end
section
open PySem PySem.Spec PyProof.Rows L2 G
set_option maxHeartbeats 4000000
/-! ### heads of standings -/
structure HdOk (h : Hd) : Prop where
  wd : Wd h.1
  sl : h.2.length ≤ 5
  sn : ∀ x ∈ h.2, Nm x
  sd : h.2.Nodup
structure HdsOk (n : Nat) (hs : List Hd) : Prop where
  len : hs.length = n
  nd : (hs.map (·.1)).Nodup
  ok : ∀ h ∈ hs, HdOk h
  first : ∀ h, hs[0]? = some h → h.2 = []
structure SdP (kn : List Str) (hs : List Hd) (h : Hd) (s : Sd) : Prop where
  nm : s.nm = h.1
  st : s.st = h.2
  c1 : 1 ≤ s.cs.length
  c130 : s.cs.length ≤ 130
  cs : ∀ c ∈ s.cs, ∃ g ∈ hs, CsP kn s.st g c
  last : ∀ c, s.cs[s.cs.length - 1]? = some c → ∀ m ∈ c.ms, m = none
theorem stOk_of {kn : List Str} {n : Nat} {hs : List Hd} {ss : List Sd} (ho : HdsOk n hs) (n1 : 1 ≤ n) (n2 : n ≤ 20000) (hl : ss.length = hs.length) (h : ∀ (i : Nat) (s : Sd) (h : Hd), ss[i]? = some s → hs[i]? = some h → SdP kn hs h s) : StOk kn ss := by
  have hln := ho.len
  have get : ∀ (i : Nat) (s : Sd), ss[i]? = some s → ∃ g, hs[i]? = some g ∧ SdP kn hs g s := fun i s e => by
    have hi := (List.getElem?_eq_some_iff.mp e).1
    exact ⟨_, List.getElem?_eq_getElem (by omega), h i s _ e (List.getElem?_eq_getElem (by omega))⟩
  have en : ss.map (·.nm) = hs.map (·.1) := by
    refine List.ext_getElem? fun i => ?_
    rw [List.getElem?_map, List.getElem?_map]
    cases e : ss[i]? with
    | none => rw [List.getElem?_eq_none (by have := List.getElem?_eq_none_iff.mp e; omega)]; rfl
    | some s =>
      obtain ⟨g, eg, p⟩ := get i s e
      rw [eg]
      exact congrArg some p.nm
  have nd : (ss.map (·.nm)).Nodup := by rw [en]; exact ho.nd
  refine ⟨by omega, by omega, nd, fun s hs' => ?_, fun s e => ?_⟩
  · obtain ⟨i, hi, rfl⟩ := List.getElem_of_mem hs'
    obtain ⟨g, eg, p⟩ := get i _ (List.getElem?_eq_getElem hi)
    have go := ho.ok g (List.mem_of_getElem? eg)
    refine ⟨by rw [p.nm]; exact go.wd, by rw [p.st]; exact go.sl, by rw [p.st]; exact go.sn, by rw [p.st]; exact go.sd, p.c1, p.c130, fun c hc => ?_, p.last⟩
    obtain ⟨g2, hg2, cp⟩ := p.cs c hc
    obtain ⟨j, hj, rfl⟩ := List.getElem_of_mem hg2
    have ej : ss[j]? = some (ss[j]'(by omega)) := List.getElem?_eq_getElem (by omega)
    have pj := h j _ _ ej (List.getElem?_eq_getElem hj)
    have mj : ss[j]'(by omega) ∈ ss := List.getElem_mem (by omega)
    refine ⟨cp.ml, cp.mm, cp.wd, ?_, ?_, cp.sr⟩
    · rw [cp.gl, ← pj.nm]
      exact List.mem_map.mpr ⟨_, mj, rfl⟩
    · rw [cp.sl, cp.gl, ← pj.nm, roomS_of nd mj, pj.st]
  · obtain ⟨g, eg, p⟩ := get 0 s e
    rw [p.st]
    exact ho.first g eg
/-- heads that stand -/
def Hds (G : Hp) (xs : List V) (hs : List Hd) : Prop := xs.length = hs.length ∧ ∀ (i : Nat) (x : V) (h : Hd), xs[i]? = some x → hs[i]? = some h → ∃ a b, x = .ref a ∧ G a = some (.tup [.str h.1, .ref b]) ∧ G b = some (.lst (h.2.map V.str))
theorem Hds.same {G G' : Hp} {xs : List V} {hs : List Hd} (h : Hds G xs hs) (s : Same G G') : Hds G' xs hs := ⟨h.1, fun i x g e1 e2 => let ⟨a, b, e, h1, h2⟩ := h.2 i x g e1 e2; ⟨a, b, e, s _ _ h1, s _ _ h2⟩⟩
theorem Hds.snoc {G : Hp} {xs : List V} {hs : List Hd} {a b : Addr} {h : Hd} (H : Hds G xs hs) (h1 : G a = some (.tup [.str h.1, .ref b])) (h2 : G b = some (.lst (h.2.map V.str))) : Hds G (xs ++ [.ref a]) (hs ++ [h]) := by
  refine ⟨by rw [List.length_append, List.length_append, H.1]; rfl, fun i x g e1 e2 => ?_⟩
  have hl := H.1
  rcases Nat.lt_trichotomy i xs.length with hi | hi | hi
  · rw [List.getElem?_append_left hi] at e1
    rw [List.getElem?_append_left (by omega)] at e2
    exact H.2 i x g e1 e2
  · subst hi
    rw [List.getElem?_append_right (Nat.le_refl _), Nat.sub_self] at e1
    rw [hl, List.getElem?_append_right (Nat.le_refl _), Nat.sub_self] at e2
    cases e1
    cases e2
    exact ⟨a, b, rfl, h1, h2⟩
  · rw [List.getElem?_eq_none (by rw [List.length_append]; simp; omega)] at e1
    cases e1
section
variable {P : Program} {w : World} {K : PySem.W.Frag} {mg : Str → Option Value} {base : Heap} {k : Nat} {kw C D CW : Addr}
abbrev s__law_heads : Stmt := top 51
theorem sc__law_heads : FnScope ["box", "many", "names", "pool", "spot", "letters", "stem", "sizes", "k"] ["box", "many"] (defScope s__law_heads) := ⟨rfl, rfl, rfl, by decide +kernel, rfl, by decide +kernel, by decide +kernel⟩
def sp_hds (K : PySem.W.Frag) : Sp := fun vs H Q _ => ∃ (G : Hp) (R : List (Addr × HO)) (b : Addr) (n N : Nat) (bx : List V), vs = [.ref b, .int (n : Nat)] ∧ Own G H ((b, .lst bx) :: R) ∧ 1 ≤ n ∧ n ≤ 6 ∧ Box (N + 200) bx ∧
  ∀ (G' H' : Hp) (p : Addr) (xs : List V) (hs : List Hd) bx', Same G G' → G' p = some (.lst xs) → Hds G' xs hs → HdsOk n hs → Own G' H' ((b, .lst bx') :: R) → Box N bx' → Q (.ref p) H'
theorem ok_hds {f : Addr} {fd : FuncData} (F : Fun K "_law_heads" "_law_heads" s__law_heads f fd) (B : Btt mg) (C__law_take : Cal P w K mg base k "_law_take" ["box", "many"] sp_take) (C__law_letters : Cal P w K mg base k "_law_letters" ["box", "many"] sp_ltr) (C__law_names : Cal P w K mg base k "_law_names" ["box", "many"] sp_nms) (C__law_taboo : Cal P w K mg base k "_law_taboo" [] sp_tab) (C__law_mixed : Cal P w K mg base k "_law_mixed" ["box", "items"] (sp_mix K)) : FnG P w K mg base (k + 1) f fd ["box", "many"] (sp_hds K) := by
  refine fnG_of F sc__law_heads (fun vs H Q E h => ?_) (fun cdv A outer s H vs Q E r h => ?_)
  · obtain ⟨_, _, _, _, _, _, rfl, _⟩ := h
    rfl
  · obtain ⟨G, R, b, n, N, bx, rfl, O, n1, n6, bo, q⟩ := h
    refine ⟨_, (pss_cons (ps_asg (d_tup (pa_cons (g_call C__law_names r (by rfl) passL (pa_cons (pv 0) (pa_cons (pe_callB (cMin2 rfl) (by rfl) B.min (by decide +kernel) (pa_cons (pv 1) (pa_cons pe_int pa_nil))) pa_nil))) (pa_cons (g_call C__law_names r (by rfl) passL (pa_cons (pv 0) (pa_cons pe_int pa_nil))) (pa_cons (g_call C__law_take r (by rfl) passL (pa_cons (pv 0) (pa_cons pe_int pa_nil))) pa_nil)))) (pg_tupK (K := K) (n := 3) rfl rfl (pgs_cons (pg_name (i := 2) sc__law_heads.nd rfl (Or.inr rfl)) (pgs_cons (pg_name (i := 3) sc__law_heads.nd rfl (Or.inr rfl)) (pgs_cons (pg_name (i := 4) sc__law_heads.nd rfl (Or.inl rfl)) pgs_nil)))))
       (pss_cons (ps_if (PW.pt (pw_and (pt_cmpR oLt (pv 4) pe_int (nomark _)) (pw_and1 (pt_cmpR (oNinK (K := K) rfl) (pe_ix (ixK (K := K) rfl) (g_call0 C__law_taboo r (by rfl) passL) (pv 4) (fun _ _ => rfl)) (pv 2) (by rfl)))))
       (pss_one (ps_set (i := 2) sc__law_heads.nd rfl (Or.inr rfl) (pe_op (oAddK (K := K) rfl) (d_lst (pa_cons (pe_ix (ixK (K := K) rfl) (g_call0 C__law_taboo r (by rfl) passL) (pv 4) (fun _ _ => rfl)) pa_nil)) (pe_slice (oSlK (K := K) rfl) (pv 2) (po_some pe_int) po_none))))
       pss_nil)
       (pss_cons (ps_if (pt_cmpR oGt (pv 1) pe_int (nomark _))
       (pss_cons ps_never
       (pss_one ps_never))
       pss_nil)
       (pss_cons (ps_set (i := 7) sc__law_heads.nd rfl (Or.inr rfl) (pe_lc (own := [("k", 8)]) rfl sc__law_heads.nd (pi_range1 (by rfl) B.range (pa_cons (pe_callB (cMin2 rfl) (by rfl) B.min (by decide +kernel) (pa_cons (pv 1) (pa_cons pe_int pa_nil))) pa_nil)) (blkOk_by (N := ["box", "many", "names", "pool", "spot", "letters", "stem", "sizes", "k"]) (sc := defScope s__law_heads) (by decide +kernel)) (fun _ _ _ _ _ => (pg_name (i := 8) sc__law_heads.nd rfl (Or.inl rfl))) (fun _ _ _ _ _ => pts_nil) (fun _ _ _ _ _ => (pe_ix (ixK (K := K) rfl) (d_lst (pa_cons pe_int (pa_cons pe_int (pa_cons pe_int (pa_cons pe_int (pa_cons pe_int (pa_cons pe_int (pa_cons pe_int (pa_cons pe_int pa_nil))))))))) (g_call C__law_take r (by rfl) passL (pa_cons (pv 0) (pa_cons pe_int pa_nil))) (fun _ _ => rfl)))))
       (pss_one (ps_ret (pe_lc (own := [("k", 8)]) rfl sc__law_heads.nd (pi_range1 (by rfl) B.range (pa_cons (pv 1) pa_nil)) (blkOk_by (N := ["box", "many", "names", "pool", "spot", "letters", "stem", "sizes", "k"]) (sc := defScope s__law_heads) (by decide +kernel)) (fun _ _ _ _ _ => (pg_name (i := 8) sc__law_heads.nd rfl (Or.inl rfl))) (fun _ _ _ _ _ => pts_nil) (fun _ _ _ _ _ => (d_tup (pa_cons (pe_ix (ixK (K := K) rfl) (pv 2) (pv 8) (fun _ _ => rfl)) (pa_cons (pe_slice (oSlK (K := K) rfl) (g_call C__law_mixed r (by rfl) passL (pa_cons (pv 0) (pa_cons (pv 3) pa_nil))) po_none (po_some (pe_ifExp (pt_cmpR (oEqK (K := K) rfl r) (pv 8) pe_int (nomark _)) pe_int (pe_ix (ixK (K := K) rfl) (pv 7) (pe_op op_modN (pe_callTy cInt (by rfl) B.int (by decide +kernel) (pa_cons (pv 8) pa_nil)) (pe_callB (cLenK (K := K) rfl) (by rfl) B.len (by decide +kernel) (pa_cons (pv 7) pa_nil))) (fun _ _ => rfl))))) pa_nil))))))))))), ?_⟩
    try dsimp only [cxOf]
    refine x_start (σ' := [some _, some _, none, none, none, none, none, none, none]) rfl ?_
    walk_at "s"
    refine ⟨_, _, rfl, ?_⟩
    rw [if_neg (by omega)]
    refine ⟨G, R, b, n, N + 140, bx, rfl, O, bo, by omega, fun G1 H1 p1 ns b1 s1 e1 nl O1 B1 => ?_⟩
    walk_at "s"
    refine ⟨G1, R, b, 5, N + 80, b1, rfl, O1, B1, by decide, fun G2 H2 p2 ps b2 s2 e2 pl O2 B2 => ?_⟩
    walk_at "s"
    refine ⟨G2, R, b, 20, N + 79, b2, rfl, O2, B2, by decide, by decide, fun H3 r3 b3 r30 r31 O3 B3 => ?_⟩
    walk_at "s"
    refine ⟨by show 3 ≤ sizeLine; decide, x_fix O3 fun p4 G4 H4 s4 O4 e4 => ?_⟩
    refine x_gT (SqT.of (O4.sub _ _ e4)) rfl ?_
    refine x_gC ?_
    walk_at "n1"
    refine x_gC ?_
    walk_at "n1"
    refine x_gC ?_
    walk_at "n1"
    refine x_gNl ?_
    have s24 := s2.trans s4
    have s04 := s1.trans s24
    have lns := nl.len
    refine x_midS (fun σ H' => ∃ (G' : Hp) (pn : Addr) (ns : List Str), σ = [some (.ref b), some (.int (n : Nat)), some (.ref pn), some (.ref p2), some (.int r3), none, none, none, none] ∧ Same G4 G' ∧ Own G' H' ((b, .lst b3) :: R) ∧ G' pn = some (.lst (ns.map V.str)) ∧ ns.length = n ∧ ns.Nodup ∧ ∀ x ∈ ns, Wd x) (fun n' hn' => ?_) ?_
    · walk_at "s"
      have plain : ∀ (G' H' : Hp), Same G4 G' → Own G' H' ((b, .lst b3) :: R) → n' [some (.ref b), some (.int (n : Nat)), some (.ref p1), some (.ref p2), some (.int r3), none, none, none, none] H' := fun G' H' s' O' => hn' _ _ ⟨G', p1, ns, rfl, s', O', (s24.trans s') _ _ e1, nl.len, nl.nd, fun x hx => (nl.nm x hx).wd⟩
      refine ite_b (fun c => ?_) (fun c => ?_)
      · have c := of_decide_eq_true c
        obtain ⟨j, rfl⟩ := Int.eq_ofNat_of_zero_le r30
        have hj : j < wKept.length := by show j < 15; omega
        walk_at "s"
        refine ⟨G4, _, rfl, O4, fun G5 H5 p5 s5 O5 e5 => ?_⟩
        walk_at "s"
        refine x_ixl (v := .str wKept[j]) (SqL.of (O5.sub _ _ e5)) (atI_nat (by rw [List.getElem?_map, List.getElem?_eq_getElem hj]; rfl)) ?_
        walk_at "s"
        refine x_ninS (ts := ns) (.inl (SqL.of (O5.sub _ _ ((s24.trans s5) _ _ e1)))) ?_
        cases hc : ns.contains wKept[j] with
        | true =>
          refine ⟨false, rfl, ite_f ?_⟩
          walk_at "s"
          exact plain G5 H5 s5 O5
        | false =>
          refine ⟨true, rfl, ite_t ?_⟩
          walk_at "s"
          refine ⟨G5, _, rfl, O5, fun G6 H6 p6 s6 O6 e6 => ?_⟩
          walk_at "s"
          refine x_ixl (v := .str wKept[j]) (SqL.of (O6.sub _ _ e6)) (atI_nat (by rw [List.getElem?_map, List.getElem?_eq_getElem hj]; rfl)) ?_
          walk_at "s"
          refine ⟨by show 1 ≤ sizeLine; decide, x_fix O6 fun p7 G7 H7 s7 O7 e7 => ?_⟩
          have s57 := s5.trans (s6.trans s7)
          walk_at "s"
          refine x_slL (SqL.of (O7.sub _ _ ((s24.trans s57) _ _ e1))) (x_fix O7 fun p8 G8 H8 s8 O8 e8 => ?_)
          match ns, lns, nl, hc, e8 with
          | [], l, _, _, _ => exact absurd l (by rw [List.length_nil]; omega)
          | y0 :: ys, l, nl, hc, e8 =>
            rw [List.map_cons, cut1] at e8
            rw [List.length_cons] at l
            refine x_addl (O8.sub _ _ (s8 _ _ e7)) (O8.sub _ _ e8) (sz20 (by rw [List.length_map]; show 1 + ys.length ≤ _; omega)) (x_fix O8 fun p9 G9 H9 s9 O9 e9 => ?_)
            walk_at "n1"
            have hnin : wKept[j] ∉ y0 :: ys := fun z => by rw [List.contains_iff_mem.mpr z] at hc; cases hc
            refine hn' _ _ ⟨G9, p9, wKept[j] :: ys, rfl, s57.trans (s8.trans s9), O9, e9, by rw [List.length_cons]; exact l, List.nodup_cons.mpr ⟨fun z => hnin (List.mem_cons_of_mem _ z), (List.nodup_cons.mp nl.nd).2⟩, fun x hx => ?_⟩
            rcases List.mem_cons.mp hx with rfl | hx
            · exact kept_wd _ (List.getElem_mem hj)
            · exact (nl.nm x (List.mem_cons_of_mem _ hx)).wd
      · walk_at "s"
        exact plain G4 H4 (Same.refl _) O4
    rintro σ' H5 ⟨G5, pn, ns, rfl, s5, O5, e5, ln, nd, wd⟩
    walk_at "s"
    refine ite_b (fun c => absurd (of_decide_eq_true c) (by omega)) (fun _ => ?_)
    walk_at "s"
    refine ⟨_, _, rfl, ?_⟩
    rw [if_neg (by omega)]
    refine x_rg (by omega) (by omega) ?_
    rw [show ((n : Nat) : Int).toNat = n from Int.toNat_natCast _]
    refine lc_own (by walk_at "n") walk_range O5 (fun i G' L' acc => ∃ (b' : List V) (zs : List Nat), L' = (b, .lst b') :: R ∧ zs.length = i ∧ acc = zs.map (fun z => V.int (z : Nat)) ∧ (∀ z ∈ zs, z ≤ 5) ∧ Box (N + 60 + (6 - i)) b')
      ⟨b3, [], rfl, rfl, rfl, (fun _ z => nomatch z), B3.le (by omega)⟩ (fun _ _ _ _ _ _ _ _ _ => True.intro) ?_ ?_
    · rintro i x G' H' H2' D L' acc hi s' O' ⟨b', zs, rfl, lz, rfl, oz, B'⟩ ⟨rfl, rfl⟩
      walk_at "s"
      refine ⟨by show 8 ≤ sizeLine; decide, x_fix O' fun p6 G6 H6 s6 O6 e6 => ?_⟩
      walk_at "s"
      refine ⟨G6, _, b, 8, N + 60 + (6 - (i + 1)), b', rfl, O6.swap, B'.le (by omega), by decide, by decide, fun H7 r7 b7 r70 r71 O7 B7 => ?_⟩
      obtain ⟨z, hz, ez⟩ := pick_nat (ls := [1, 2, 0, 3, 5, 4, 1, 2]) r70 r71
      refine x_ixl (v := .int (z : Nat)) (SqL.of (O7.sub _ _ e6)) ez ?_
      refine lcn (s'.trans s6) O7.swap (lt_line (by rw [List.length_map]; omega)) ⟨b7, zs ++ [z], rfl, by rw [List.length_append, lz]; rfl, by rw [List.map_append]; rfl, fun y hy => ?_, B7⟩
      rcases List.mem_append.mp hy with h | h
      · exact oz y h
      · rw [List.mem_singleton.mp h]
        have : ∀ z ∈ ([1, 2, 0, 3, 5, 4, 1, 2] : List Nat), z ≤ 5 := by decide
        exact this z hz
    · rintro G6 H6 zp L' acc s6 O6 ⟨b6, zs, rfl, lz, rfl, oz, B6⟩
      have sf := Same.new (o := .lst (zs.map fun z => V.int (z : Nat))) O6.no0
      have O7 := O6.frz0
      have e7 : upd G6 zp (.lst (zs.map fun z => V.int (z : Nat))) zp = some (.lst (zs.map fun z => V.int (z : Nat))) := upd_same
      generalize upd G6 zp (.lst (zs.map fun z => V.int (z : Nat))) = G7 at sf O7 e7
      have s57 := s6.trans sf
      have s27 := s4.trans (s5.trans s57)
      walk_at "s"
      refine x_rg (by omega) (by omega) ?_
      rw [show ((n : Nat) : Int).toNat = n from Int.toNat_natCast _]
      refine lc_own (by walk_at "n") walk_range O7 (fun i G' L' acc => ∃ (b' : List V) (hs : List Hd), L' = (b, .lst b') :: R ∧ hs.length = i ∧ Hds G' acc hs ∧ (∀ h ∈ hs, HdOk h) ∧ hs.map (·.1) = ns.take i ∧ (∀ h, hs[0]? = some h → h.2 = []) ∧ Box (N + (30 - 5 * i)) b')
        ⟨b6, [], rfl, rfl, ⟨rfl, fun i x h e => by simp at e⟩, (fun _ z => nomatch z), rfl, (fun _ z => nomatch z), B6.le (by omega)⟩ (fun _ _ _ _ _ _ _ _ _ => True.intro) ?_ ?_
      · rintro i x G' H' H2' D L' acc hi s' O' ⟨b', hs, rfl, lh, dh, oh, eh, fh, B'⟩ ⟨rfl, rfl⟩
        obtain ⟨y, ey⟩ : ∃ y, ns[i]? = some y := ⟨_, List.getElem?_eq_getElem (by omega)⟩
        walk_at "s"
        rw [Int.zero_add]
        refine x_ixl (v := .str y) (SqL.of (O'.sub _ _ ((s57.trans s') _ _ e5))) (atI_nat (by rw [List.getElem?_map, ey]; rfl)) ?_
        walk_at "s"
        have lps := pl.len
        refine ⟨G', _, b, p2, ps.map V.str, N + (30 - 5 * (i + 1)), b', rfl, O'.swap, SqL.of ((s27.trans s') _ _ e2), B'.le (by rw [List.length_map, lps]; omega), by rw [List.length_map, lps]; omega, fun G8 H8 p8 ys b8 s8 pm e8 O8 B8 => ?_⟩
        obtain ⟨qs, rfl, pq⟩ := perm_mapf pm
        have lq : qs.length = 5 := by rw [pq.length_eq, lps]
        walk_at "s"
        have fin : ∀ j : Nat, j ≤ 5 → (i = 0 → j = 0) → ∀ (G9 H9 : Hp) (p9 : Addr), Same G8 G9 → Own G9 H9 ((b, .lst b8) :: (D, .lst acc) :: R) → G9 p9 = some (.lst ((qs.take j).map V.str)) → ∀ (Gt Ht : Hp) (pt : Addr), Same G9 Gt → Own Gt Ht ((b, .lst b8) :: (D, .lst acc) :: R) → Gt pt = some (.tup [.str y, .ref p9]) → LcN G7 (fun i G' L' acc => ∃ (b' : List V) (hs : List Hd), L' = (b, .lst b') :: R ∧ hs.length = i ∧ Hds G' acc hs ∧ (∀ h ∈ hs, HdOk h) ∧ hs.map (·.1) = ns.take i ∧ (∀ h, hs[0]? = some h → h.2 = []) ∧ Box (N + (30 - 5 * i)) b') D i (.ref pt) Ht := by
          intro j hj5 hj0 G9 H9 p9 s9 O9 e9 Gt Ht pt st Ot et
          have hok : HdOk (y, qs.take j) := ⟨wd y (List.mem_of_getElem? ey), by show (qs.take j).length ≤ 5; rw [List.length_take]; omega, fun x hx => pl.nm x (pq.mem_iff.mp (List.mem_of_mem_take hx)), (pq.nodup_iff.mpr pl.nd).sublist (List.take_sublist _ _)⟩
          refine lcn (s'.trans (s8.trans (s9.trans st))) Ot.swap (lt_line (by rw [dh.1]; omega)) ⟨b8, hs ++ [(y, qs.take j)], rfl, by rw [List.length_append, lh]; rfl, (dh.same (s8.trans (s9.trans st))).snoc et (st _ _ e9), fun h hm => ?_, ?_, fun h e => ?_, B8⟩
          · rcases List.mem_append.mp hm with hm | hm
            · exact oh h hm
            · rw [List.mem_singleton.mp hm]; exact hok
          · rw [List.map_append, eh, take_snoc ey]
            rfl
          · rcases Nat.eq_zero_or_pos i with hi0 | hi0
            · have : hs = [] := List.length_eq_zero_iff.mp (by rw [lh, hi0])
              rw [this] at e
              cases e
              rw [hj0 hi0]
              rfl
            · rw [List.getElem?_append_left (by omega)] at e
              exact fh h e
        refine x_eq rfl ?_
        walk_at "s"
        rcases Nat.eq_zero_or_pos i with hi0 | hi0
        · rw [decide_eq_true (show V.int (i : Nat) = V.int 0 by rw [hi0]; rfl)]
          walk_at "s"
          refine x_slL (SqL.of (O8.sub _ _ e8)) (x_fix O8 fun p9 G9 H9 s9 O9 e9 => ?_)
          rw [show (0 : Int) = ((0 : Nat) : Int) from rfl, cut_map V.str qs (Nat.zero_le _)] at e9
          walk_at "s"
          refine ⟨by show 2 ≤ sizeLine; decide, x_fix O9 fun pt Gt Ht st Ot et => ?_⟩
          exact fin 0 (by omega) (fun _ => rfl) G9 H9 p9 s9 O9 e9 Gt Ht pt st Ot et
        · rw [decide_eq_false (fun e : V.int (i : Nat) = V.int 0 => by have := V.int.inj e; omega)]
          walk_at "s"
          have ez := (s'.trans s8) _ _ e7
          refine x_lenl (SqL.of (O8.sub _ _ ez)) ?_
          rw [List.length_map, lz]
          refine x_rI (by omega) ?_
          rw [Int.fmod_eq_emod_of_nonneg _ (by omega), show ((i : Nat) : Int) % ((n : Nat) : Int) = ((i % n : Nat) : Int) from (Int.natCast_emod i n).symm]
          have him : i % n < zs.length := by rw [lz]; exact Nat.mod_lt _ (by omega)
          refine x_ixl (v := .int (zs[i % n] : Nat)) (SqL.of (O8.sub _ _ ez)) (atI_nat (by rw [List.getElem?_map, List.getElem?_eq_getElem him]; rfl)) ?_
          have z5 := oz _ (List.getElem_mem him)
          generalize zs[i % n] = z at z5
          walk_at "s"
          refine x_slL (SqL.of (O8.sub _ _ e8)) (x_fix O8 fun p9 G9 H9 s9 O9 e9 => ?_)
          rw [cut_map V.str qs (by omega)] at e9
          walk_at "s"
          refine ⟨by show 2 ≤ sizeLine; decide, x_fix O9 fun pt Gt Ht st Ot et => ?_⟩
          exact fin z z5 (fun h => by omega) G9 H9 p9 s9 O9 e9 Gt Ht pt st Ot et
      · rintro G8 H8 hp L' acc s8 O8 ⟨b8, hs, rfl, lh, dh, oh, eh, fh, B8⟩
        have sg := Same.new (o := .lst acc) O8.no0
        rw [List.take_of_length_le (by omega)] at eh
        refine q _ H8 hp acc hs b8 (s04.trans (s5.trans (s57.trans (s8.trans sg)))) upd_same (dh.same sg) ⟨lh, by rw [eh]; exact nd, oh, fh⟩ O8.frz0 (B8.le (by omega))
end
end
section
open PySem PySem.Spec PyProof.Rows L2 G
set_option maxHeartbeats 4000000
def HdAt (G : Hp) (x : V) (h : Hd) : Prop := ∃ a b, x = .ref a ∧ G a = some (.tup [.str h.1, .ref b]) ∧ G b = some (.lst (h.2.map V.str))
theorem HdAt.same {G G' : Hp} {x : V} {h : Hd} (H : HdAt G x h) (s : Same G G') : HdAt G' x h := let ⟨a, b, e, h1, h2⟩ := H; ⟨a, b, e, s _ _ h1, s _ _ h2⟩
theorem HdAt.dt {K : PySem.W.Frag} {G : Hp} {x : V} {h : Hd} (H : HdAt G x h) : Dt K G x (dHd h) := by
  obtain ⟨a, b, rfl, h1, h2⟩ := H
  exact .tup (SqT.of h1) (.cons (.str _) (.cons (.lst (SqL.of h2) (strs_dtl _)) .nil))
section
variable {P : Program} {w : World} {K : PySem.W.Frag} {mg : Str → Option Value} {base : Heap} {k : Nat} {kw C D CW : Addr}
abbrev s__law_standings : Stmt := top 52
theorem sc__law_standings : FnScope ["box", "names", "many", "heads", "found", "name", "seats", "size", "goals", "cases", "k"] ["box", "names", "many"] (defScope s__law_standings) := ⟨rfl, rfl, rfl, by decide +kernel, rfl, by decide +kernel, by decide +kernel⟩
def sp_sts (K : PySem.W.Frag) : Sp := fun vs H Q _ => ∃ (G : Hp) (R : List (Addr × HO)) (b a : Addr) (m n N : Nat) (ns : List Str) (bx : List V), vs = [.ref b, .ref a, .int (n : Nat)] ∧ Own G H ((b, .lst bx) :: R) ∧ G a = some (.lst (ns.map V.str)) ∧ NmL m ns ∧ m ≤ 4 ∧ 1 ≤ n ∧ n ≤ 6 ∧ Box (N + 1400) bx ∧
  ∀ (G' H' : Hp) (p : Addr) (xs : List V) (ss : List Sd) bx', Same G G' → G' p = some (.lst xs) → DtL K G' xs (ss.map (dSd true)) → StOk (wIs :: ns) ss → ss.length ≤ 6 → Own G' H' ((b, .lst bx') :: R) → Box N bx' → Q (.ref p) H'
theorem ok_sts {f : Addr} {fd : FuncData} (F : Fun K "_law_standings" "_law_standings" s__law_standings f fd) (B : Btt mg) (C__law_take : Cal P w K mg base k "_law_take" ["box", "many"] sp_take) (C__law_heads : Cal P w K mg base k "_law_heads" ["box", "many"] (sp_hds K)) (C__law_case : Cal P w K mg base k "_law_case" ["box", "names", "seats", "goal", "last"] (sp_cas K)) : FnG P w K mg base (k + 1) f fd ["box", "names", "many"] (sp_sts K) := by
  refine fnG_of F sc__law_standings (fun vs H Q E h => ?_) (fun cdv A outer s H vs Q E r h => ?_)
  · obtain ⟨_, _, _, _, _, _, _, _, _, rfl, _⟩ := h
    rfl
  · obtain ⟨G, R, b, a, m, n, N, ns, bx, rfl, O, ha, nl, m4, n1, n6, bo, q⟩ := h
    refine ⟨_, (pss_cons (ps_asg (d_tup (pa_cons (g_call C__law_heads r (by rfl) passL (pa_cons (pv 0) (pa_cons (pv 2) pa_nil))) (pa_cons (d_lst pa_nil) pa_nil))) (pg_tupK (K := K) (n := 2) rfl rfl (pgs_cons (pg_name (i := 3) sc__law_standings.nd rfl (Or.inr rfl)) (pgs_cons (pg_name (i := 4) sc__law_standings.nd rfl (Or.inl rfl)) pgs_nil))))
       (pss_cons (ps_for (passes_of rfl) rfl (pi_sqK (K := K) rfl (pv 3)) (pg_tupK (K := K) (n := 2) rfl rfl (pgs_cons (pg_name (i := 5) sc__law_standings.nd rfl (Or.inl rfl)) (pgs_cons (pg_name (i := 6) sc__law_standings.nd rfl (Or.inr rfl)) pgs_nil)))
       (pss_cons (ps_set (i := 7) sc__law_standings.nd rfl (Or.inr rfl) (pe_ifExp (pt_cmpR oLt (pv 2) pe_int (nomark _)) (pe_ix (ixK (K := K) rfl) (d_lst (pa_cons pe_int (pa_cons pe_int (pa_cons pe_int (pa_cons pe_int pa_nil))))) (g_call C__law_take r (by rfl) passL (pa_cons (pv 0) (pa_cons pe_int pa_nil))) (fun _ _ => rfl)) pe_int))
       (pss_cons (ps_set (i := 8) sc__law_standings.nd rfl (Or.inr rfl) (pe_lc (own := [("k", 10)]) rfl sc__law_standings.nd (pi_range1 (by rfl) B.range (pa_cons (pv 7) pa_nil)) (blkOk_by (N := ["box", "names", "many", "heads", "found", "name", "seats", "size", "goals", "cases", "k"]) (sc := defScope s__law_standings) (by decide +kernel)) (fun _ _ _ _ _ => (pg_name (i := 10) sc__law_standings.nd rfl (Or.inl rfl))) (fun _ _ _ _ _ => pts_nil) (fun _ _ _ _ _ => (pe_ix (ixK (K := K) rfl) (pv 3) (g_call C__law_take r (by rfl) passL (pa_cons (pv 0) (pa_cons (pv 2) pa_nil))) (fun _ _ => rfl)))))
       (pss_cons (ps_setLc (i := 9) (own := [("k", 10)]) rfl sc__law_standings.nd rfl rfl (sw_true rfl rfl rfl (by decide +kernel)) (pi_range1 (by rfl) B.range (pa_cons (pv 7) pa_nil)) (blkOk_by (N := ["box", "names", "many", "heads", "found", "name", "seats", "size", "goals", "cases", "k"]) (sc := defScope s__law_standings) (by decide +kernel)) (fun _ _ _ _ _ => (pg_name (i := 10) sc__law_standings.nd rfl (Or.inl rfl))) (fun _ _ _ _ _ => pts_nil) (fun _ _ _ _ _ => (g_call C__law_case r (by rfl) passL (pa_cons (pv 0) (pa_cons (pv 1) (pa_cons (pv 6) (pa_cons (pe_ix (ixK (K := K) rfl) (pv 8) (pv 10) (fun _ _ => rfl)) (pa_cons (pe_cmpR (oEqK (K := K) rfl r) (pv 10) (pe_op op_sub (pv 7) pe_int) (nomark _)) pa_nil))))))))
       (pss_one (ps_expr (pe_bmK' (K := K) rfl PySem.F.plainAttrs_list PySem.F.slot_list_append PySem.F.type_list_append mApp (pv 4) (pa_cons (d_tup (pa_cons (pv 5) (pa_cons (pv 6) (pa_cons (pv 9) pa_nil)))) pa_nil))))))))
       (pss_one (ps_ret (pv 4))))), ?_⟩
    try dsimp only [cxOf]
    refine x_start (σ' := [some _, some _, some _, none, none, none, none, none, none, none, none]) rfl ?_
    walk_at "s"
    refine ⟨G, R, b, n, N + 1200, bx, rfl, O, n1, n6, bo, fun G1 H1 hp xs hs b1 s1 e1 hd ho O1 B1 => ?_⟩
    walk_at "s"
    refine ⟨by show 0 ≤ sizeLine; decide, x_new O1 fun fp H2 O2 => ?_⟩
    walk_at "s"
    refine ⟨by show 2 ≤ sizeLine; decide, x_fix O2 fun p3 G3 H3 s3 O3 e3 => ?_⟩
    refine x_gT (SqT.of (O3.sub _ _ e3)) rfl ?_
    refine x_gC ?_
    walk_at "n1"
    refine x_gC ?_
    walk_at "n1"
    refine x_gNl ?_
    walk_at "s"
    have s03 := s1.trans s3
    have e1' := s3 _ _ e1
    have hd3 := hd.same s3
    have hl := ho.len
    have lx := hd.1
    refine x_sqL (SqL.of (O3.sub _ _ e1')) ?_
    refine for_own walk_list O3 (fun i σ' G' L' => ∃ (b' acc : List V) (ss : List Sd) (x5 x6 x7 x8 x9 : Option V), L' = (fp, .lst acc) :: (b, .lst b') :: R ∧ ss.length = i ∧ DtL K G' acc (ss.map (dSd true)) ∧ (∀ (j : Nat) (s : Sd) (h : Hd), ss[j]? = some s → hs[j]? = some h → SdP (wIs :: ns) hs h s) ∧ Box (N + 200 * (6 - i)) b' ∧ σ' = [some (.ref b), some (.ref a), some (.int (n : Nat)), some (.ref hp), some (.ref fp), x5, x6, x7, x8, x9, none])
      ⟨b1, [], [], _, _, _, _, _, rfl, rfl, .nil, (fun j s h e => by simp at e), B1, rfl⟩ (fun i σ' G' H' L' s' O' _ => SqL.of (O'.sub _ _ (s' _ _ e1'))) ?_ ?_
    · rintro i x σ' G' H' H2' L' hi s' O' ⟨b', acc, ss, x5, x6, x7, x8, x9, rfl, ls, da, sp, B', rfl⟩ ⟨rfl, ex⟩
      obtain ⟨hdi, eh⟩ : ∃ h, hs[i]? = some h := ⟨_, List.getElem?_eq_getElem (by omega)⟩
      obtain ⟨pa, pb, rfl, hpa, hpb⟩ := hd3.2 i x hdi ex eh
      have hok := ho.ok hdi (List.mem_of_getElem? eh)
      refine x_gT (SqT.of (O'.sub _ _ (s' _ _ hpa))) rfl ?_
      refine x_gC ?_
      walk_at "n1"
      refine x_gC ?_
      walk_at "n1"
      refine x_gNl ?_
      refine x_midS (fun σ H' => ∃ (G4 : Hp) (b4 : List V) (z : Nat), σ = [some (.ref b), some (.ref a), some (.int (n : Nat)), some (.ref hp), some (.ref fp), some (.str hdi.1), some (.ref pb), some (.int (z : Nat)), x8, x9, none] ∧ Same G' G4 ∧ Own G4 H' ((fp, .lst acc) :: (b, .lst b4) :: R) ∧ 1 ≤ z ∧ z ≤ 3 ∧ Box (N + 200 * (6 - (i + 1)) + 199) b4) (fun n' hn' => ?_) ?_
      · walk_at "s"
        rw [decide_eq_true (show ((n : Nat) : Int) < 27 by omega)]
        walk_at "s"
        refine ⟨by show 4 ≤ sizeLine; decide, x_fix O' fun p4 G4 H4 s4 O4 e4 => ?_⟩
        walk_at "s"
        refine ⟨G4, _, b, 4, N + 200 * (6 - (i + 1)) + 199, b', rfl, O4.swap, B'.le (by omega), by decide, by decide, fun H5 r5 b5 r50 r51 O5 B5 => ?_⟩
        obtain ⟨z, hz, ez⟩ := pick_nat (ls := [1, 2, 3, 1]) r50 r51
        refine x_ixl (v := .int (z : Nat)) (SqL.of (O5.sub _ _ e4)) ez ?_
        walk_at "s"
        have : ∀ z ∈ ([1, 2, 3, 1] : List Nat), 1 ≤ z ∧ z ≤ 3 := by decide
        exact hn' _ _ ⟨G4, b5, z, rfl, s4, O5.swap, (this z hz).1, (this z hz).2, B5⟩
      rintro σ4 H4 ⟨G4, b4, z, rfl, s4, O4, z1, z3, B4⟩
      have s14 := s'.trans s4
      walk_at "s"
      refine x_rg (by omega) (by omega) ?_
      rw [show ((z : Nat) : Int).toNat = z from Int.toNat_natCast _]
      refine lc_own (by walk_at "n") walk_range O4 (fun j G' L' gs => ∃ b' : List V, L' = (fp, .lst acc) :: (b, .lst b') :: R ∧ gs.length = j ∧ (∀ (l : Nat) (y : V), gs[l]? = some y → ∃ h ∈ hs, HdAt G' y h) ∧ Box (N + 200 * (6 - (i + 1)) + 196 + (3 - j)) b')
        ⟨b4, rfl, rfl, (fun l y e => by simp at e), B4.le (by omega)⟩ (fun _ _ _ _ _ _ _ _ _ => True.intro) ?_ ?_
      · rintro j x G5 H5 H5' D5 L5 gs hj s5 O5 ⟨b', rfl, lg, hg, B'⟩ ⟨rfl, rfl⟩
        walk_at "s"
        refine ⟨G5, _, b, ((n : Nat) : Int), N + 200 * (6 - (i + 1)) + 196 + (3 - (j + 1)), b', rfl, O5.rot3, B'.le (by omega), by omega, by omega, fun H6 r6 b6 r60 r61 O6 B6 => ?_⟩
        obtain ⟨t, rfl⟩ := Int.eq_ofNat_of_zero_le r60
        have ht : t < xs.length := by omega
        have e1'' := (s14.trans s5) _ _ e1'
        refine x_ixl (v := xs[t]) (SqL.of (O6.sub _ _ e1'')) (atI_nat (List.getElem?_eq_getElem ht)) ?_
        have O6' := O6.perm ((List.Perm.swap _ _ _).trans (List.Perm.cons _ (List.Perm.swap _ _ _)))
        refine lcn s5 O6' (lt_line (by omega)) ⟨b6, rfl, by rw [List.length_append, lg]; rfl, fun l y e => ?_, B6⟩
        rcases Nat.lt_trichotomy l gs.length with h | h | h
        · rw [List.getElem?_append_left h] at e
          exact hg l y e
        · subst h
          rw [List.getElem?_append_right (Nat.le_refl _), Nat.sub_self] at e
          cases e
          have ht2 : t < hs.length := by omega
          exact ⟨hs[t], List.getElem_mem ht2, (HdAt.same (hd3.2 t _ _ (List.getElem?_eq_getElem ht) (List.getElem?_eq_getElem ht2)) (s14.trans s5))⟩
        · rw [List.getElem?_eq_none (by rw [List.length_append]; simp; omega)] at e
          cases e
      · rintro G5 H5 gp L5 gs s5 O5 ⟨b5, rfl, lg, hg, B5⟩
        have sf := Same.new (o := .lst gs) O5.no0
        have O6 := O5.frz0
        have e6 : upd G5 gp (.lst gs) gp = some (.lst gs) := upd_same
        have hg6 : ∀ (l : Nat) (y : V), gs[l]? = some y → ∃ h ∈ hs, HdAt (upd G5 gp (.lst gs)) y h := fun l y e => let ⟨h, a, b⟩ := hg l y e; ⟨h, a, b.same sf⟩
        generalize upd G5 gp (.lst gs) = G6 at sf O6 e6 hg6
        have s16 := s14.trans (s5.trans sf)
        walk_at "s"
        refine x_rg (by omega) (by omega) ?_
        rw [show ((z : Nat) : Int).toNat = z from Int.toNat_natCast _]
        refine lc_own (by walk_at "n") walk_range O6 (fun j G' L' ca => ∃ (b' : List V) (cs : List Cs), L' = (fp, .lst acc) :: (b, .lst b') :: R ∧ cs.length = j ∧ DtL K G' ca (cs.map (dCs true)) ∧ (∀ c ∈ cs, ∃ g ∈ hs, CsP (wIs :: ns) hdi.2 g c) ∧ (∀ c, cs[z - 1]? = some c → ∀ m ∈ c.ms, m = none) ∧ Box (N + 200 * (6 - (i + 1)) + (180 - 60 * j)) b')
          ⟨b5, [], rfl, rfl, .nil, (fun _ z => nomatch z), (fun c e => by simp at e), B5.le (by omega)⟩ (fun _ _ _ _ _ _ _ _ _ => True.intro) ?_ ?_
        · rintro j x G7 H7 H7' D7 L7 ca hj s7 O7 ⟨b', cs, rfl, lc, dc, hc, lst, B'⟩ ⟨rfl, rfl⟩
          obtain ⟨y, ey⟩ : ∃ y, gs[j]? = some y := ⟨_, List.getElem?_eq_getElem (by omega)⟩
          obtain ⟨g, hgm, hga⟩ := hg6 j y ey
          walk_at "s"
          rw [Int.zero_add]
          refine x_ixl (v := y) (SqL.of (O7.sub _ _ (s7 _ _ e6))) (atI_nat ey) ?_
          walk_at "s"
          refine x_eq rfl ?_
          walk_at "s"
          have s17 := s16.trans s7
          refine ⟨G7, _, b, a, pb, y, _, m, N + 200 * (6 - (i + 1)) + (180 - 60 * (j + 1)), ns, hdi.2, g, b', rfl, O7.rot3, (s03.trans s17) _ _ ha, nl, m4, s17 _ _ hpb, hok.sl, (hga.same s7).dt, (ho.ok g hgm).sl, B'.le (by omega), fun G8 H8 v8 c b8 s8 dv cp la O8 B8 => ?_⟩
          have O8' := O8.perm ((List.Perm.swap _ _ _).trans (List.Perm.cons _ (List.Perm.swap _ _ _)))
          refine lcn (s7.trans s8) O8' (lt_line (by rw [dc.length, List.length_map]; omega)) ⟨b8, cs ++ [c], rfl, by rw [List.length_append, lc]; rfl, by rw [List.map_append]; exact dtl_snoc (dc.mono s8) dv, fun c' hc' => ?_, fun c' e => ?_, B8⟩
          · rcases List.mem_append.mp hc' with h | h
            · exact hc c' h
            · rw [List.mem_singleton.mp h]; exact ⟨g, hgm, cp⟩
          · rcases Nat.lt_trichotomy (z - 1) cs.length with h | h | h
            · rw [List.getElem?_append_left h] at e
              exact lst c' e
            · rw [h, List.getElem?_append_right (Nat.le_refl _), Nat.sub_self] at e
              cases e
              refine la (decide_eq_true ?_)
              have : ((j : Nat) : Int) = ((z : Nat) : Int) - 1 := by omega
              rw [this]
            · rw [List.getElem?_eq_none (by rw [List.length_append]; simp; omega)] at e
              cases e
        · rintro G7 H7 cp L7 ca s7 O7 ⟨b7, cs, rfl, lc, dc, hc, lst, B7⟩
          have sf7 := Same.new (o := .lst ca) O7.no0
          have O8 := O7.frz0
          have e8 : upd G7 cp (.lst ca) cp = some (.lst ca) := upd_same
          have dc8 := dc.mono sf7
          generalize upd G7 cp (.lst ca) = G8 at sf7 O8 e8 dc8
          have s18 := s16.trans (s7.trans sf7)
          walk_at "s"
          refine ⟨ty_l (SqL.of O8.at0), ?_⟩
          walk_at "s"
          refine ⟨by show 3 ≤ sizeLine; decide, x_fix O8 fun p9 G9 H9 s9 O9 e9 => ?_⟩
          walk_at "s"
          refine x_app O9.at0 (lt_line (by rw [da.length, List.length_map]; omega)) (x_md0 O9 fun Ha Oa => ?_)
          walk_at "s"
          have s19 := s18.trans s9
          have s49 := s4.trans (s5.trans (sf.trans (s7.trans (sf7.trans s9))))
          refine fvh (s'.trans s49) Oa ⟨b7, _, ss ++ [⟨hdi.1, hdi.2, cs⟩], _, _, _, _, _, rfl, by rw [List.length_append, ls]; rfl, ?_, fun j s h e1 e2 => ?_, B7.le (by omega), rfl⟩
          · rw [List.map_append]
            exact dtl_snoc (da.mono s49) (.tup (SqT.of e9) (.cons (.str _) (.cons (.lst (SqL.of (s19 _ _ hpb)) (strs_dtl _)) (.cons (.lst (SqL.of (s9 _ _ e8)) (dc8.mono s9)) .nil))))
          · rcases Nat.lt_trichotomy j ss.length with hj | hj | hj
            · rw [List.getElem?_append_left hj] at e1
              exact sp j s h e1 e2
            · subst hj
              rw [List.getElem?_append_right (Nat.le_refl _), Nat.sub_self] at e1
              cases e1
              rw [ls, eh] at e2
              cases e2
              exact ⟨rfl, rfl, by show 1 ≤ cs.length; omega, by show cs.length ≤ 130; omega, hc, fun c e => lst c (by rw [show cs.length - 1 = z - 1 by omega] at e; exact e)⟩
            · rw [List.getElem?_eq_none (by rw [List.length_append]; simp; omega)] at e1
              cases e1
    · rintro σ' G' H' L' s' O' ⟨b', acc, ss, x5, x6, x7, x8, x9, rfl, ls, da, sp, B', rfl⟩
      walk_at "s"
      have sg := Same.new (o := .lst acc) O'.no0
      exact q _ H' fp acc ss b' (s03.trans (s'.trans sg)) upd_same (da.mono sg) (stOk_of ho n1 (by omega) (by omega) sp) (by omega) O'.frz0 (B'.le (by omega))
end
end
end M04
set_option maxHeartbeats 4000000
namespace M04
open PySem PySem.Spec PyProof.Rows L2 G
/-! ### displays of data, with draws within -/
section
variable {K : PySem.W.Frag} {G0 : Hp} {b : Addr} {R : List (Addr × HO)} {σ : L2.St} {te : TE} {t : TA} {n n1 n2 m : Nat} {ι κ : Type} {f : ι → PyData} {g : κ → List PyData} {fs : ι → List PyData}
def DB (K : PySem.W.Frag) (G0 : Hp) (b : Addr) (R : List (Addr × HO)) (σ : L2.St) (te : TE) (n : Nat) {ι : Type} (f : ι → PyData) : Prop :=
  ∀ (G H : Hp) (N : Nat) (bx : List V) (Q : VK), Same G0 G → Own G H ((b, .lst bx) :: R) → Box (N + n) bx → (∀ (G' H' : Hp) (v : V) (i : ι) (bx' : List V), Same G G' → Own G' H' ((b, .lst bx') :: R) → Box N bx' → Dt K G' v (f i) → Q v H') → te σ H Q
def DBA (K : PySem.W.Frag) (G0 : Hp) (b : Addr) (R : List (Addr × HO)) (σ : L2.St) (t : TA) (n m : Nat) {ι : Type} (f : ι → List PyData) : Prop := (∀ i, (f i).length = m) ∧
  ∀ (G H : Hp) (N : Nat) (bx : List V) (Q : List V → Hp → Prop), Same G0 G → Own G H ((b, .lst bx) :: R) → Box (N + n) bx → (∀ (G' H' : Hp) (vs : List V) (i : ι) (bx' : List V), Same G G' → Own G' H' ((b, .lst bx') :: R) → Box N bx' → DtL K G' vs (f i) → Q vs H') → t σ H Q
theorem dba_run {G H : Hp} {N : Nat} {bx : List V} {Q : List V → Hp → Prop} (h : DBA K G0 b R σ t n m fs) (hm : m ≤ 1000) (s : Same G0 G) (O : Own G H ((b, .lst bx) :: R)) (hb : Box (N + n) bx) (k : ∀ (G' H' : Hp) (vs : List V) (i : ι) (bx' : List V), Same G G' → Own G' H' ((b, .lst bx') :: R) → Box N bx' → DtL K G' vs (fs i) → vs.length = m → vs.length ≤ sizeLine → Q vs H') : t σ H Q :=
  h.2 G H N bx Q s O hb fun G' H' vs i bx' s' O' B' d => k G' H' vs i bx' s' O' B' d (d.length.trans (h.1 i)) (sz20 (by have := d.length.trans (h.1 i); omega))
theorem db_str {x : Str} : DB K G0 b R σ (tC (.str x)) 0 (fun _ : Unit => .str x) := fun G H N bx Q s O B k => x_c (k G H _ () bx (Same.refl _) O B (.str x))
theorem db_non : DB K G0 b R σ (tC .non) 0 (fun _ : Unit => .none) := fun G H N bx Q s O B k => x_c (k G H _ () bx (Same.refl _) O B .non)
theorem db_var {j : Nat} {v : V} {d : PyData} (h : σ[j]? = some (some v)) (hd : Dt K G0 v d) : DB K G0 b R σ (tVar j) 0 (fun _ : Unit => d) := fun G H N bx Q s O B k => x_var h (k G H _ () bx (Same.refl _) O B (hd.mono s))
theorem db_ixs {j : Nat} {i : Int} {wp : Addr} {ws : List Str} (h : σ[j]? = some (some (.ref wp))) (hw : G0 wp = some (.lst (ws.map V.str))) (h0 : 0 ≤ i) (h1 : i < (ws.length : Nat)) : DB K G0 b R σ (tOp (rIx K) (tVar j) (tC (.int i))) 0 (fun _ : Unit => .str (nm ws i.toNat)) := fun G H N bx Q s O B k => by
  obtain ⟨l, rfl⟩ := Int.eq_ofNat_of_zero_le h0
  exact x_op (x_var h (x_c (x_ixl (v := .str (nm ws l)) (SqL.of (O.sub _ _ (s _ _ hw))) (atI_nat (by rw [List.getElem?_map, nm_at (by omega)]; rfl)) (k G H _ () bx (Same.refl _) O B (.str _)))))
theorem dba_nil : DBA K G0 b R σ tNil 0 0 (fun _ : Unit => []) := ⟨fun _ => rfl, fun G H N bx Q s O B k => x_anil (k G H _ () bx (Same.refl _) O B .nil)⟩
theorem dba_cons (h : DB K G0 b R σ te n1 f) (h' : DBA K G0 b R σ t n2 m g) : DBA K G0 b R σ (tCons te t) (n1 + n2) (m + 1) (fun p : ι × κ => f p.1 :: g p.2) := ⟨fun p => by rw [List.length_cons, h'.1], fun G H N bx Q s O B k =>
  x_acons (h G H (N + n2) bx _ s O (B.le (by omega)) fun G1 H1 v i b1 s1 O1 B1 d1 => h'.2 G1 H1 N b1 _ (s.trans s1) O1 B1 fun G2 H2 vs j b2 s2 O2 B2 d2 => k G2 H2 _ (i, j) b2 (s1.trans s2) O2 B2 (.cons (d1.mono s2) d2))⟩
theorem db_lst (h : DBA K G0 b R σ t n m fs) (hm : m ≤ 1000) : DB K G0 b R σ (dLst t) n (fun i => .list (fs i)) := fun G H N bx Q s O B k =>
  x_lst (dba_run h hm s O B fun G1 H1 vs i b1 s1 O1 B1 d1 l1 lz => ⟨lz, x_fix O1 fun p G2 H2 s2 O2 e2 => k G2 H2 _ i b1 (s1.trans s2) O2 B1 (.lst (SqL.of e2) (d1.mono s2))⟩)
theorem db_tup (h : DBA K G0 b R σ t n m fs) (hm : m ≤ 1000) : DB K G0 b R σ (dTup t) n (fun i => .tuple (fs i)) := fun G H N bx Q s O B k =>
  x_tup (dba_run h hm s O B fun G1 H1 vs i b1 s1 O1 B1 d1 l1 lz => ⟨lz, x_fix O1 fun p G2 H2 s2 O2 e2 => k G2 H2 _ i b1 (s1.trans s2) O2 B1 (.tup (SqT.of e2) (d1.mono s2))⟩)
theorem gd_at {ds : List PyData} {j : Nat} {d : PyData} (h : ds[j]? = some d) : ds.getD j .none = d := by
  rw [List.getD_eq_getElem?_getD, h]
  rfl
/-- one of a display, drawn -/
theorem db_pick {E : XK} {mi : Int} (h : DBA K G0 b R σ t n m fs) (hm : m ≤ 1000) (h0 : σ[0]? = some (some (.ref b))) (h1 : mi = (m : Nat)) (h2 : 0 < m) : DB K G0 b R σ (tOp (rIx K) (dLst t) (tCall sp_take [] E (tCons (tVar 0) (tCons (tC (.int mi)) tNil)))) (n + 1) (fun p : ι × Fin m => (fs p.1).getD p.2.val .none) := fun G H N bx Q s O B k => by
  refine x_op (x_lst (dba_run (N := N + 1) h hm s O (B.le (by omega)) fun G1 H1 vs i b1 s1 O1 B1 d1 l1 lz => ⟨lz, x_fix O1 fun p G2 H2 s2 O2 e2 => ?_⟩))
  refine x_call (x_acons (x_var h0 (x_acons (x_c (x_anil ?_)))))
  refine ⟨G2, R, b, mi, N, b1, rfl, O2, B1, by omega, by omega, fun H3 r b3 r0 r1 O3 B3 => ?_⟩
  obtain ⟨j, rfl⟩ := Int.eq_ofNat_of_zero_le r0
  have hj : j < vs.length := by omega
  refine x_ixl (v := vs[j]) (SqL.of (O3.sub _ _ e2)) (atI_nat (List.getElem?_eq_getElem hj)) ?_
  obtain ⟨d, ed, hd⟩ := dtl_at d1 (List.getElem?_eq_getElem hj)
  refine k G2 H3 _ (i, ⟨j, by omega⟩) b3 (s1.trans s2) O3 B3 ?_
  show Dt K G2 vs[j] ((fs i).getD j .none)
  rw [gd_at ed]
  exact hd.mono s2
/-- l[c - draw] -/
theorem db_ends {E : XK} {l : Nat} {c mi : Int} {ep : Addr} {xs : List V} {ds : List PyData} (h : σ[l]? = some (some (.ref ep))) (he : G0 ep = some (.lst xs)) (hd : DtL K G0 xs ds) (h0 : σ[0]? = some (some (.ref b))) (h1 : 0 < mi) (h2 : mi ≤ c + 1) (h3 : c < (ds.length : Nat)) (h4 : ds.length ≤ 1000) : DB K G0 b R σ (tOp (rIx K) (tVar l) (tOp (rI0 fun i j => .int (i - j)) (tC (.int c)) (tCall sp_take [] E (tCons (tVar 0) (tCons (tC (.int mi)) tNil))))) 1 (fun j : Fin mi.toNat => ds.getD (c.toNat - j.val) .none) := fun G H N bx Q s O B k => by
  refine x_op (x_var h (x_op (x_c (x_call (x_acons (x_var h0 (x_acons (x_c (x_anil ?_)))))))))
  refine ⟨G, R, b, mi, N, bx, rfl, O, B, h1, by omega, fun H3 r b3 r0 r1 O3 B3 => ?_⟩
  obtain ⟨j, rfl⟩ := Int.eq_ofNat_of_zero_le r0
  refine x_rI0 ?_
  have lx := hd.length
  have hj : c.toNat - j < xs.length := by omega
  rw [show c - (j : Nat) = ((c.toNat - j : Nat) : Int) by omega]
  refine x_ixl (v := xs[c.toNat - j]) (SqL.of (O3.sub _ _ (s _ _ he))) (atI_nat (List.getElem?_eq_getElem hj)) ?_
  obtain ⟨d, ed, hd'⟩ := dtl_at hd (List.getElem?_eq_getElem hj)
  refine k G H3 _ ⟨j, by omega⟩ b3 (Same.refl _) O3 B3 ?_
  show Dt K G xs[c.toNat - j] (ds.getD (c.toNat - j) .none)
  rw [gd_at ed]
  exact hd'.mono s
end
end M04
namespace M04
open PySem PySem.Spec PyProof.Rows L2 G
local macro_rules | `(tactic| walk_at "hp") => `(tactic| first | assumption | exact Own.at0 (by assumption) | exact Own.at1 (by assumption) | exact Own.at2 (by assumption) | exact Own.at3 (by assumption) | exact Own.sub (by assumption) _ _ (by assumption) | exact upd_same)
local macro_rules | `(tactic| walk_at "hl") => `(tactic| first | assumption | exact SqL.of (by walk_at "hp") | exact Own.seq (by assumption) (by assumption) | exact Own.seq (by assumption) (SqL.of (by assumption)))
local macro_rules | `(tactic| walk_at "ht") => `(tactic| first | assumption | exact SqT.of (by walk_at "hp") | exact Own.set (by assumption) (by assumption) | exact Own.set (by assumption) (SqT.of (by assumption)))
local macro_rules | `(tactic| walk_at "n") => `(tactic| (intros; (try dsimp only [List.set, wipe, List.map, List.set_cons_succ, List.set_cons_zero]); (try exact rfl)))
local macro_rules | `(tactic| walk_at "n1") => `(tactic| with_reducible first | (refine x_asgN (σ' := ?s) ?hs ?q; (case hs => walk_at "n")) | (refine x_gN (σ' := ?s) ?hs ?q; (case hs => walk_at "n")) | (refine And.intro (show wipe _ _ = _ from (by walk_at "n")) ?_) | (refine x_parN (σ' := ?s) ?hs ?q; (case hs => walk_at "n")) | (refine x_par3N (σ' := ?s) ?hs ?q; (case hs => walk_at "n")))
local macro_rules | `(tactic| walk_at "v1") => `(tactic| ((with_reducible refine x_var (v := ?v) ?h ?q); (case h => first | exact rfl | assumption)))
local macro_rules | `(tactic| walk_at "s1") => `(tactic| with_reducible first | refine x_op ?_ | refine x_acons ?_ | refine x_c ?_ | refine x_call ?_ | refine x_anil ?_ | refine x_cb ?_ | refine x_seq ?_ | refine x_asgG ?_ | refine x_gC ?_ | refine x_gNl ?_ | refine x_ret ?_ | refine x_ifs ?_ | refine x_test ?_ | refine x_testb ?_ | refine x_and ?_ | refine x_or ?_ | refine x_andV ?_ | refine x_isB ?_ | refine x_add ?_ | refine x_lt ?_ | refine x_inti ?_ | refine x_isI ?_ | refine x_lst ?_ | refine x_tup ?_ | refine x_slice ?_ | refine x_nop ?_ | refine x_part ?_ | refine x_bm ?_ | refine x_sub ?_ | refine x_rI0 ?_ | refine x_drop ?_ | refine x_next ?_ | refine x_brk ?_ | refine x_cnt ?_ | refine x_par2 ?_ | refine x_par33 ?_ | refine x_un ?_ | refine x_rU ?_ | refine x_le ?_ | refine x_gt ?_ | refine x_ge ?_ | refine x_lts ?_ | refine x_intb ?_ | refine x_abs ?_ | refine x_tru ?_ | refine x_trub ?_ | refine x_trui ?_ | refine x_not ?_ | refine x_orV ?_ | refine x_notV ?_ | refine x_if ?_ | refine x_isN ?_ | refine x_isnN ?_ | refine x_dict ?_ | refine x_bm0 ?_ | refine x_revL ?_ | refine x_lcR ?_ | refine x_lcS ?_ | refine x_forR ?_ | refine x_forS ?_ | refine x_yes ?_ | refine ite_t ?_ | refine ite_f ?_)
local macro_rules | `(tactic| walk_at "s") => `(tactic| repeat (first | walk_at "v1" | walk_at "s1" | walk_at "n1"))
local macro_rules | `(tactic| walk_at "bd") => `(tactic| first | decide | omega | exact Nat.le_refl _)
local macro_rules | `(tactic| walk_at "ft") => `(tactic| first
  | with_reducible exact la_nil | with_reducible exact fa_nil | with_reducible exact ft_non | with_reducible exact ft_bl | with_reducible exact ft_dict | ((with_reducible refine ft_str (n := 10) (x := ?x) ?h); (case h => exact And.intro rfl (by decide))) | ((with_reducible refine ft_int (i := ?i) ?h); (case h => decide))
  | ((with_reducible refine ft_var (v := ?v) (m := ?m) (n := ?n) ?h ?f); (case h => exact rfl); (case f => assumption))
  | ((with_reducible refine fa_cons (m1 := ?a) (n1 := ?b) (m2 := ?c) (n2 := ?d) ?f ?g); (case f => walk_at "ft"); (case g => walk_at "ft"))
  | ((with_reducible refine ft_tup (m := ?m) (n := ?n) ?f ?h); (case f => walk_at "ft"); (case h => walk_at "bd"))
  | ((with_reducible refine ft_lst (m := ?m) (n := ?n) ?f ?h); (case f => walk_at "ft"); (case h => walk_at "bd"))
  | ((with_reducible refine la_cons (m1 := ?a) (n1 := ?b) (B := ?c) ?f ?g ?h ?i); (case f => walk_at "ft"); (case h => walk_at "bd"); (case i => walk_at "bd"); (case g => walk_at "ft"))
  | ((with_reducible refine lt_var (v := ?v) (m := ?m) (n := ?n) (B := ?b) ?h ?f); (case h => exact rfl); (case f => assumption))
  | ((with_reducible refine lt_add (B1 := ?a) (B2 := ?b) ?f ?g ?h); (case f => walk_at "ft"); (case g => walk_at "ft"); (case h => walk_at "bd"))
  | ((with_reducible refine ft_addsv (x := ?x) (m := ?m) (n := 10) ?h ?s ?a ?z); (case h => exact rfl); (case s => assumption); (case a => exact And.intro rfl (by decide)); (case z => decide))
  | ((with_reducible refine lt_lst ?f ?h); (case f => walk_at "ft"); (case h => walk_at "bd")))
local macro_rules | `(tactic| walk_at "s1") => `(tactic| with_reducible first | refine x_fld ?_ | refine x_sfld ?_ | refine x_m ?_ | refine x_mr ?_ | refine x_i ?_ | refine x_ir ?_ | refine x_gfld ?_ | refine x_mko ?_ | refine x_vei ?_ | refine x_ost ?_ | refine ite_nt ?_ | refine ite_nf ?_)
local macro_rules | `(tactic| walk_at "s1") => `(tactic| with_reducible first | refine x_compS ?_ | refine x_innS ?_ | refine x_putT ?_ | refine x_addK ?_ | refine x_dget ?_)
local macro_rules | `(tactic| walk_at "s1") => `(tactic| with_reducible first | refine x_fst ?_ | refine x_jsC ?_ | refine x_js0 ?_ | refine x_fmt ?_)
local macro_rules | `(tactic| walk_at "s1") => `(tactic| with_reducible first | refine x_lrg ?_ | refine x_mc ?_)
local macro_rules | `(tactic| walk_at "s1") => `(tactic| with_reducible first | refine x_dput ?_ | refine x_dnT ?_ | refine x_lcZW ?_ | refine x_forEA ?_)
section
open PySem PySem.Spec PyProof.Rows L2 G
set_option maxHeartbeats 4000000
theorem nml_len5 {ws : List Str} (h : NmL 5 ws) : ws.length = 5 := h.len
local macro_rules | `(tactic| walk_at "db") => `(tactic| first
  | with_reducible exact dba_nil | with_reducible exact db_non | with_reducible exact db_str
  | ((with_reducible refine dba_cons (ι := ?i) (κ := ?k) (n1 := ?a) (n2 := ?c) (m := ?m) (f := ?u) (g := ?w) ?x ?y); (case x => walk_at "db"); (case y => walk_at "db"))
  | ((with_reducible refine db_lst (ι := ?i) (n := ?a) (m := ?m) (fs := ?u) ?x ?h); (case x => walk_at "db"); (case h => decide))
  | ((with_reducible refine db_tup (ι := ?i) (n := ?a) (m := ?m) (fs := ?u) ?x ?h); (case x => walk_at "db"); (case h => decide))
  | ((with_reducible refine db_pick (ι := ?q) (n := ?a) (m := ?m) (fs := ?u) ?x ?h ?i ?j ?k); (case x => walk_at "db"); (case h => decide); (case i => exact rfl); (case j => exact rfl); (case k => decide))
  | ((with_reducible refine db_ends (c := 4) (ep := ?p) (xs := ?u) (ds := ?w) ?h ?e ?d ?i ?j ?k ?l ?m); (case h => exact rfl); (case e => assumption); (case d => assumption); (case i => exact rfl); (case j => decide); (case k => decide); (case l => (show (4 : Int) < ((6 : Nat) : Int); decide)); (case m => (show 6 ≤ 1000; decide)))
  | ((with_reducible refine db_ixs (wp := ?p) (ws := ?w) ?h ?e ?i ?j); (case h => exact rfl); (case e => assumption); (case i => decide); (case j => (rw [nml_len5 (by assumption)]; decide)))
  | ((with_reducible refine db_var (v := ?v) (d := ?q) ?h ?d); (case h => exact rfl); (case d => first | exact .str _ | assumption)))
/-- cases of data, with their values -/
structure CsV (K : PySem.W.Frag) (G : Hp) (q : V × Cs) : Prop where
  dt : Dt K G q.1 (dCs true q.2)
theorem dtl_pairs {K : PySem.W.Frag} {G : Hp} {α : Type} {f : α → PyData} : ∀ {cs : List α} {xs : List V}, DtL K G xs (cs.map f) → ∃ L : List (V × α), xs = L.map (·.1) ∧ cs = L.map (·.2) ∧ ∀ q ∈ L, Dt K G q.1 (f q.2)
  | [], _, .nil => ⟨[], rfl, rfl, fun _ z => nomatch z⟩
  | c :: cs, _, .cons h t => by
    obtain ⟨L, rfl, rfl, hL⟩ := dtl_pairs t
    exact ⟨(_, c) :: L, rfl, rfl, fun q hq => (List.mem_cons.mp hq).elim (fun e => by rw [e]; exact h) (hL q)⟩
theorem pairs_dtl {K : PySem.W.Frag} {G : Hp} {α : Type} {f : α → PyData} : ∀ {L : List (V × α)}, (∀ q ∈ L, Dt K G q.1 (f q.2)) → DtL K G (L.map (·.1)) ((L.map (·.2)).map f)
  | [], _ => .nil
  | q :: L, h => .cons (h q List.mem_cons_self) (pairs_dtl fun r hr => h r (List.mem_cons_of_mem _ hr))
theorem dtl_app {K : PySem.W.Frag} {G : Hp} : ∀ {xs ys : List V} {ds es : List PyData}, DtL K G xs ds → DtL K G ys es → DtL K G (xs ++ ys) (ds ++ es)
  | _, _, _, _, .nil, h => h
  | _, _, _, _, .cons a t, h => .cons a (dtl_app t h)
theorem nm_ne_new {x : Str} (h : Nm x) : x ≠ wNew := fun e => by
  have := h.free
  rw [e] at this
  exact absurd this (by decide)
theorem mk_is {ns : List Str} : MkOk (wIs :: ns) (some [wIs]) := ⟨fun ms e => by cases e; exact List.cons_ne_nil _ _, fun ms e => by cases e; simp, fun ms e x hx => by cases e; rw [List.mem_singleton.mp hx]; exact List.mem_cons_self⟩
section
variable {P : Program} {w : World} {K : PySem.W.Frag} {mg : Str → Option Value} {base : Heap} {k : Nat} {kw C D CW : Addr}
abbrev s__law_holder : Stmt := top 53
theorem sc__law_holder : FnScope ["box", "names", "a", "b", "c", "d", "p", "q", "m", "n", "words", "ends", "one", "two", "rest"] ["box", "names"] (defScope s__law_holder) := ⟨rfl, rfl, rfl, by decide +kernel, rfl, by decide +kernel, by decide +kernel⟩
def sp_hol (K : PySem.W.Frag) : Sp := fun vs H Q _ => ∃ (G : Hp) (R : List (Addr × HO)) (b a : Addr) (m N : Nat) (ns : List Str) (bx : List V), vs = [.ref b, .ref a] ∧ Own G H ((b, .lst bx) :: R) ∧ G a = some (.lst (ns.map V.str)) ∧ NmL m ns ∧ m ≤ 4 ∧ Box (N + 250) bx ∧
  ∀ (G' H' : Hp) (p : Addr) (xs : List V) (ss : List Sd) bx', Same G G' → G' p = some (.lst xs) → DtL K G' xs (ss.map (dSd true)) → StOk (wIs :: ns) ss → ss.length ≤ 6 → Own G' H' ((b, .lst bx') :: R) → Box N bx' → Q (.ref p) H'
theorem ok_hol {f : Addr} {fd : FuncData} (F : Fun K "_law_holder" "_law_holder" s__law_holder f fd) (B : Btt mg) (C__law_take : Cal P w K mg base k "_law_take" ["box", "many"] sp_take) (C__law_names : Cal P w K mg base k "_law_names" ["box", "many"] sp_nms) (C__law_marks : Cal P w K mg base k "_law_marks" ["box", "names"] (sp_mks K)) (C__law_mixed : Cal P w K mg base k "_law_mixed" ["box", "items"] (sp_mix K)) : FnG P w K mg base (k + 1) f fd ["box", "names"] (sp_hol K) := by
  refine fnG_of F sc__law_holder (fun vs H Q E h => ?_) (fun cdv A outer s H vs Q E r h => ?_)
  · obtain ⟨_, _, _, _, _, _, _, _, rfl, _⟩ := h
    rfl
  · obtain ⟨G, R, b, na, m, N, ns, bx, rfl, O, ha, nl, m4, bo, q⟩ := h
    refine ⟨_, (pss_cons (ps_asg (g_call C__law_names r (by rfl) passL (pa_cons (pv 0) (pa_cons pe_int pa_nil))) (pg_unlK (K := K) (n := 4) rfl rfl (pgs_cons (pg_name (i := 2) sc__law_holder.nd rfl (Or.inl rfl)) (pgs_cons (pg_name (i := 3) sc__law_holder.nd rfl (Or.inl rfl)) (pgs_cons (pg_name (i := 4) sc__law_holder.nd rfl (Or.inl rfl)) (pgs_cons (pg_name (i := 5) sc__law_holder.nd rfl (Or.inl rfl)) pgs_nil))))))
       (pss_cons (ps_asg (g_call C__law_names r (by rfl) passL (pa_cons (pv 0) (pa_cons pe_int pa_nil))) (pg_unlK (K := K) (n := 2) rfl rfl (pgs_cons (pg_name (i := 6) sc__law_holder.nd rfl (Or.inl rfl)) (pgs_cons (pg_name (i := 7) sc__law_holder.nd rfl (Or.inl rfl)) pgs_nil))))
       (pss_cons (ps_par3 (i := 8) (j := 9) (l := 10) rfl sc__law_holder.nd rfl rfl rfl (by decide) (by decide) (by decide) rfl rfl rfl (pa_cons (g_call C__law_marks r (by rfl) passL (pa_cons (pv 0) (pa_cons (pv 1) pa_nil))) (pa_cons (g_call C__law_marks r (by rfl) passL (pa_cons (pv 0) (pa_cons (pv 1) pa_nil))) (pa_cons (g_call C__law_names r (by rfl) passL (pa_cons (pv 0) (pa_cons pe_int pa_nil))) pa_nil))) (by rfl))
       (pss_cons (ps_set (i := 11) sc__law_holder.nd rfl (Or.inl rfl) (d_lst (pa_cons (d_lst pa_nil) (pa_cons (d_lst (pa_cons (pv 6) pa_nil)) (pa_cons (d_lst (pa_cons (pv 7) (pa_cons (pv 6) pa_nil))) (pa_cons (d_lst (pa_cons (pv 7) (pa_cons pe_str pa_nil))) (pa_cons (d_lst (pa_cons pe_str (pa_cons pe_str pa_nil))) (pa_cons (d_lst (pa_cons (pv 6) (pa_cons (pv 6) pa_nil))) pa_nil))))))))
       (pss_cons (ps_set (i := 12) sc__law_holder.nd rfl (Or.inl rfl) (d_lst (pa_cons (d_tup (pa_cons (d_lst (pa_cons (pv 8) pa_nil)) (pa_cons (pe_ix (ixK (K := K) rfl) (pv 10) pe_int (fun _ _ => rfl)) (pa_cons (pv 4) (pa_cons (d_lst (pa_cons (pv 6) (pa_cons pe_str pa_nil))) pa_nil))))) (pa_cons (d_tup (pa_cons (d_lst (pa_cons (d_lst (pa_cons pe_str pa_nil)) pa_nil)) (pa_cons (pe_ix (ixK (K := K) rfl) (pv 10) pe_int (fun _ _ => rfl)) (pa_cons (pv 3) (pa_cons (d_lst (pa_cons (pv 6) pa_nil)) pa_nil))))) (pa_cons (d_tup (pa_cons (d_lst (pa_cons pe_non pa_nil)) (pa_cons (pe_ix (ixK (K := K) rfl) (pv 10) pe_int (fun _ _ => rfl)) (pa_cons (pe_ix (ixK (K := K) rfl) (d_lst (pa_cons (pv 3) (pa_cons (pv 4) pa_nil))) (g_call C__law_take r (by rfl) passL (pa_cons (pv 0) (pa_cons pe_int pa_nil))) (fun _ _ => rfl)) (pa_cons (d_lst pa_nil) pa_nil))))) pa_nil)))))
       (pss_cons (ps_asg (d_tup (pa_cons (pe_ix (ixK (K := K) rfl) (pe_ix (ixK (K := K) rfl) (pv 12) pe_int (fun _ _ => rfl)) pe_int (fun _ _ => rfl)) (pa_cons (pe_ix (ixK (K := K) rfl) (pe_ix (ixK (K := K) rfl) (pv 12) pe_int (fun _ _ => rfl)) pe_int (fun _ _ => rfl)) (pa_cons (pe_ix (ixK (K := K) rfl) (pe_ix (ixK (K := K) rfl) (pv 12) pe_int (fun _ _ => rfl)) pe_int (fun _ _ => rfl)) (pa_cons (pe_ifExp (pt_cmpR (oEqK (K := K) rfl r) (pe_ix (ixK (K := K) rfl) (pe_ix (ixK (K := K) rfl) (pv 12) pe_int (fun _ _ => rfl)) pe_int (fun _ _ => rfl)) (pv 4) (nomark _)) (d_lst (pa_cons pe_str (pa_cons (pv 6) pa_nil))) (pe_ix (ixK (K := K) rfl) (d_lst (pa_cons (d_lst (pa_cons pe_str pa_nil)) (pa_cons (d_lst (pa_cons (pv 6) pa_nil)) pa_nil))) (g_call C__law_take r (by rfl) passL (pa_cons (pv 0) (pa_cons pe_int pa_nil))) (fun _ _ => rfl))) pa_nil))))) (pg_sub (pv 12) pe_int sSet))
       (pss_cons (ps_set (i := 13) sc__law_holder.nd rfl (Or.inl rfl) (d_lst (pa_cons (d_tup (pa_cons (d_lst (pa_cons (pv 8) (pa_cons pe_non pa_nil))) (pa_cons (pe_ix (ixK (K := K) rfl) (pv 10) pe_int (fun _ _ => rfl)) (pa_cons (pv 4) (pa_cons (d_lst (pa_cons (pv 7) (pa_cons (pv 6) pa_nil))) pa_nil))))) (pa_cons (d_tup (pa_cons (d_lst (pa_cons pe_non (pa_cons (pv 9) pa_nil))) (pa_cons (pe_ix (ixK (K := K) rfl) (pv 10) pe_int (fun _ _ => rfl)) (pa_cons (pv 4) (pa_cons (d_lst (pa_cons pe_str (pa_cons (pv 6) pa_nil))) pa_nil))))) (pa_cons (d_tup (pa_cons (d_lst (pa_cons (d_lst (pa_cons pe_str pa_nil)) (pa_cons pe_non pa_nil))) (pa_cons (pe_ix (ixK (K := K) rfl) (pv 10) pe_int (fun _ _ => rfl)) (pa_cons (pv 3) (pa_cons (d_lst (pa_cons (pv 7) pa_nil)) pa_nil))))) pa_nil)))))
       (pss_cons (ps_set (i := 13) sc__law_holder.nd rfl (Or.inl rfl) (pe_op (oAddK (K := K) rfl) (pv 13) (d_lst (pa_cons (d_tup (pa_cons (d_lst (pa_cons pe_non (pa_cons (d_lst (pa_cons pe_str pa_nil)) pa_nil))) (pa_cons (pe_ix (ixK (K := K) rfl) (pv 10) pe_int (fun _ _ => rfl)) (pa_cons (pv 4) (pa_cons (d_lst (pa_cons (pv 6) (pa_cons (pv 6) pa_nil))) pa_nil))))) (pa_cons (d_tup (pa_cons (d_lst (pa_cons (pv 8) (pa_cons (pv 9) pa_nil))) (pa_cons (pe_ix (ixK (K := K) rfl) (pv 10) pe_int (fun _ _ => rfl)) (pa_cons (pv 4) (pa_cons (pe_ix (ixK (K := K) rfl) (pv 11) (pe_op op_sub pe_int (g_call C__law_take r (by rfl) passL (pa_cons (pv 0) (pa_cons pe_int pa_nil)))) (fun _ _ => rfl)) pa_nil))))) pa_nil)))))
       (pss_cons (ps_set (i := 13) sc__law_holder.nd rfl (Or.inl rfl) (pe_op (oAddK (K := K) rfl) (pe_slice (oSlK (K := K) rfl) (g_call C__law_mixed r (by rfl) passL (pa_cons (pv 0) (pa_cons (pv 13) pa_nil))) po_none (po_some (pe_op (oAddK (K := K) rfl) pe_int (g_call C__law_take r (by rfl) passL (pa_cons (pv 0) (pa_cons pe_int pa_nil)))))) (d_lst (pa_cons (d_tup (pa_cons (d_lst (pa_cons pe_non (pa_cons pe_non pa_nil))) (pa_cons (pe_ix (ixK (K := K) rfl) (pv 10) pe_int (fun _ _ => rfl)) (pa_cons (pe_ix (ixK (K := K) rfl) (d_lst (pa_cons (pv 2) (pa_cons (pv 5) pa_nil))) (g_call C__law_take r (by rfl) passL (pa_cons (pv 0) (pa_cons pe_int pa_nil))) (fun _ _ => rfl)) (pa_cons (d_lst pa_nil) pa_nil))))) pa_nil))))
       (pss_cons (ps_set (i := 14) sc__law_holder.nd rfl (Or.inl rfl) (d_lst (pa_cons (d_tup (pa_cons (d_lst pa_nil) (pa_cons (pe_ix (ixK (K := K) rfl) (pv 10) pe_int (fun _ _ => rfl)) (pa_cons (pv 4) (pa_cons (d_lst (pa_cons pe_str (pa_cons pe_str pa_nil))) pa_nil))))) pa_nil)))
       (pss_one (ps_ret (d_lst (pa_cons (d_tup (pa_cons (pv 2) (pa_cons (d_lst pa_nil) (pa_cons (d_lst (pa_cons (d_tup (pa_cons (d_lst pa_nil) (pa_cons (pe_ix (ixK (K := K) rfl) (pv 10) pe_int (fun _ _ => rfl)) (pa_cons (pv 3) (pa_cons (d_lst (pa_cons pe_str pa_nil)) pa_nil))))) pa_nil)) pa_nil)))) (pa_cons (d_tup (pa_cons (pv 3) (pa_cons (d_lst (pa_cons (pv 6) pa_nil)) (pa_cons (pv 12) pa_nil)))) (pa_cons (d_tup (pa_cons (pv 4) (pa_cons (d_lst (pa_cons (pv 6) (pa_cons (pv 7) pa_nil))) (pa_cons (pv 13) pa_nil)))) (pa_cons (d_tup (pa_cons (pv 5) (pa_cons (d_lst pa_nil) (pa_cons (pv 14) pa_nil)))) pa_nil))))))))))))))))), ?_⟩
    try dsimp only [cxOf]
    refine x_start (σ' := [some _, some _, none, none, none, none, none, none, none, none, none, none, none, none, none]) rfl ?_
    walk_at "s"
    refine ⟨G, R, b, 4, N + 190, bx, rfl, O, bo, by decide, fun G1 H1 p1 ns4 b1 s1 e1 nl4 O1 B1 => ?_⟩
    match ns4, nl4, e1 with
    | [], nl4, _ => exact absurd nl4.len (by simp)
    | [_], nl4, _ => exact absurd nl4.len (by simp)
    | [_, _], nl4, _ => exact absurd nl4.len (by simp)
    | [_, _, _], nl4, _ => exact absurd nl4.len (by simp)
    | _ :: _ :: _ :: _ :: _ :: _, nl4, _ => exact absurd nl4.len (by simp)
    | [xa, xb, xc, xd], nl4, e1 =>
    refine x_ul (SqL.of (O1.sub _ _ e1)) rfl ?_
    refine x_gC ?_
    walk_at "n1"
    refine x_gC ?_
    walk_at "n1"
    refine x_gC ?_
    walk_at "n1"
    refine x_gC ?_
    walk_at "n1"
    refine x_gNl ?_
    walk_at "s"
    refine ⟨G1, R, b, 2, N + 130, b1, rfl, O1, B1, by decide, fun G2 H2 p2 ns2 b2 s2 e2 nl2 O2 B2 => ?_⟩
    match ns2, nl2, e2 with
    | [], nl2, _ => exact absurd nl2.len (by simp)
    | [_], nl2, _ => exact absurd nl2.len (by simp)
    | _ :: _ :: _ :: _, nl2, _ => exact absurd nl2.len (by simp)
    | [xp, xq], nl2, e2 =>
    refine x_ul (SqL.of (O2.sub _ _ e2)) rfl ?_
    refine x_gC ?_
    walk_at "n1"
    refine x_gC ?_
    walk_at "n1"
    refine x_gNl ?_
    walk_at "s"
    have s02 := s1.trans s2
    refine ⟨G2, R, b, na, m, N + 120, ns, b2, rfl, O2, s02 _ _ ha, nl, m4, B2.le (by omega), fun G3 H3 p3 mm b3 s3 mo3 e3 O3 B3 => ?_⟩
    walk_at "s"
    refine ⟨G3, R, b, na, m, N + 110, ns, b3, rfl, O3, (s02.trans s3) _ _ ha, nl, m4, B3.le (by omega), fun G4 H4 p4 mn b4 s4 mo4 e4 O4 B4 => ?_⟩
    walk_at "s"
    refine ⟨G4, R, b, 5, N + 50, b4, rfl, O4, B4, by decide, fun G5 H5 p5 ws b5 s5 e5 nl5 O5 B5 => ?_⟩
    refine x_anil (x_par33 ?_)
    refine x_seq ?_
    walk_at "n1"
    have s05 := s02.trans (s3.trans (s4.trans s5))
    have dm : Dt K G5 (.ref p3) (.list (mm.map .str)) := .lst (SqL.of ((s4.trans s5) _ _ e3)) (strs_dtl _)
    have dn : Dt K G5 (.ref p4) (.list (mn.map .str)) := .lst (SqL.of (s5 _ _ e4)) (strs_dtl _)
    -- ends
    refine x_lst (dba_run (K := K) (ι := ?i6) (n := ?n6) (m := ?q6) (fs := ?f6) (N := N + 50) (G0 := G5) ?d6 ?m6 (Same.refl _) O5 ?B6 fun G6 H6 ve i6 b6 s6 O6 B6 de le lz6 => ⟨lz6, x_fix O6 fun pe G7 H7 s7 O7 e7 => ?_⟩)
    case d6 => walk_at "db"
    case m6 => decide
    case B6 => exact B5.le (by omega)
    replace de := de.mono s7
    have dm7 := dm.mono (s6.trans s7)
    have dn7 := dn.mono (s6.trans s7)
    have e57 := (s6.trans s7) _ _ e5
    -- one
    refine x_seq ?_
    walk_at "n1"
    refine x_lst (dba_run (K := K) (ι := ?i8) (n := ?n8) (m := ?q8) (fs := ?f8) (N := N + 49) (G0 := G7) ?d8 ?m8 (Same.refl _) O7 ?B8 fun G8 H8 vo i8 b8 s8 O8 B8 do_ lo lz8 => ⟨lz8, x_new O8 fun po H9 O9 => ?_⟩)
    case d8 => walk_at "db"
    case m8 => decide
    case B8 => exact B6.le (by omega)
    have wdn : ∀ j, j < 5 → Wd (nm ws j) := fun j hj => (nl5.nm _ (nm_mem nl5 hj)).wd
    have hpx : Nm xp := nl2.nm _ List.mem_cons_self
    have hqx : Nm xq := nl2.nm _ (List.mem_cons_of_mem _ List.mem_cons_self)
    have hbc : xb ≠ xc := fun e => by
      have := nl4.nd
      rw [e] at this
      simp at this
    obtain ⟨gl, hgl, do_⟩ : ∃ gl, (gl = xb ∨ gl = xc) ∧ DtL K G8 vo [.tuple [.list [.list (mm.map .str)], .str (nm ws 1), .str xc, .list [.str xp, .str "new"]], .tuple [.list [.list [.str "is"]], .str (nm ws 2), .str xb, .list [.str xp]], .tuple [.list [.none], .str (nm ws 3), .str gl, .list []]] := by
      rcases i8 with ⟨i1, i2, ⟨a3, w3, ⟨pk, j⟩, l3⟩, u'⟩
      rcases j with ⟨_ | _ | j, hj⟩
      · exact ⟨xb, .inl rfl, do_⟩
      · exact ⟨xc, .inr rfl, do_⟩
      · exact absurd hj (by show ¬ j + 1 + 1 < 2; omega)
    obtain _ | ⟨d1, t1⟩ := do_
    obtain _ | ⟨d2, t2⟩ := t1
    obtain _ | ⟨d3, t3⟩ := t2
    cases t3
    rename_i v1 v2 v3
    obtain ⟨t3, y3, rfl, ht3, hy3⟩ := dt_tup d3
    obtain _ | ⟨f1, u1⟩ := hy3
    obtain _ | ⟨f2, u2⟩ := u1
    obtain _ | ⟨f3, u3⟩ := u2
    obtain _ | ⟨f4, u4⟩ := u3
    cases u4
    rename_i y1 y2 y3 y4
    rw [dt_str f2, dt_str f3] at ht3
    refine x_midS (fun σ H' => ∃ (G' : Hp) (b' : List V) (v : V) (c3 : Cs), σ = [some (.ref b), some (.ref na), some (.str xa), some (.str xb), some (.str xc), some (.str xd), some (.str xp), some (.str xq), some (.ref p3), some (.ref p4), some (.ref p5), some (.ref pe), some (.ref po), none, none] ∧ Same G8 G' ∧ Own G' H' ((po, .lst [v1, v2, v]) :: (b, .lst b') :: R) ∧ Box (N + 48) b' ∧ Dt K G' v (dCs true c3) ∧ c3.ms = [none] ∧ c3.wd = nm ws 3 ∧ ((c3.gl = xc ∧ c3.sr.length = 2) ∨ (c3.gl = xb ∧ c3.sr.length = 1)) ∧ ∀ x ∈ c3.sr, x = wNew ∨ x = xp) (fun n' hn' => ?_) ?_
    · walk_at "s"
      refine x_ixl (v := .ref t3) (SqL.of O9.at0) rfl ?_
      walk_at "s"
      refine x_ixt (v := y1) (O9.set ht3) rfl ?_
      walk_at "s"
      refine x_ixl (v := .ref t3) (SqL.of O9.at0) rfl ?_
      walk_at "s"
      refine x_ixt (v := .str (nm ws 3)) (O9.set ht3) rfl ?_
      walk_at "s"
      refine x_ixl (v := .ref t3) (SqL.of O9.at0) rfl ?_
      walk_at "s"
      refine x_ixt (v := .str gl) (O9.set ht3) rfl ?_
      walk_at "s"
      refine x_ixl (v := .ref t3) (SqL.of O9.at0) rfl ?_
      walk_at "s"
      refine x_ixt (v := .str gl) (O9.set ht3) rfl ?_
      walk_at "s"
      refine x_eq rfl ?_
      rcases hgl with rfl | rfl
      · rw [decide_eq_false (fun e : V.str gl = V.str xc => hbc (V.str.inj e))]
        walk_at "s"
        refine ⟨by show 1 ≤ sizeLine; decide, x_fix O9 fun q1 Ga Ha sa Oa ea => ?_⟩
        walk_at "s"
        refine ⟨by show 1 ≤ sizeLine; decide, x_fix Oa fun q2 Gb Hb sb Ob eb => ?_⟩
        walk_at "s"
        refine ⟨by show 2 ≤ sizeLine; decide, x_fix Ob fun q3 Gc Hc sc Oc ec => ?_⟩
        walk_at "s"
        refine ⟨Gc, _, b, 2, N + 48, b8, rfl, Oc.swap, B8, by decide, by decide, fun Hd rd bd rd0 rd1 Od Bd => ?_⟩
        have fin : ∀ (q : Addr) (sr : List Str), Gc q = some (.lst (sr.map V.str)) → sr.length = 1 → (∀ x ∈ sr, x = wNew ∨ x = xp) → atI [V.ref q1, V.ref q2] rd = some (.ref q) → rIx K (.ref q3) (.int rd) Hd (fun x H1 => tNil [some (.ref b), some (.ref na), some (.str xa), some (.str gl), some (.str xc), some (.str xd), some (.str xp), some (.str xq), some (.ref p3), some (.ref p4), some (.ref p5), some (.ref pe), some (.ref po), none, none] H1 fun xs H2 => (y1 :: V.str (nm ws 3) :: V.str gl :: x :: xs).length ≤ sizeLine ∧ nw (.tup (y1 :: V.str (nm ws 3) :: V.str gl :: x :: xs)) H2 fun x H1 => gSub (tVar 12) (tC (.int 2)) aSet x [some (.ref b), some (.ref na), some (.str xa), some (.str gl), some (.str xc), some (.str xd), some (.str xp), some (.str xq), some (.ref p3), some (.ref p4), some (.ref p5), some (.ref pe), some (.ref po), none, none] H1 n') := fun q sr eq lq oq er => by
          refine x_ixl (v := .ref q) (SqL.of (Od.sub _ _ ec)) er ?_
          walk_at "s"
          refine ⟨by show 4 ≤ sizeLine; decide, x_fix Od fun q4 Ge He se Oe ee => ?_⟩
          walk_at "s"
          have O' := Oe.swap
          refine x_setl O'.at0 rfl (x_md0 O' fun Hf Of => ?_)
          refine hn' _ _ ⟨Ge, bd, .ref q4, ⟨[none], nm ws 3, gl, sr⟩, rfl, sa.trans (sb.trans (sc.trans se)), Of, Bd, ?_, rfl, rfl, .inr ⟨rfl, lq⟩, oq⟩
          exact .tup (SqT.of ee) (.cons (f1.mono (sa.trans (sb.trans (sc.trans se)))) (.cons (.str _) (.cons (.str _) (.cons (.lst (SqL.of (se _ _ eq)) (strs_dtl sr)) .nil))))
        have hrd : rd = 0 ∨ rd = 1 := by omega
        rcases hrd with rfl | rfl
        · exact fin q1 [wNew] ((sb.trans sc) _ _ ea) rfl (fun x hx => .inl (List.mem_singleton.mp hx)) rfl
        · exact fin q2 [xp] (sc _ _ eb) rfl (fun x hx => .inr (List.mem_singleton.mp hx)) rfl
      · rw [decide_eq_true (rfl : V.str gl = V.str gl)]
        walk_at "s"
        refine ⟨by show 2 ≤ sizeLine; decide, x_fix O9 fun q1 Ga Ha sa Oa ea => ?_⟩
        walk_at "s"
        refine ⟨by show 4 ≤ sizeLine; decide, x_fix Oa fun q4 Ge He se Oe ee => ?_⟩
        walk_at "s"
        refine x_setl Oe.at0 rfl (x_md0 Oe fun Hf Of => ?_)
        refine hn' _ _ ⟨Ge, b8, .ref q4, ⟨[none], nm ws 3, gl, [wNew, xp]⟩, rfl, sa.trans se, Of, B8.le (by omega), ?_, rfl, rfl, .inl ⟨rfl, rfl⟩, fun x hx => by simp only [List.mem_cons, List.not_mem_nil, or_false] at hx; exact hx⟩
        exact .tup (SqT.of ee) (.cons (f1.mono (sa.trans se)) (.cons (.str _) (.cons (.str _) (.cons (.lst (SqL.of (se _ _ ea)) (strs_dtl [wNew, xp])) .nil))))
    rintro σ' H10 ⟨Ga, ba, v3', c3, rfl, sa, Oa, Ba, dc3, m3, w3, g3, r3⟩
    obtain ⟨Gb, hGb⟩ : ∃ Gb, Gb = upd Ga po (.lst [v1, v2, v3']) := ⟨_, rfl⟩
    have sfb : Same Ga Gb := by rw [hGb]; exact Same.new Oa.no0
    have Ob : Own Gb H10 ((b, .lst ba) :: R) := by rw [hGb]; exact Oa.frz0
    have eo : Gb po = some (.lst [v1, v2, v3']) := by rw [hGb]; exact upd_same
    have s8b := sa.trans sfb
    have s7b := (show Same G7 G8 from s8).trans s8b
    have d1o : DtL K Gb [v1, v2, v3'] ([⟨[some mm], nm ws 1, xc, [xp, wNew]⟩, ⟨[some [wIs]], nm ws 2, xb, [xp]⟩, c3].map (dCs true)) := .cons (d1.mono s8b) (.cons (d2.mono s8b) (.cons (dc3.mono sfb) .nil))
    have dm8 := dm7.mono s7b
    have dn8 := dn7.mono s7b
    have e5b := s7b _ _ e57
    -- two
    refine x_seq ?_
    walk_at "n1"
    refine x_lst (dba_run (K := K) (ι := ?iA) (n := ?nA) (m := ?qA) (fs := ?fA) (N := N + 48) (G0 := Gb) ?dA ?mA (Same.refl _) Ob ?BA fun Gc Hc vt ic bc sc Oc Bc dt lt lzc => ⟨lzc, x_fix Oc fun pt Gd Hd1 sd Od ed => ?_⟩)
    case dA => walk_at "db"
    case mA => decide
    case BA => exact Ba.le (by omega)
    have dt := dt.mono sd
    have s8d := s7b.trans (sc.trans sd)
    have dm8 := dm7.mono s8d
    have dn8 := dn7.mono s8d
    have e5b := s8d _ _ e57
    have e7d := s8d _ _ e7
    have ded := de.mono s8d
    refine x_seq ?_
    walk_at "n1"
    refine x_op ?_
    walk_at "v1"
    refine x_lst (dba_run (K := K) (ι := ?iB) (n := ?nB) (m := ?qB) (fs := ?fB) (N := N + 47) (G0 := Gd) ?dB ?mB (Same.refl _) Od ?BB fun Ge He vu ie be se Oe Be du lu lze => ⟨lze, x_fix Oe fun pu Gf Hf sf Of ef => ?_⟩)
    case dB => walk_at "db"
    case mB => decide
    case BB => exact Bc.le (by omega)
    refine x_addl (Of.sub _ _ ((se.trans sf) _ _ ed)) (Of.sub _ _ ef) (sz20 (by rw [lt, lu]; decide)) (x_fix Of fun pw Gg Hg sg Og eg => ?_)
    obtain ⟨en, hen, du⟩ : ∃ en : List Str, (en = [wNew, wNew] ∨ en = [xq, wNew]) ∧ DtL K Ge vu ([⟨[none, some [wIs]], nm ws 4, xc, [xp, xp]⟩, ⟨[some mm, some mn], nm ws 0, xc, en⟩].map (dCs true)) := by
      rcases ie with ⟨i1, ⟨a1, a2, a3, j, a4⟩, u⟩
      rcases j with ⟨_ | _ | j, hj⟩
      · exact ⟨_, .inl rfl, du⟩
      · exact ⟨_, .inr rfl, du⟩
      · exact absurd hj (by show ¬ j + 1 + 1 < 2; omega)
    have hs0 : ∃ hs : List Hd, hs = [(xa, []), (xb, [xp]), (xc, [xp, xq]), (xd, [])] := ⟨_, rfl⟩
    obtain ⟨hs, hhs⟩ := hs0
    have ma : (xa, ([] : List Str)) ∈ hs := by rw [hhs]; simp
    have mb : (xb, [xp]) ∈ hs := by rw [hhs]; simp
    have mc : (xc, [xp, xq]) ∈ hs := by rw [hhs]; simp
    have md : (xd, ([] : List Str)) ∈ hs := by rw [hhs]; simp
    obtain ⟨cs5, hcs5⟩ : ∃ cs5 : List Cs, cs5 = [⟨[some mm, none], nm ws 1, xc, [xq, xp]⟩, ⟨[none, some mn], nm ws 2, xc, [wNew, xp]⟩, ⟨[some [wIs], none], nm ws 3, xb, [xq]⟩, ⟨[none, some [wIs]], nm ws 4, xc, [xp, xp]⟩, ⟨[some mm, some mn], nm ws 0, xc, en⟩] := ⟨_, rfl⟩
    have two2 : ∀ {p : Option (List Str) → Prop} {x y : Option (List Str)}, p x → p y → ∀ m ∈ [x, y], p m := fun hx hy m hm => by
      simp only [List.mem_cons, List.not_mem_nil, or_false] at hm
      rcases hm with rfl | rfl
      · exact hx
      · exact hy
    have good5 : ∀ c ∈ cs5, ∃ g ∈ hs, CsP (wIs :: ns) [xp, xq] g c := by
      intro c hc
      rw [hcs5] at hc
      simp only [List.mem_cons, List.not_mem_nil, or_false] at hc
      rcases hc with rfl | rfl | rfl | rfl | rfl
      · exact ⟨_, mc, rfl, two2 mo3 mk_none, wdn 1 (by decide), rfl, rfl, fun x hx => by simp only [List.mem_cons, List.not_mem_nil, or_false] at hx; rcases hx with rfl | rfl <;> simp⟩
      · exact ⟨_, mc, rfl, two2 mk_none mo4, wdn 2 (by decide), rfl, rfl, fun x hx => by simp only [List.mem_cons, List.not_mem_nil, or_false] at hx; rcases hx with rfl | rfl <;> simp⟩
      · exact ⟨_, mb, rfl, two2 mk_is mk_none, wdn 3 (by decide), rfl, rfl, fun x hx => by simp only [List.mem_cons, List.not_mem_nil, or_false] at hx; rcases hx with rfl; simp⟩
      · exact ⟨_, mc, rfl, two2 mk_none mk_is, wdn 4 (by decide), rfl, rfl, fun x hx => by simp only [List.mem_cons, List.not_mem_nil, or_false] at hx; rcases hx with rfl | rfl <;> simp⟩
      · refine ⟨_, mc, rfl, two2 mo3 mo4, wdn 0 (by decide), rfl, ?_, fun x hx => ?_⟩
        · rcases hen with rfl | rfl <;> rfl
        · rcases hen with rfl | rfl <;> (simp only [List.mem_cons, List.not_mem_nil, or_false] at hx; rcases hx with rfl | rfl <;> simp)
    have d5 : DtL K Gg (vt ++ vu) (cs5.map (dCs true)) := by
      rw [hcs5]
      exact dtl_app (dt.mono (se.trans (sf.trans sg))) (du.mono (sf.trans sg))
    obtain ⟨L5, eL5, eC5, hL5⟩ := dtl_pairs d5
    have l5 : L5.length = 5 := by
      have := congrArg List.length eC5
      rw [hcs5, List.length_map] at this
      exact this.symm
    rw [eL5] at eg
    have s8g := s8d.trans (se.trans (sf.trans sg))
    refine x_seq ?_
    walk_at "n1"
    refine x_op (x_slice (x_call ?_))
    walk_at "s"
    refine ⟨Gg, R, b, pw, L5.map (·.1), N + 42, be, rfl, Og, SqL.of eg, Be.le (by rw [List.length_map, l5]; omega), by rw [List.length_map, l5]; decide, fun Gh Hh pm ym bh sh pmm eh Oh Bh => ?_⟩
    obtain ⟨L5', rfl, p5'⟩ := perm_mapf pmm
    walk_at "s"
    refine ⟨Gh, R, b, 4, N + 41, bh, rfl, Oh, Bh, by decide, by decide, fun Hi ri bi ri0 ri1 Oi Bi => ?_⟩
    obtain ⟨t, rfl⟩ := Int.eq_ofNat_of_zero_le ri0
    refine x_add ?_
    refine x_isI ?_
    refine x_slL (SqL.of (Oi.sub _ _ eh)) (x_fix Oi fun pc Gj Hj sj Oj ej => ?_)
    have l5' : L5'.length = 5 := by rw [p5'.length_eq, l5]
    rw [show (2 : Int) + ((t : Nat) : Int) = ((t + 2 : Nat) : Int) by omega, cut_map (fun q : V × Cs => q.1) L5' (by omega)] at ej
    have s8j := s8g.trans (sh.trans sj)
    have e5b := s8j _ _ e57
    refine x_lst (dba_run (K := K) (ι := ?iC) (n := ?nC) (m := ?qC) (fs := ?fC) (N := N + 40) (G0 := Gj) ?dC ?mC (Same.refl _) Oj ?BC fun Gk Hk vz ik bk sk Ok Bk dz lz lzk => ⟨lzk, x_fix Ok fun pz Gl Hl sl Ol el => ?_⟩)
    case dC => walk_at "db"
    case mC => decide
    case BC => exact Bi.le (by omega)
    obtain ⟨gz, hgz, dz⟩ : ∃ gz : Str, (gz = xa ∨ gz = xd) ∧ DtL K Gk vz ([⟨[none, none], nm ws 4, gz, []⟩].map (dCs true)) := by
      rcases ik with ⟨⟨a1, a2, ⟨pk, j⟩, a4⟩, u⟩
      rcases j with ⟨_ | _ | j, hj⟩
      · exact ⟨_, .inl rfl, dz⟩
      · exact ⟨_, .inr rfl, dz⟩
      · exact absurd hj (by show ¬ j + 1 + 1 < 2; omega)
    refine x_addl (Ol.sub _ _ ((sk.trans sl) _ _ ej)) (Ol.sub _ _ el) (sz20 (by rw [lz, List.length_map, List.length_take]; show _ + 1 ≤ _; omega)) (x_fix Ol fun pv Gm Hm sm Om em => ?_)
    -- the two lists of cases, whole
    obtain ⟨ct, hct⟩ : ∃ ct : List Cs, ct = (L5'.take (t + 2)).map (·.2) ++ [⟨[none, none], nm ws 4, gz, []⟩] := ⟨_, rfl⟩
    have s8m := s8j.trans (sk.trans (sl.trans sm))
    have sgm := sh.trans (sj.trans (sk.trans (sl.trans sm)))
    have dtw : Dt K Gm (.ref pv) (.list (ct.map (dCs true))) := by
      refine .lst (SqL.of em) ?_
      rw [hct, List.map_append]
      refine dtl_app ?_ (dz.mono (sl.trans sm))
      exact pairs_dtl fun q hq => (hL5 q (p5'.mem_iff.mp (List.mem_of_mem_take hq))).mono sgm
    have goodt : ∀ c ∈ ct, ∃ g ∈ hs, CsP (wIs :: ns) [xp, xq] g c := by
      intro c hc
      rw [hct] at hc
      rcases List.mem_append.mp hc with h | h
      · obtain ⟨q, hq, rfl⟩ := List.mem_map.mp h
        exact good5 _ (by rw [eC5]; exact List.mem_map.mpr ⟨q, p5'.mem_iff.mp (List.mem_of_mem_take hq), rfl⟩)
      · rw [List.mem_singleton.mp h]
        rcases hgz with rfl | rfl
        · exact ⟨_, ma, rfl, two2 mk_none mk_none, wdn 4 (by decide), rfl, rfl, fun x hx => nomatch hx⟩
        · exact ⟨_, md, rfl, two2 mk_none mk_none, wdn 4 (by decide), rfl, rfl, fun x hx => nomatch hx⟩
    have lct : ct.length = (t + 2) + 1 := by
      rw [hct, List.length_append, List.length_map, List.length_take]
      show min (t + 2) L5'.length + 1 = _
      omega
    have don : Dt K Gm (.ref po) (.list ([⟨[some mm], nm ws 1, xc, [xp, wNew]⟩, ⟨[some [wIs]], nm ws 2, xb, [xp]⟩, c3].map (dCs true))) := by
      have sbm : Same Gb Gm := sc.trans (sd.trans (se.trans (sf.trans (sg.trans sgm))))
      exact .lst (SqL.of (sbm _ _ eo)) (d1o.mono sbm)
    have e5m := s8m _ _ e57
    -- rest
    refine x_seq ?_
    walk_at "n1"
    refine x_lst (dba_run (K := K) (ι := ?iE) (n := ?nE) (m := ?qE) (fs := ?fE) (N := N + 40) (G0 := Gm) ?dE ?mE (Same.refl _) Om ?BE fun Gn Hn vr ir bn sn On Bn dr lr lzn => ⟨lzn, x_fix On fun pr Gp Hp' sp Op ep => ?_⟩)
    case dE => walk_at "db"
    case mE => decide
    case BE => exact Bk.le (by omega)
    have drs : Dt K Gp (.ref pr) (.list ([⟨[], nm ws 0, xc, [wNew, wNew]⟩].map (dCs true))) := .lst (SqL.of ep) (dr.mono sp)
    have dtw := dtw.mono (sn.trans sp)
    have don := don.mono (sn.trans sp)
    have e5m := (sn.trans sp) _ _ e5m
    refine x_ret ?_
    refine x_lst (dba_run (K := K) (ι := ?iF) (n := ?nF) (m := ?qF) (fs := ?fF) (N := N + 40) (G0 := Gp) ?dF ?mF (Same.refl _) Op ?BF fun Gq Hq vl il bq sq Oq Bq dl ll lzq => ⟨lzq, x_fix Oq fun pl Gr Hr sr Or er => ?_⟩)
    case dF => walk_at "db"
    case mF => decide
    case BF => exact Bn.le (by omega)
    have s05r : Same G Gr := s05.trans (s6.trans (s7.trans (s8m.trans (sn.trans (sp.trans (sq.trans sr))))))
    have hnd : (hs.map (·.1)).Nodup := by rw [hhs]; exact nl4.nd
    have ho : HdsOk 4 hs := by
      refine ⟨by rw [hhs]; rfl, hnd, fun h hh => ?_, fun h e => ?_⟩
      · rw [hhs] at hh
        simp only [List.mem_cons, List.not_mem_nil, or_false] at hh
        have nx : ∀ x ∈ [xa, xb, xc, xd], Wd x := fun x hx => (nl4.nm x hx).wd
        have np : ∀ x ∈ [xp, xq], Nm x := fun x hx => nl2.nm x hx
        rcases hh with rfl | rfl | rfl | rfl
        · exact ⟨nx _ (by simp), by show 0 ≤ 5; decide, (fun x hx => nomatch hx), List.nodup_nil⟩
        · exact ⟨nx _ (by simp), by show 1 ≤ 5; decide, fun x hx => np x (by rw [List.mem_singleton.mp hx]; simp), by simp⟩
        · exact ⟨nx _ (by simp), by show 2 ≤ 5; decide, np, nl2.nd⟩
        · exact ⟨nx _ (by simp), by show 0 ≤ 5; decide, (fun x hx => nomatch hx), List.nodup_nil⟩
      · rw [hhs] at e
        cases e
        rfl
    obtain ⟨ss, hss⟩ : ∃ ss : List Sd, ss = [⟨xa, [], [⟨[], nm ws 0, xb, [wNew]⟩]⟩, ⟨xb, [xp], [⟨[some mm], nm ws 1, xc, [xp, wNew]⟩, ⟨[some [wIs]], nm ws 2, xb, [xp]⟩, c3]⟩, ⟨xc, [xp, xq], ct⟩, ⟨xd, [], [⟨[], nm ws 0, xc, [wNew, wNew]⟩]⟩] := ⟨_, rfl⟩
    refine q Gr Hr pl vl ss bq s05r er ?_ (stOk_of ho (by decide) (by decide) (by rw [hss, hhs]; rfl) fun i s h e1 e2 => ?_) (by rw [hss]; show 4 ≤ 6; decide) Or (Bq.le (by omega))
    · rw [hss]
      exact dl.mono sr
    · have nil1 : ∀ {kn st : List Str} {c : Cs} {p : Prop}, c ∈ ([] : List Cs) → p := fun h => nomatch h
      rw [hss] at e1
      rw [hhs] at e2
      match i, e1, e2 with
      | 0, e1, e2 =>
        cases e1
        cases e2
        refine ⟨rfl, rfl, by show 1 ≤ 1; decide, by show 1 ≤ 130; decide, fun c hc => ?_, fun c e m hm => ?_⟩
        · rw [List.mem_singleton.mp hc]
          exact ⟨_, mb, rfl, (fun m hm => nomatch hm), wdn 0 (by decide), rfl, rfl, fun x hx => .inl (List.mem_singleton.mp hx)⟩
        · cases e
          cases hm
      | 1, e1, e2 =>
        cases e1
        cases e2
        refine ⟨rfl, rfl, by show 1 ≤ 3; decide, by show 3 ≤ 130; decide, fun c hc => ?_, fun c e m hm => ?_⟩
        · simp only [List.mem_cons, List.not_mem_nil, or_false] at hc
          rcases hc with rfl | rfl | rfl
          · exact ⟨_, mc, rfl, fun m hm => by rw [List.mem_singleton.mp hm]; exact mo3, wdn 1 (by decide), rfl, rfl, fun x hx => by simp only [List.mem_cons, List.not_mem_nil, or_false] at hx; rcases hx with rfl | rfl <;> simp⟩
          · exact ⟨_, mb, rfl, fun m hm => by rw [List.mem_singleton.mp hm]; exact mk_is, wdn 2 (by decide), rfl, rfl, fun x hx => by rw [List.mem_singleton.mp hx]; simp⟩
          · have rs : ∀ x ∈ c.sr, x = wNew ∨ x ∈ [xp] := fun x hx => (r3 x hx).imp id fun e => by rw [e]; simp
            have ml : c.ms.length = 1 := by rw [m3]; rfl
            have mm3 : ∀ m ∈ c.ms, MkOk (wIs :: ns) m := fun m hm => by rw [m3, List.mem_singleton] at hm; rw [hm]; exact mk_none
            rcases g3 with ⟨g3, l3⟩ | ⟨g3, l3⟩
            · exact ⟨_, mc, ml, mm3, by rw [w3]; exact wdn 3 (by decide), g3, l3, rs⟩
            · exact ⟨_, mb, ml, mm3, by rw [w3]; exact wdn 3 (by decide), g3, l3, rs⟩
        · cases e
          rw [m3, List.mem_singleton] at hm
          exact hm
      | 2, e1, e2 =>
        cases e1
        cases e2
        refine ⟨rfl, rfl, by show 1 ≤ ct.length; omega, by show ct.length ≤ 130; omega, goodt, fun c e m hm => ?_⟩
        have e : ct[ct.length - 1]? = some c := e
        rw [hct, List.length_append, List.length_singleton, Nat.add_sub_cancel, List.getElem?_append_right (Nat.le_refl _), Nat.sub_self] at e
        cases e
        simp only [List.mem_cons, List.not_mem_nil, or_false, or_self] at hm
        exact hm
      | 3, e1, e2 =>
        cases e1
        cases e2
        refine ⟨rfl, rfl, by show 1 ≤ 1; decide, by show 1 ≤ 130; decide, fun c hc => ?_, fun c e m hm => ?_⟩
        · rw [List.mem_singleton.mp hc]
          exact ⟨_, mc, rfl, (fun m hm => nomatch hm), wdn 0 (by decide), rfl, rfl, fun x hx => by simp only [List.mem_cons, List.not_mem_nil, or_false] at hx; rcases hx with rfl | rfl <;> simp⟩
        · cases e
          cases hm
      | i + 4, e1, e2 => cases e1
end
end
section
open PySem PySem.Spec PyProof.Rows L2 G
set_option maxHeartbeats 4000000
local macro_rules | `(tactic| walk_at "s1") => `(tactic| with_reducible first | refine x_appL ?_ | refine x_star ?_ | refine x_dcS ?_ | refine x_dcEA ?_ | refine x_lcEA ?_)
theorem x_addtN {K : PySem.W.Frag} {H : Hp} {Q : VK} {p q : Addr} {xs ys : List V} (h1 : SqT K H p xs) (h2 : SqT K H q ys) (hz : xs.length + ys.length ≤ sizeLine) (ne : ys ≠ []) (q0 : xs = [] → Q (.ref q) H) (k : xs ≠ [] → nw (.tup (xs ++ ys)) H Q) : aAdd K (.ref p) (.ref q) H Q :=
  .inr (.inr (.inr ⟨p, q, xs, ys, rfl, rfl, h1, h2, hz, q0, (fun _ z => absurd z ne), fun z _ => k z⟩))
section
variable {P : Program} {w : World} {K : PySem.W.Frag} {mg : Str → Option Value} {base : Heap} {k : Nat} {kw C CP D CW CM : Addr}
abbrev s__law_power : Stmt := top 58
theorem sc__law_power : FnScope ["one", "many", "found", "k"] ["one", "many"] (defScope s__law_power) := ⟨rfl, rfl, rfl, by decide +kernel, rfl, by decide +kernel, by decide +kernel⟩
def sp_pow : Sp := fun vs H Q _ => ∃ (G : Hp) (R : List (Addr × HO)) (n m : Nat), vs = [.int (n : Nat), .int (m : Nat)] ∧ Own G H R ∧ n ≤ 1000 ∧ m ≤ 1000 ∧ ∀ (G' H' : Hp), Same G G' → Own G' H' R → Q (.int ((n ^ m : Nat) : Int)) H'
theorem ok_pow {f : Addr} {fd : FuncData} (F : Fun K "_law_power" "_law_power" s__law_power f fd) (B : Btt mg) : FnG P w K mg base (k + 1) f fd ["one", "many"] sp_pow := by
  refine fnG_of F sc__law_power (fun vs H Q E h => ?_) (fun cdv A outer s H vs Q E r h => ?_)
  · obtain ⟨_, _, _, _, rfl, _⟩ := h
    rfl
  · obtain ⟨G, R, n, m, rfl, O, hn, hm, q⟩ := h
    refine ⟨_, (pss_cons (ps_set (i := 2) sc__law_power.nd rfl (Or.inl rfl) pe_int)
       (pss_cons (ps_for (passes_of rfl) rfl (pi_range1 (by rfl) B.range (pa_cons (pv 1) pa_nil)) (pg_name (i := 3) sc__law_power.nd rfl (Or.inl rfl))
       (pss_one (ps_set (i := 2) sc__law_power.nd rfl (Or.inl rfl) (pe_op oMul (pv 2) (pv 0)))))
       (pss_one (ps_ret (pv 2))))), ?_⟩
    try dsimp only [cxOf]
    refine x_start (σ' := [some _, some _, none, none]) rfl ?_
    walk_at "s"
    refine x_rg (by omega) (by omega) ?_
    refine for_own walk_range O (fun i σ' G' L' => ∃ x3 : Option V, R = L' ∧ σ' = [some (.int (n : Nat)), some (.int (m : Nat)), some (.int ((n ^ i : Nat) : Int)), x3]) ⟨none, rfl, rfl⟩ (fun _ _ _ _ _ _ _ _ => True.intro) ?_ ?_
    · rintro i x σ' G' H' H2' L' hi s' O' ⟨x3, rfl, rfl⟩ ⟨rfl, rfl⟩
      walk_at "s"
      refine x_mul (.inr ⟨by omega, by omega⟩) ?_
      walk_at "s"
      exact fvh s' O' ⟨_, rfl, by rw [Nat.pow_succ, Int.natCast_mul]⟩
    · rintro σ' G' H' L' s' O' ⟨x3, rfl, rfl⟩
      walk_at "s"
      rw [show ((m : Nat) : Int).toNat = m from Int.toNat_natCast _]
      exact q G' H' s' O'
abbrev s__law_all_marks : Stmt := top 54
theorem sc__law_all_marks : FnScope ["known", "many", "found", "k", "longer", "row", "mark"] ["known", "many"] (defScope s__law_all_marks) := ⟨rfl, rfl, rfl, by decide +kernel, rfl, by decide +kernel, by decide +kernel⟩
def sp_lam (K : PySem.W.Frag) : Sp := fun vs H Q _ => ∃ (G : Hp) (R : List (Addr × HO)) (a : Addr) (kn : List Str) (n : Nat), vs = [.ref a, .int (n : Nat)] ∧ Own G H R ∧ SqL K G a (kn.map V.str) ∧ kn.length ≤ 5 ∧ n ≤ 5 ∧
  ∀ (G' H' : Hp) (q : Addr) (As : List (Addr × List Str)), Same G G' → Own G' H' R → G' q = some (.lst (As.map fun q => V.ref q.1)) → Tps G' As → As.map (·.2) = allM kn n → Q (.ref q) H'
theorem ok_lam {f : Addr} {fd : FuncData} (F : Fun K "_law_all_marks" "_law_all_marks" s__law_all_marks f fd) (B : Btt mg) : FnG P w K mg base (k + 1) f fd ["known", "many"] (sp_lam K) := by
  refine fnG_of F sc__law_all_marks (fun vs H Q E h => ?_) (fun cdv A outer s H vs Q E r h => ?_)
  · obtain ⟨_, _, _, _, _, rfl, _⟩ := h
    rfl
  · obtain ⟨G, R, a, kn, n, rfl, O, ha, hk, hn, q⟩ := h
    refine ⟨_, (pss_cons (ps_set (i := 2) sc__law_all_marks.nd rfl (Or.inl rfl) (d_lst (pa_cons (d_tup pa_nil) pa_nil)))
       (pss_cons (ps_for (passes_of rfl) rfl (pi_range1 (by rfl) B.range (pa_cons (pv 1) pa_nil)) (pg_name (i := 3) sc__law_all_marks.nd rfl (Or.inl rfl))
       (pss_cons (ps_set (i := 4) sc__law_all_marks.nd rfl (Or.inl rfl) (d_lst pa_nil))
       (pss_cons (ps_for (passes_of rfl) rfl (pi_sqK (K := K) rfl (pv 2)) (pg_name (i := 5) sc__law_all_marks.nd rfl (Or.inr rfl))
       (pss_one (ps_set (i := 4) sc__law_all_marks.nd rfl (Or.inl rfl) (pe_op (oAddK (K := K) rfl) (pv 4) (pe_lc (own := [("mark", 6)]) rfl sc__law_all_marks.nd (pi_sqK (K := K) rfl (pv 0)) (blkOk_by (N := ["known", "many", "found", "k", "longer", "row", "mark"]) (sc := defScope s__law_all_marks) (by decide +kernel)) (fun _ _ _ _ _ => (pg_name (i := 6) sc__law_all_marks.nd rfl (Or.inl rfl))) (fun _ _ _ _ _ => pts_nil) (fun _ _ _ _ _ => (pe_op (oAddK (K := K) rfl) (pv 5) (d_tup (pa_cons (pv 6) pa_nil)))))))))
       (pss_one (ps_set (i := 2) sc__law_all_marks.nd rfl (Or.inl rfl) (pv 4))))))
       (pss_one (ps_ret (pv 2))))), ?_⟩
    try dsimp only [cxOf]
    refine x_start (σ' := [some _, some _, none, none, none, none, none]) rfl ?_
    walk_at "s"
    refine ⟨by decide, x_fix O fun p1 G1 H1 s1 O1 e1 => ?_⟩
    refine ⟨by show 1 ≤ sizeLine; decide, x_fix O1 fun p2 G2 H2 s2 O2 e2 => ?_⟩
    walk_at "s"
    refine x_rg (by omega) (by omega) ?_
    have s12 := s1.trans s2
    refine for_own walk_range O2 (fun i σ' G' L' => ∃ (fp : Addr) (As : List (Addr × List Str)) (x3 x4 x5 : Option V), R = L' ∧ G' fp = some (.lst (As.map fun q => V.ref q.1)) ∧ Tps G' As ∧ As.map (·.2) = allM kn i ∧ σ' = [some (.ref a), some (.int (n : Nat)), some (.ref fp), x3, x4, x5, none])
      ⟨p2, [(p1, [])], none, none, none, rfl, e2, fun q hq => by rw [List.mem_singleton.mp hq]; exact s2 _ _ e1, rfl, rfl⟩ (fun _ _ _ _ _ _ _ _ => True.intro) ?_ ?_
    · rintro i x σ' G' H' H2' L' hi s' O' ⟨fp, As, x3, x4, x5, rfl, hf, tA, eA, rfl⟩ ⟨rfl, rfl⟩
      have hi5 : i < 5 := by omega
      have lA : As.length = kn.length ^ i := by rw [← List.length_map (f := (·.2)) (as := As), eA, allM_len]
      have l625 : As.length ≤ 625 := by
        rw [lA]
        exact Nat.le_trans (Nat.pow_le_pow_left hk i) (Nat.pow_le_pow_right (n := 5) (by decide) (show i ≤ 4 by omega))
      walk_at "s"
      refine ⟨by decide, x_fix O' fun pl G3 H3 s3 O3 e3 => ?_⟩
      walk_at "s"
      refine x_sqL (SqL.of (O3.sub _ _ (s3 _ _ hf))) ?_
      refine for_own walk_list O3 (fun j σ' G' L' => ∃ (lp : Addr) (Bs : List (Addr × List Str)) (x5 : Option V), R = L' ∧ G' lp = some (.lst (Bs.map fun q => V.ref q.1)) ∧ Tps G' Bs ∧ Bs.map (·.2) = ((As.map (·.2)).take j).flatMap (fun row => kn.map fun x => row ++ [x]) ∧ σ' = [some (.ref a), some (.int (n : Nat)), some (.ref fp), some (.int (0 + (i : Int))), some (.ref lp), x5, none])
        ⟨pl, [], x5, rfl, e3, (fun _ z => nomatch z), rfl, rfl⟩ (fun j σ' G' H' L' s' O' _ => SqL.of (O'.sub _ _ ((s3.trans s') _ _ hf))) ?_ ?_
      · rintro j x σ' G4 H4 H4' L4 hj s4 O4 ⟨lp, Bs, x5, rfl, hl, tB, eB, rfl⟩ ⟨rfl, ex⟩
        obtain ⟨t, rfl, et⟩ := ref_at ex
        have gt := (s3.trans s4) _ _ (tA t (List.mem_of_getElem? et))
        have lB : Bs.length ≤ 3125 := by
          have := len_fmap (kn := kn) (rows := (As.map (·.2)).take j)
          rw [← eB, List.length_map, List.length_take, List.length_map] at this
          rw [this]
          exact Nat.le_trans (Nat.mul_le_mul (Nat.min_le_right _ _) hk) (by omega)
        have lt5 : t.2.length = i := (allM_mem (kn := kn) (by rw [← eA]; exact List.mem_map.mpr ⟨t, List.mem_of_getElem? et, rfl⟩)).1
        walk_at "n1"
        walk_at "s"
        refine x_sqL (O4.seq ((s12.trans (s'.trans (s3.trans s4))).seq ha)) ?_
        refine lc_map (by walk_at "n") walk_list O4 (by rw [List.length_map]; omega) (fun G' l y => ∃ q : Addr × List Str, y = .ref q.1 ∧ G' q.1 = some (.tup (q.2.map V.str)) ∧ (kn.map fun x => t.2 ++ [x])[l]? = some q.2) (fun _ _ _ _ s z => let ⟨c, a, b, d⟩ := z; ⟨c, a, s _ _ b, d⟩) (fun G' H' D acc s5 O5 => O5.seq ((s12.trans (s'.trans (s3.trans (s4.trans s5)))).seq ha)) ?_ gm_name ?_
        · rintro l x G5 H5 H5' D acc hl s5 O5 ⟨rfl, ex5⟩ kk
          obtain ⟨z, rfl, ez⟩ := txt_at ex5
          walk_at "s"
          refine ⟨by show 1 ≤ sizeLine; decide, x_fix O5 fun p6 G6 H6 s6 O6 e6 => ?_⟩
          have hz : (kn.map fun x => t.2 ++ [x])[l]? = some (t.2 ++ [z]) := by rw [List.getElem?_map, ez]; rfl
          refine x_addtN (SqT.of (O6.sub _ _ ((s5.trans s6) _ _ gt))) (SqT.of (O6.sub _ _ e6)) (by rw [List.length_map, sizeLine_eq, lt5]; simp; omega) (List.cons_ne_nil _ _) (fun e0 => ?_) (fun _ => x_fix O6 fun p7 G7 H7 s7 O7 e7 => ?_)
          · refine kk _ _ _ s6 O6 ⟨(p6, t.2 ++ [z]), rfl, ?_, hz⟩
            have : t.2 = [] := List.map_eq_nil_iff.mp e0
            show G6 p6 = some (.tup ((t.2 ++ [z]).map V.str))
            rw [this]
            exact e6
          · refine kk _ _ _ (s6.trans s7) O7 ⟨(p7, t.2 ++ [z]), rfl, ?_, hz⟩
            show G7 p7 = some (.tup ((t.2 ++ [z]).map V.str))
            rw [List.map_append]
            exact e7
        intro G5 H5 p5 ys s5 O5 e5 l5 r5
        obtain ⟨Cs, rfl, hC⟩ := pulls (b := 0) (f := fun q : Addr × List Str => V.ref q.1) (Φ := fun l q => G5 q.1 = some (.tup (q.2.map V.str)) ∧ (kn.map fun x => t.2 ++ [x])[l]? = some q.2) (fun l y e => by
          obtain ⟨q, a, b, c⟩ := r5 l y e
          exact ⟨q, a, by rw [Nat.zero_add]; exact ⟨b, c⟩⟩)
        simp only [Nat.zero_add] at hC
        rw [List.length_map, List.length_map] at l5
        have eC : Cs.map (·.2) = kn.map fun x => t.2 ++ [x] := by
          refine List.ext_getElem? fun l => ?_
          rw [List.getElem?_map]
          cases e : Cs[l]? with
          | none => rw [List.getElem?_eq_none (by have := List.getElem?_eq_none_iff.mp e; rw [List.length_map]; omega)]; rfl
          | some q => exact (hC l q e).2.symm
        refine x_addl (O5.sub _ _ (s5 _ _ hl)) (O5.sub _ _ e5) (sz20 (by rw [List.length_map, List.length_map]; omega)) (x_fix O5 fun p6 G6 H6 s6 O6 e6 => ?_)
        walk_at "s"
        refine fvh (s4.trans (s5.trans s6)) O6 ⟨p6, Bs ++ Cs, _, rfl, by rw [List.map_append]; exact e6, fun q hq => ?_, ?_, rfl⟩
        · rcases List.mem_append.mp hq with h | h
          · exact (s5.trans s6) _ _ (tB q h)
          · obtain ⟨l, hl, rfl⟩ := List.getElem_of_mem h
            exact s6 _ _ (hC l _ (List.getElem?_eq_getElem hl)).1
        · rw [List.map_append, eB, eC, take_snoc (show (As.map (·.2))[j]? = some t.2 by rw [List.getElem?_map, et]; rfl), List.flatMap_append]
          simp
      · rintro σ' G4 H4 L4 s4 O4 ⟨lp, Bs, x5, rfl, hl, tB, eB, rfl⟩
        rw [List.length_map, ← List.length_map (f := (·.2)), List.take_length, eA] at eB
        walk_at "s"
        exact fvh (s'.trans (s3.trans s4)) O4 ⟨lp, Bs, _, _, _, rfl, hl, tB, eB, rfl⟩
    · rintro σ' G' H' L' s' O' ⟨fp, As, x3, x4, x5, rfl, hf, tA, eA, rfl⟩
      walk_at "s"
      exact q G' H' fp As (s12.trans s') O' hf tA eA
abbrev s__law_counts : Stmt := top 55
theorem sc__law_counts : FnScope ["seats", "case", "marks", "k"] ["seats", "case", "marks"] (defScope s__law_counts) := ⟨rfl, rfl, rfl, by decide +kernel, rfl, by decide +kernel, by decide +kernel⟩
def sp_cnt (K : PySem.W.Frag) : Sp := fun vs H Q _ => ∃ (G : Hp) (R : List (Addr × HO)) (sv cv : V) (b : Addr) (st : List Str) (c : Cs) (mk : List Str), vs = [sv, cv, .ref b] ∧ Own G H R ∧ Dt K G sv (.list (st.map .str)) ∧ Dt K G cv (dCs true c) ∧ SqT K G b (mk.map V.str) ∧ c.ms.length = st.length ∧ mk.length = st.length ∧ st.length ≤ 5 ∧
  ∀ (G' H' : Hp) (b : Bool), Same G G' → Own G' H' R → (b = true ↔ MeetsC c.ms mk) → Q (.bl b) H'
theorem ok_cnt {f : Addr} {fd : FuncData} (F : Fun K "_law_counts" "_law_counts" s__law_counts f fd) (B : Btt mg) : FnG P w K mg base (k + 1) f fd ["seats", "case", "marks"] (sp_cnt K) := by
  refine fnG_of F sc__law_counts (fun vs H Q E h => ?_) (fun cdv A outer s H vs Q E r h => ?_)
  · obtain ⟨_, _, _, _, _, _, _, _, rfl, _⟩ := h
    rfl
  · obtain ⟨G, R, sv, cv, b, st, c, mk, rfl, O, hs, hc, hb, lm, lk, l5, q⟩ := h
    refine ⟨_, (pss_one (ps_ret (pe_cmpR (oEqK (K := K) rfl r) (pe_lc (own := [("k", 3)]) rfl sc__law_counts.nd (pi_range1 (by rfl) B.range (pa_cons (pe_callB (cLenK (K := K) rfl) (by rfl) B.len (by decide +kernel) (pa_cons (pv 0) pa_nil)) pa_nil)) (blkOk_by (N := ["seats", "case", "marks", "k"]) (sc := defScope s__law_counts) (by decide +kernel)) (fun _ _ _ _ _ => (pg_name (i := 3) sc__law_counts.nd rfl (Or.inl rfl))) (fun _ _ _ _ _ => (pts_one (PW.pt (pw_and (pt_cmpR oIsn (pe_ix (ixK (K := K) rfl) (pe_ix (ixK (K := K) rfl) (pv 1) pe_int (fun _ _ => rfl)) (pv 3) (fun _ _ => rfl)) pe_non (nomark _)) (pw_and1 (pt_cmpR (oNinK (K := K) rfl) (pe_ix (ixK (K := K) rfl) (pv 2) (pv 3) (fun _ _ => rfl)) (pe_ix (ixK (K := K) rfl) (pe_ix (ixK (K := K) rfl) (pv 1) pe_int (fun _ _ => rfl)) (pv 3) (fun _ _ => rfl)) (by rfl))))))) (fun _ _ _ _ _ => (pv 3))) (d_lst pa_nil) (nomark _)))), ?_⟩
    try dsimp only [cxOf]
    refine x_start (σ' := [some _, some _, some _, none]) rfl ?_
    obtain ⟨sa, rfl, hsa⟩ := dt_strsL hs
    obtain ⟨ca, v1, v4, rfl, hca, h1, h4⟩ := dt_cs hc
    obtain ⟨ma, mx, rfl, hma, hmx⟩ := dt_sqL h1
    have lx : mx.length = st.length := by rw [hmx.length, List.length_map, lm]
    walk_at "s"
    refine x_lenl (O.seq hsa) ?_
    rw [List.length_map]
    refine x_rg (by omega) (by omega) ?_
    rw [show ((st.length : Nat) : Int).toNat = st.length from Int.toNat_natCast _]
    refine lc_own (by walk_at "n") walk_range O (fun i G' L' acc => R = L' ∧ acc.length ≤ i ∧ (acc = [] ↔ ∀ (j : Nat) (m : Option (List Str)) (x : Str), j < i → c.ms[j]? = some m → mk[j]? = some x → mkB m x = true)) ⟨rfl, Nat.le_refl _, fun _ j m x z => absurd z (Nat.not_lt_zero _), fun _ => rfl⟩ (fun _ _ _ _ _ _ _ _ _ => True.intro) ?_ ?_
    · rintro i x G' H' H2 D L' acc hi s' O' ⟨rfl, la, ha⟩ ⟨rfl, rfl⟩
      obtain ⟨m, em⟩ : ∃ m, c.ms[i]? = some m := ⟨_, List.getElem?_eq_getElem (by omega)⟩
      obtain ⟨y, ey, hm⟩ := dtl_mapGet hmx em
      obtain ⟨z, ez⟩ : ∃ z, mk[i]? = some z := ⟨_, List.getElem?_eq_getElem (by omega)⟩
      have yes : mkB m z = true → PvH G (fun i G' L' acc => R = L' ∧ acc.length ≤ i ∧ (acc = [] ↔ ∀ (j : Nat) (m : Option (List Str)) (x : Str), j < i → c.ms[j]? = some m → mk[j]? = some x → mkB m x = true)) D (i + 1) H2 := fun e => ⟨G', _, acc, s', O', rfl, by omega, ha.trans ⟨fun h j m' x' hj e1 e2 => by
        rcases Nat.lt_or_ge j i with hlt | hge
        · exact h j m' x' hlt e1 e2
        · have : j = i := by omega
          subst this
          rw [em] at e1
          rw [ez] at e2
          cases e1
          cases e2
          exact e, fun h j m' x' hj => h j m' x' (by omega)⟩⟩
      have no : mkB m z = false → LcN G (fun i G' L' acc => R = L' ∧ acc.length ≤ i ∧ (acc = [] ↔ ∀ (j : Nat) (m : Option (List Str)) (x : Str), j < i → c.ms[j]? = some m → mk[j]? = some x → mkB m x = true)) D i (.int (i : Int)) H2 := fun e => lcn s' O' (lt_line (by omega)) ⟨rfl, by rw [List.length_append, List.length_singleton]; omega, fun h => absurd h (by simp), fun h => by
        have := h i m z (by omega) em ez
        rw [e] at this
        cases this⟩
      walk_at "s"
      rw [Int.zero_add]
      refine x_ixt (v := .ref ma) (O'.set (same_t s' hca)) rfl ?_
      walk_at "s"
      refine x_ixl (v := y) (O'.seq (s'.seq hma)) (atI_nat ey) ?_
      walk_at "s"
      cases m with
      | none =>
        obtain rfl := dt_non hm
        rw [decide_eq_true (rfl : V.non = V.non)]
        walk_at "s"
        exact yes rfl
      | some l =>
        obtain ⟨lc, rfl, hlc⟩ := dt_strsL hm
        rw [decide_eq_false (fun e : V.ref lc = V.non => nomatch e)]
        walk_at "s"
        refine x_ixt (v := .str z) (O'.set (same_t s' hb)) (atI_nat (by rw [List.getElem?_map, ez]; rfl)) ?_
        walk_at "s"
        refine x_ixt (v := .ref ma) (O'.set (same_t s' hca)) rfl ?_
        walk_at "s"
        refine x_ixl (v := .ref lc) (O'.seq (s'.seq hma)) (atI_nat ey) ?_
        refine x_ninS (ts := l) (.inl (O'.seq (s'.seq hlc))) ?_
        cases hc2 : l.contains z with
        | true =>
          refine ⟨false, rfl, ite_f ?_⟩
          exact yes hc2
        | false =>
          refine ⟨true, rfl, ite_t ?_⟩
          walk_at "s"
          exact no hc2
    · rintro G1 H1 D L' acc s1 O1 ⟨rfl, la, ha⟩
      walk_at "s"
      refine ⟨by show 0 ≤ sizeLine; decide, x_fix O1 fun p2 G2 H2 s2 O2 e2 => ?_⟩
      refine x_eqN (SqL.of O2.at0) (SqL.of (O2.sub _ _ e2)) ?_
      refine q G2 H2 _ (s1.trans s2) O2.tail ?_
      rw [List.isEmpty_iff, ha]
      exact ⟨fun h j m x e1 e2 => h j m x (by have := (List.getElem?_eq_some_iff.mp e1).1; omega) e1 e2, fun h j m x _ e1 e2 => h j m x e1 e2⟩
end
end
section
open PySem PySem.Spec PyProof.Rows L2 G
set_option maxHeartbeats 4000000
theorem ix_app : ∀ {xs ys : List Str} {x : Str}, x ∈ xs → ixOf (xs ++ ys) x = ixOf xs x
  | [], _, _, h => nomatch h
  | y :: xs, ys, x, h => by
    show (if y = x then 0 else ixOf (xs ++ ys) x + 1) = (if y = x then 0 else ixOf xs x + 1)
    by_cases e : y = x
    · rw [if_pos e, if_pos e]
    · rw [if_neg e, if_neg e, ix_app ((List.mem_cons.mp h).resolve_left fun z => e z.symm)]
theorem ix_end : ∀ {xs : List Str} {x : Str}, x ∉ xs → ixOf (xs ++ [x]) x = xs.length
  | [], x, _ => by
    show (if x = x then 0 else _) = 0
    rw [if_pos rfl]
  | y :: xs, x, h => by
    show (if y = x then 0 else ixOf (xs ++ [x]) x + 1) = _
    rw [if_neg fun e => h (by rw [e]; exact List.mem_cons_self), ix_end fun z => h (List.mem_cons_of_mem _ z)]
    rfl
theorem ix_no : ∀ {xs : List Str} {x : Str} {m : Nat} {y : Str}, m < ixOf xs x → xs[m]? = some y → y ≠ x
  | [], _, _, _, h, _ => absurd h (Nat.not_lt_zero _)
  | z :: xs, x, m, y, h, e => by
    have h : m < (if z = x then 0 else ixOf xs x + 1) := h
    by_cases c : z = x
    · rw [if_pos c] at h
      exact absurd h (Nat.not_lt_zero _)
    · rw [if_neg c] at h
      cases m with
      | zero => cases e; exact c
      | succ m => exact ix_no (by omega) (show xs[m]? = some y from e)
theorem x_indexS {K : PySem.W.Frag} {H : Hp} {Q : VK} {a : Addr} {ts : List Str} {x : Str} (h : SqL K H a (ts.map V.str)) (hx : x ∈ ts) (q : Q (.int (ixOf ts x : Nat)) H) : rIndex K (.ref a) [.str x] H Q := by
  refine ⟨a, ts.map V.str, .str x, ixOf ts x, .str x, rfl, rfl, h, rfl, ?_, by rw [List.getElem?_map, ix_get hx]; rfl, ?_, fun m z hm e => ?_, q⟩
  · rw [List.all_eq_true]
    intro v hv
    obtain ⟨y, _, rfl⟩ := List.mem_map.mp hv
    rfl
  · show (x == x) = true
    exact beq_self_eq_true x
  · obtain ⟨y, rfl, ey⟩ := txt_at e
    show (y == x) = false
    exact beq_eq_false_iff_ne.mpr (ix_no hm ey)
/-- lists of data that stand -/
def RwsAt (K : PySem.W.Frag) (G : Hp) (xs : List V) (dss : List (List PyData)) : Prop := xs.length = dss.length ∧ ∀ (i : Nat) (x : V) (ds : List PyData), xs[i]? = some x → dss[i]? = some ds → ∃ p vs, x = .ref p ∧ G p = some (.lst vs) ∧ DtL K G vs ds
theorem RwsAt.same {K : PySem.W.Frag} {G G' : Hp} {xs : List V} {dss : List (List PyData)} (h : RwsAt K G xs dss) (s : Same G G') : RwsAt K G' xs dss := ⟨h.1, fun i x ds e1 e2 => let ⟨p, vs, a, b, c⟩ := h.2 i x ds e1 e2; ⟨p, vs, a, s _ _ b, c.mono s⟩⟩
theorem RwsAt.snoc {K : PySem.W.Frag} {G : Hp} {xs : List V} {dss : List (List PyData)} {p : Addr} {vs : List V} {ds : List PyData} (h : RwsAt K G xs dss) (h1 : G p = some (.lst vs)) (h2 : DtL K G vs ds) : RwsAt K G (xs ++ [.ref p]) (dss ++ [ds]) := by
  refine ⟨by rw [List.length_append, List.length_append, h.1]; rfl, fun i x d e1 e2 => ?_⟩
  have hl := h.1
  rcases Nat.lt_trichotomy i xs.length with hi | hi | hi
  · rw [List.getElem?_append_left hi] at e1
    rw [List.getElem?_append_left (by omega)] at e2
    exact h.2 i x d e1 e2
  · subst hi
    rw [List.getElem?_append_right (Nat.le_refl _), Nat.sub_self] at e1
    rw [hl, List.getElem?_append_right (Nat.le_refl _), Nat.sub_self] at e2
    cases e1
    cases e2
    exact ⟨p, vs, rfl, h1, h2⟩
  · rw [List.getElem?_eq_none (by rw [List.length_append]; simp; omega)] at e1
    cases e1
theorem RwsAt.dt {K : PySem.W.Frag} {G : Hp} {xs : List V} {dss : List (List PyData)} (h : RwsAt K G xs dss) : DtL K G xs (dss.map .list) := dtl_map h.1 fun i y ds e1 e2 => by
  obtain ⟨p, vs, rfl, h1, h2⟩ := h.2 i y ds e1 e2
  exact .lst (SqL.of h1) h2
/-- rows of all standings, as data -/
def DueL (kS : List Str) (ss : List Sd) (dss : List (List PyData)) : Prop := dss.length = ss.length ∧ ∀ (i : Nat) (ds : List PyData) (s : Sd), dss[i]? = some ds → ss[i]? = some s → RowsC kS ss s ds
theorem DueL.uniq {kS : List Str} {ss : List Sd} {d d' : List (List PyData)} (h : DueL kS ss d) (h' : DueL kS ss d') : d = d' := by
  refine List.ext_getElem (h.1.trans h'.1.symm) fun i h1 h2 => ?_
  have hi : i < ss.length := by rw [← h.1]; exact h1
  exact (h.2 i _ _ (List.getElem?_eq_getElem h1) (List.getElem?_eq_getElem hi)).uniq (h'.2 i _ _ (List.getElem?_eq_getElem h2) (List.getElem?_eq_getElem hi))
section
variable {P : Program} {w : World} {K : PySem.W.Frag} {mg : Str → Option Value} {base : Heap} {k : Nat} {kw C CP D CW CM : Addr}
abbrev s__law_rows_due : Stmt := top 56
theorem sc__law_rows_due : FnScope ["ways", "standings", "known", "names", "found", "name", "seats", "cases", "rows", "seated", "marks", "case", "sources", "item", "one"] ["ways", "standings"] (defScope s__law_rows_due) := ⟨rfl, rfl, rfl, by decide +kernel, rfl, by decide +kernel, by decide +kernel⟩
def sp_rdu (K : PySem.W.Frag) : Sp := fun vs H Q _ => ∃ (G : Hp) (R : List (Addr × HO)) (wa : Addr) (sv : V) (W : List (Str × Str)) (ss : List Sd), vs = [.ref wa, sv] ∧ Own G H R ∧ WyAt G wa W ∧ WaysOk W ∧ Dt K G sv (dSt true ss) ∧ StOk (knW W) ss ∧
  ∀ (G' H' : Hp) (p : Addr) (xs : List V) (kS : List Str) (dss : List (List PyData)), Same G G' → Own G' H' R → kS.Perm (knW W) → sortedS kS = true → G' p = some (.lst xs) → RwsAt K G' xs dss → DueL kS ss dss → Q (.ref p) H'
theorem ok_rdu {f : Addr} {fd : FuncData} (F : Fun K "_law_rows_due" "_law_rows_due" s__law_rows_due f fd) (B : Btt mg) (C__law_all_marks : Cal P w K mg base k "_law_all_marks" ["known", "many"] (sp_lam K)) (C__law_counts : Cal P w K mg base k "_law_counts" ["seats", "case", "marks"] (sp_cnt K)) : FnG P w K mg base (k + 1) f fd ["ways", "standings"] (sp_rdu K) := by
  refine fnG_of F sc__law_rows_due (fun vs H Q E h => ?_) (fun cdv A outer s H vs Q E r h => ?_)
  · obtain ⟨_, _, _, _, _, _, rfl, _⟩ := h
    rfl
  · obtain ⟨G, R, wa, sv, W, ss, rfl, O, wy, wo, hv, ok, q⟩ := h
    refine ⟨_, (pss_cons (ps_par3 (i := 2) (j := 3) (l := 4) rfl sc__law_rows_due.nd rfl rfl rfl (by decide) (by decide) (by decide) rfl rfl rfl (pa_cons (pe_callB (cSortedK (K := K) rfl) (by rfl) B.sorted (by decide +kernel) (pa_cons (pe_op (oAddK (K := K) rfl) (pe_lc (own := [("item", 13)]) rfl sc__law_rows_due.nd (pi_sqK (K := K) rfl (pv 0)) (blkOk_by (N := ["ways", "standings", "known", "names", "found", "name", "seats", "cases", "rows", "seated", "marks", "case", "sources", "item", "one"]) (sc := defScope s__law_rows_due) (by decide +kernel)) (fun _ _ _ _ _ => (pg_name (i := 13) sc__law_rows_due.nd rfl (Or.inl rfl))) (fun _ _ _ _ _ => pts_nil) (fun _ _ _ _ _ => (pe_ix (ixK (K := K) rfl) (pv 13) pe_int (fun _ _ => rfl)))) (d_lst (pa_cons pe_str pa_nil))) pa_nil)) (pa_cons (pe_lc (own := [("item", 13)]) rfl sc__law_rows_due.nd (pi_sqK (K := K) rfl (pv 1)) (blkOk_by (N := ["ways", "standings", "known", "names", "found", "name", "seats", "cases", "rows", "seated", "marks", "case", "sources", "item", "one"]) (sc := defScope s__law_rows_due) (by decide +kernel)) (fun _ _ _ _ _ => (pg_name (i := 13) sc__law_rows_due.nd rfl (Or.inl rfl))) (fun _ _ _ _ _ => pts_nil) (fun _ _ _ _ _ => (pe_ix (ixK (K := K) rfl) (pv 13) pe_int (fun _ _ => rfl)))) (pa_cons (d_lst pa_nil) pa_nil))) (by rfl))
       (pss_cons (ps_for (passes_of rfl) rfl (pi_sqK (K := K) rfl (pv 1)) (pg_tupK (K := K) (n := 3) rfl rfl (pgs_cons (pg_name (i := 5) sc__law_rows_due.nd rfl (Or.inl rfl)) (pgs_cons (pg_name (i := 6) sc__law_rows_due.nd rfl (Or.inl rfl)) (pgs_cons (pg_name (i := 7) sc__law_rows_due.nd rfl (Or.inl rfl)) pgs_nil))))
       (pss_cons (ps_asg (d_tup (pa_cons (d_lst pa_nil) (pa_cons (pe_callTy (cListK (K := K) rfl) (by rfl) B.list (by decide +kernel) (pa_cons (pv 6) pa_nil)) pa_nil))) (pg_tupK (K := K) (n := 2) rfl rfl (pgs_cons (pg_name (i := 8) sc__law_rows_due.nd rfl (Or.inl rfl)) (pgs_cons (pg_name (i := 9) sc__law_rows_due.nd rfl (Or.inr rfl)) pgs_nil))))
       (pss_cons (ps_for (passes_of rfl) rfl (pi_sqK (K := K) rfl (g_call C__law_all_marks r (by rfl) passL (pa_cons (pv 2) (pa_cons (pe_callB (cLenK (K := K) rfl) (by rfl) B.len (by decide +kernel) (pa_cons (pv 6) pa_nil)) pa_nil)))) (pg_name (i := 10) sc__law_rows_due.nd rfl (Or.inl rfl))
       (pss_one (ps_for (passes_of rfl) rfl (pi_sqK (K := K) rfl (pv 7)) (pg_name (i := 11) sc__law_rows_due.nd rfl (Or.inl rfl))
       (pss_one (ps_if (pt_truK (K := K) rfl (g_call C__law_counts r (by rfl) passL (pa_cons (pv 6) (pa_cons (pv 11) (pa_cons (pv 10) pa_nil)))))
       (pss_cons (ps_set (i := 12) sc__law_rows_due.nd rfl (Or.inl rfl) (pe_callTy (cTupleK (K := K) rfl) (by rfl) B.tuple (by decide +kernel) (pa_cons (pe_lc (own := [("one", 14)]) rfl sc__law_rows_due.nd (pi_sqK (K := K) rfl (pe_ix (ixK (K := K) rfl) (pv 11) pe_int (fun _ _ => rfl))) (blkOk_by (N := ["ways", "standings", "known", "names", "found", "name", "seats", "cases", "rows", "seated", "marks", "case", "sources", "item", "one"]) (sc := defScope s__law_rows_due) (by decide +kernel)) (fun _ _ _ _ _ => (pg_name (i := 14) sc__law_rows_due.nd rfl (Or.inl rfl))) (fun _ _ _ _ _ => pts_nil) (fun _ _ _ _ _ => (pe_ifExp (pt_cmpR (oEqK (K := K) rfl r) (pv 14) pe_str (nomark _)) (pe_callB (cLenK (K := K) rfl) (by rfl) B.len (by decide +kernel) (pa_cons (pv 9) pa_nil)) (pe_bmK' (K := K) rfl PySem.F.plainAttrs_list PySem.F.slot_list_index PySem.F.type_list_index (mIndexK (K := K) rfl) (pv 9) (pa_cons (pv 14) pa_nil))))) pa_nil)))
       (pss_cons (ps_expr (pe_bmK' (K := K) rfl PySem.F.plainAttrs_list PySem.F.slot_list_append PySem.F.type_list_append mApp (pv 8) (pa_cons (d_tup (pa_cons (pv 10) (pa_cons (pe_ix (ixK (K := K) rfl) (pv 11) pe_int (fun _ _ => rfl)) (pa_cons (pe_bmK' (K := K) rfl PySem.F.plainAttrs_list PySem.F.slot_list_index PySem.F.type_list_index (mIndexK (K := K) rfl) (pv 3) (pa_cons (pe_ix (ixK (K := K) rfl) (pv 11) pe_int (fun _ _ => rfl)) pa_nil)) (pa_cons (pv 12) pa_nil))))) pa_nil)))
       (pss_one ps_break)))
       pss_nil)))))
       (pss_one (ps_expr (pe_bmK' (K := K) rfl PySem.F.plainAttrs_list PySem.F.slot_list_append PySem.F.type_list_append mApp (pv 4) (pa_cons (pv 8) pa_nil)))))))
       (pss_one (ps_ret (pv 4))))), ?_⟩
    try dsimp only [cxOf]
    refine x_start (σ' := [some _, some _, none, none, none, none, none, none, none, none, none, none, none, none, none]) rfl ?_
    obtain ⟨L, hw, pr, rfl⟩ := id wy
    have wl4 := wo.l4
    rw [List.length_map] at wl4
    have kl5 := knW_len wo
    obtain ⟨a, xs, rfl, ha, hx⟩ := dt_sqL hv
    have lx : xs.length = ss.length := by rw [hx.length, List.length_map]
    have o2 := ok.l2
    walk_at "s"
    refine x_sqL (SqL.of (O.sub _ _ hw)) ?_
    refine lc_map (by walk_at "n") walk_list O (by rw [List.length_map]; omega) (fun _ i y => ((keysW (L.map (·.2))).map V.str)[i]? = some y) (fun _ _ _ _ _ z => z) (fun G' H' D acc s' O' => SqL.of (O'.sub _ _ (s' _ _ hw))) ?_ gm_name ?_
    · rintro i x G' H' H2' D acc hi s' O' ⟨rfl, ex⟩ kk
      obtain ⟨t, rfl, et⟩ := ref_at ex
      have gt := s' _ _ (pr t (List.mem_of_getElem? et))
      walk_at "s"
      refine x_ixt (v := .str t.2.1) (SqT.of (O'.sub _ _ gt)) rfl ?_
      refine kk _ _ _ (Same.refl _) O' ?_
      unfold keysW
      rw [List.getElem?_map, List.getElem?_map, List.getElem?_map, et]
      rfl
    intro G1 H1 p1 ys s1 O1 e1 l1 r1
    obtain rfl := ext_map (by rw [l1]; unfold keysW; rw [List.length_map, List.length_map, List.length_map, List.length_map]) r1
    walk_at "s"
    refine ⟨by show 1 ≤ sizeLine; decide, x_fix O1 fun p2 G2 H2 s2 O2 e2 => ?_⟩
    refine x_addl (O2.sub _ _ (s2 _ _ e1)) (O2.sub _ _ e2) (by unfold keysW; rw [List.length_map, List.length_map, List.length_map, sizeLine_eq]; simp; omega) (x_fix O2 fun p3 G3 H3 s3 O3 e3 => ?_)
    have e3 : G3 p3 = some (.lst ((keysW (L.map (·.2)) ++ [wIs]).map V.str)) := by rw [List.map_append]; exact e3
    walk_at "s"
    refine x_sortedS (SqL.of (O3.sub _ _ e3)) (by unfold keysW; rw [List.length_append, List.length_map, List.length_map]; simp; omega) fun kS pm sS => x_fix O3 fun kp G4 H4 s4 O4 e4 => ?_
    have pmk : kS.Perm (knW (L.map (·.2))) := pm.trans List.perm_append_comm
    have lk : kS.length ≤ 5 := by rw [pmk.length_eq]; exact kl5
    have s14 := s1.trans (s2.trans (s3.trans s4))
    walk_at "s"
    refine x_sqL (O4.seq (s14.seq ha)) ?_
    refine lc_map (by walk_at "n") walk_list O4 (by omega) (fun _ i y => ((ss.map (·.nm)).map V.str)[i]? = some y) (fun _ _ _ _ _ z => z) (fun G' H' D acc s' O' => O'.seq ((s14.trans s').seq ha)) ?_ gm_name ?_
    · rintro i x G' H' H2' D acc hi s' O' ⟨rfl, ex⟩ kk
      obtain ⟨sd, es, hs⟩ := dtl_mapAt hx ex
      obtain ⟨b, v2, v3, rfl, hb, h2, h3⟩ := dt_sd hs
      walk_at "s"
      refine x_ixt (v := .str sd.nm) (O'.set (same_t (s14.trans s') hb)) rfl ?_
      exact kk _ _ _ (Same.refl _) O' (by rw [List.getElem?_map, List.getElem?_map, es]; rfl)
    intro G5 H5 np ys5 s5 O5 e5 l5 r5
    obtain rfl := ext_map (by rw [l5, lx, List.length_map, List.length_map]) r5
    walk_at "s"
    refine ⟨by show 0 ≤ sizeLine; decide, x_new O5 fun fp H6 O6 => ?_⟩
    walk_at "s"
    have s15 := s14.trans s5
    refine x_sqL (O6.seq (s15.seq ha)) ?_
    refine for_own walk_list O6 (fun i σ' G' L' => ∃ (acc : List V) (dss : List (List PyData)) (x5 x6 x7 x8 x9 x10 x11 x12 : Option V), L' = (fp, .lst acc) :: R ∧ dss.length = i ∧ RwsAt K G' acc dss ∧ (∀ (j : Nat) (ds : List PyData) (s : Sd), dss[j]? = some ds → ss[j]? = some s → RowsC kS ss s ds) ∧ σ' = [some (.ref wa), some (.ref a), some (.ref kp), some (.ref np), some (.ref fp), x5, x6, x7, x8, x9, x10, x11, x12, none, none])
      ⟨[], [], _, _, _, _, _, _, _, _, rfl, rfl, ⟨rfl, fun i x d e => by simp at e⟩, (fun j ds s e => by simp at e), rfl⟩ (fun i σ' G' H' L' s' O' _ => O'.seq ((s15.trans s').seq ha)) ?_ ?_
    · rintro i x σ' G' H' H2' L' hi s' O' ⟨acc, dss, x5, x6, x7, x8, x9, x10, x11, x12, rfl, ld, da, rd, rfl⟩ ⟨rfl, ex⟩
      obtain ⟨sd, es, hs⟩ := dtl_mapAt hx ex
      have so := ok.sd sd (List.mem_of_getElem? es)
      have sl5 := so.sl
      obtain ⟨b, v2, v3, rfl, hb, h2, h3⟩ := dt_sd hs
      obtain ⟨b2, rfl, hb2⟩ := dt_strsL (show Dt K G v2 (.list (sd.st.map .str)) from h2)
      obtain ⟨b3, cx, rfl, hb3, hcx⟩ := dt_sqL h3
      have lcx : cx.length = sd.cs.length := by rw [hcx.length, List.length_map]
      have c130 := so.c130
      have c1 := so.c1
      have s1' := s15.trans s'
      have hnew : wNew ∉ sd.st := fun z => nm_ne_new (so.sn _ z) rfl
      refine x_gT (O'.set (same_t s1' hb)) rfl ?_
      refine x_gC ?_
      walk_at "n1"
      refine x_gC ?_
      walk_at "n1"
      refine x_gC ?_
      walk_at "n1"
      refine x_gNl ?_
      walk_at "s"
      refine ⟨by show 0 ≤ sizeLine; decide, x_new O' fun rp H7 O7 => ?_⟩
      walk_at "s"
      refine x_listL (O7.seq (s1'.seq hb2)) (x_fix O7 fun sp G8 H8 s8 O8 e8 => ?_)
      walk_at "s"
      refine ⟨by show 2 ≤ sizeLine; decide, x_fix O8 fun p9 G9 H9 s9 O9 e9 => ?_⟩
      refine x_gT (SqT.of (O9.sub _ _ e9)) rfl ?_
      refine x_gC ?_
      walk_at "n1"
      refine x_gC ?_
      walk_at "n1"
      refine x_gNl ?_
      have s19 := s1'.trans (s8.trans s9)
      walk_at "s"
      refine x_lenl (O9.seq (s19.seq hb2)) ?_
      rw [List.length_map]
      have s49 := s5.trans (s'.trans (s8.trans s9))
      refine ⟨G9, _, kp, kS, sd.st.length, rfl, O9, SqL.of (s49 _ _ e4), lk, sl5, fun Ga Ha qa As sa Oa ea tA eA => ?_⟩
      have lA : As.length ≤ 3125 := by rw [← List.length_map (f := (·.2)) (as := As), eA]; exact allM_le lk sl5
      have s1a := s19.trans sa
      refine x_sqL (SqL.of (Oa.sub _ _ ea)) ?_
      refine for_own walk_list Oa (fun j σ' G' L' => ∃ (rs : List V) (ds : List PyData) (x10 x11 x12 : Option V), L' = (rp, .lst rs) :: (fp, .lst acc) :: R ∧ ds.length = j ∧ DtL K G' rs ds ∧ (∀ (l : Nat) (mk : List Str) (d : PyData), (allM kS sd.st.length)[l]? = some mk → ds[l]? = some d → RowC ss sd mk d) ∧ σ' = [some (.ref wa), some (.ref a), some (.ref kp), some (.ref np), some (.ref fp), some (.str sd.nm), some (.ref b2), some (.ref b3), some (.ref rp), some (.ref sp), x10, x11, x12, none, none])
        ⟨[], [], _, _, _, rfl, rfl, .nil, (fun l mk d _ e => by simp at e), rfl⟩ (fun j σ' G' H' L' s' O' _ => SqL.of (O'.sub _ _ (s' _ _ ea))) ?_ ?_
      · rintro j x σ' Gb Hb Hb' L' hj sb Ob ⟨rs, ds, x10, x11, x12, rfl, lds, dr, hr, rfl⟩ ⟨rfl, exb⟩
        obtain ⟨t, rfl, et⟩ := ref_at exb
        rw [List.length_map] at hj
        have gt := sb _ _ (tA t (List.mem_of_getElem? et))
        have et2 : (allM kS sd.st.length)[j]? = some t.2 := by rw [← eA, List.getElem?_map, et]; rfl
        have ltl := (allM_mem (List.mem_of_getElem? et2)).1
        have lrs : rs.length = j := by rw [dr.length, lds]
        have s1b := s1a.trans sb
        walk_at "n1"
        walk_at "s"
        refine x_sqL (Ob.seq (s1b.seq hb3)) ?_
        refine for_own walk_list Ob (fun l σ' G' L' => ∃ (x11 x12 : Option V), L' = (rp, .lst rs) :: (fp, .lst acc) :: R ∧ (∀ (l' : Nat) (c' : Cs), l' < l → sd.cs[l']? = some c' → ¬ MeetsC c'.ms t.2) ∧ σ' = [some (.ref wa), some (.ref a), some (.ref kp), some (.ref np), some (.ref fp), some (.str sd.nm), some (.ref b2), some (.ref b3), some (.ref rp), some (.ref sp), some (.ref t.1), x11, x12, none, none])
          ⟨_, _, rfl, (fun l' c' z => absurd z (Nat.not_lt_zero _)), rfl⟩ (fun l σ' G' H' L' s' O' _ => O'.seq ((s1b.trans s').seq hb3)) ?_ ?_
        · rintro l x σ' Gc Hc Hc' L' hl sc Oc ⟨x11, x12, rfl, hno, rfl⟩ ⟨rfl, exc⟩
          obtain ⟨c, ec, hc⟩ := dtl_mapAt hcx exc
          have co := so.cs c (List.mem_of_getElem? ec)
          have s1c := s1b.trans sc
          walk_at "n1"
          walk_at "s"
          refine ⟨Gc, _, .ref b2, x, t.1, sd.st, c, t.2, rfl, Oc, h2.mono s1c, hc.mono s1c, SqT.of (sc _ _ gt), co.ml, ltl, sl5, fun Gd Hd1 bb sd' Od hbb => ?_⟩
          walk_at "s"
          cases bb with
          | false =>
            walk_at "s"
            refine fvh (sc.trans sd') Od ⟨_, _, rfl, fun l' c' hl' e => ?_, rfl⟩
            rcases Nat.lt_or_ge l' l with h | h
            · exact hno l' c' h e
            · have : l' = l := by omega
              subst this
              rw [ec] at e
              cases e
              exact fun z => by cases hbb.mpr z
          | true =>
            obtain ⟨ca, v1, v4, rfl, hca, h1, h4⟩ := dt_cs hc
            obtain ⟨b4, rfl, hb4⟩ := dt_strsL (show Dt K G v4 (.list (c.sr.map .str)) from h4)
            have s1d := s1c.trans sd'
            have l5c : c.sr.length ≤ 5 := by rw [co.sl]; exact roomS_le (fun s hs => (ok.sd s hs).sl) _
            walk_at "s"
            refine x_ixt (v := .ref b4) (Od.set (same_t s1d hca)) rfl ?_
            refine x_sqL (Od.seq (s1d.seq hb4)) ?_
            have hsp := (s9.trans (sa.trans (sb.trans (sc.trans sd')))) _ _ e8
            refine lc_map (by walk_at "n") walk_list Od (by rw [List.length_map]; omega) (fun _ u y => ∀ x, c.sr[u]? = some x → y = .int (ixOf (sd.st ++ [wNew]) x : Nat)) (fun _ _ _ _ _ z => z) (fun G' H' D acc s' O' => O'.seq ((s1d.trans s').seq hb4)) ?_ gm_name ?_
            · rintro u x Ge He He' De acce hu se Oe ⟨rfl, exe⟩ kk
              obtain ⟨z, rfl, ez⟩ := txt_at exe
              walk_at "s"
              refine x_eq rfl ?_
              by_cases hz : z = wNew
              · rw [decide_eq_true (show V.str z = V.str (Str.ofString "new") by rw [hz])]
                walk_at "s"
                refine x_lenl (SqL.of (Oe.sub _ _ (se _ _ hsp))) ?_
                rw [List.length_map]
                refine kk _ _ _ (Same.refl _) Oe fun x e => ?_
                rw [ez] at e
                cases e
                rw [hz, ix_end hnew]
              · rw [decide_eq_false (fun e : V.str z = V.str (Str.ofString "new") => hz (V.str.inj e))]
                walk_at "s"
                refine ⟨ty_l (SqL.of (Oe.sub _ _ (se _ _ hsp))), ?_⟩
                walk_at "s"
                have mz : z ∈ sd.st := (co.sr z (List.mem_of_getElem? ez)).resolve_left hz
                refine x_indexS (SqL.of (Oe.sub _ _ (se _ _ hsp))) mz ?_
                refine kk _ _ _ (Same.refl _) Oe fun x e => ?_
                rw [ez] at e
                cases e
                rw [ix_app mz]
            intro Ge He pe ye se Oe ee le re
            walk_at "s"
            refine x_tupleL (SqL.of (Oe.sub _ _ ee)) (x_fix Oe fun tp Gf Hf sf Of ef => ?_)
            have sdf := se.trans sf
            have s1f := s1d.trans sdf
            walk_at "s"
            refine ⟨ty_l (SqL.of Of.at0), ?_⟩
            walk_at "s"
            refine x_ixt (v := .str c.wd) (Of.set (same_t s1f hca)) rfl ?_
            walk_at "s"
            have hnp := (s'.trans (s8.trans (s9.trans (sa.trans (sb.trans (sc.trans (sd'.trans sdf))))))) _ _ e5
            refine ⟨ty_l (SqL.of (Of.sub _ _ hnp)), ?_⟩
            walk_at "s"
            refine x_ixt (v := .str c.gl) (Of.set (same_t s1f hca)) rfl ?_
            walk_at "s"
            refine x_indexS (SqL.of (Of.sub _ _ hnp)) co.gl ?_
            walk_at "s"
            refine ⟨by show 4 ≤ sizeLine; decide, x_fix Of fun rw_ Gg Hg sg Og eg => ?_⟩
            walk_at "s"
            refine x_app Og.at0 (by rw [lrs, sizeLine_eq]; omega) (x_md0 Og fun Hh Oh => ?_)
            walk_at "s"
            have sbg := sc.trans (sd'.trans (sdf.trans sg))
            refine fvh (sb.trans sbg) Oh ⟨_, ds ++ [.tuple (.tuple (t.2.map .str) :: dRest ss sd.st c)], _, _, _, rfl, by rw [List.length_append, lds]; rfl, dtl_snoc (dr.mono sbg) ?_, fun l' mk d e1 e2 => ?_, rfl⟩
            · refine .tup (SqT.of eg) (.cons (.tup (SqT.of (sbg _ _ gt)) (strs_dtl _)) (.cons (.str _) (.cons (.int _) (.cons (.tup (SqT.of (sg _ _ ef)) ?_) .nil))))
              refine dtl_map (by rw [le, List.length_map]) fun u y x e1 e2 => ?_
              rw [re u y e1 x e2]
              exact .int _
            · rcases Nat.lt_trichotomy l' ds.length with h | h | h
              · rw [List.getElem?_append_left h] at e2
                exact hr l' mk d e1 e2
              · subst h
                rw [List.getElem?_append_right (Nat.le_refl _), Nat.sub_self] at e2
                cases e2
                rw [lds, et2] at e1
                cases e1
                exact ⟨l, c, ⟨ec, hbb.mp rfl, hno⟩, rfl⟩
              · rw [List.getElem?_eq_none (by rw [List.length_append]; simp; omega)] at e2
                cases e2
        · rintro σ' Gc Hc L' sc Oc ⟨x11, x12, rfl, hno, rfl⟩
          exfalso
          have hl : sd.cs.length - 1 < sd.cs.length := by omega
          exact hno (sd.cs.length - 1) _ (by omega) (List.getElem?_eq_getElem hl) (meets_none (so.last _ (List.getElem?_eq_getElem hl)))
      · rintro σ' Gb Hb L' sb Ob ⟨rs, ds, x10, x11, x12, rfl, lds, dr, hr, rfl⟩
        walk_at "s"
        have sn := Same.new (o := .lst rs) Ob.no0
        have Oc := Ob.frz0
        have ec : upd Gb rp (.lst rs) rp = some (.lst rs) := upd_same
        have dr := dr.mono sn
        generalize upd Gb rp (.lst rs) = Gc at sn Oc ec dr
        refine ⟨ty_l (SqL.of Oc.at0), ?_⟩
        walk_at "s"
        have s'c := s8.trans (s9.trans (sa.trans (sb.trans sn)))
        have lacc : acc.length = i := by rw [da.1, ld]
        refine x_app Oc.at0 (by rw [lacc, sizeLine_eq]; omega) (x_md0 Oc fun Hd Od => ?_)
        walk_at "s"
        rw [List.length_map] at lds
        have lAm : As.length = (allM kS sd.st.length).length := by rw [← eA, List.length_map]
        refine fvh (s'.trans s'c) Od ⟨_, dss ++ [ds], _, _, _, _, _, _, _, _, rfl, by rw [List.length_append, ld]; rfl, (da.same s'c).snoc ec dr, fun j' ds' s e1 e2 => ?_, rfl⟩
        rcases Nat.lt_trichotomy j' dss.length with h | h | h
        · rw [List.getElem?_append_left h] at e1
          exact rd j' ds' s e1 e2
        · subst h
          rw [List.getElem?_append_right (Nat.le_refl _), Nat.sub_self] at e1
          cases e1
          rw [ld, es] at e2
          cases e2
          exact ⟨by rw [lds, lAm], hr⟩
        · rw [List.getElem?_eq_none (by rw [List.length_append]; simp; omega)] at e1
          cases e1
    · rintro σ' G' H' L' s' O' ⟨acc, dss, x5, x6, x7, x8, x9, x10, x11, x12, rfl, ld, da, rd, rfl⟩
      walk_at "s"
      have sn := Same.new (o := .lst acc) O'.no0
      exact q _ _ fp acc kS dss (s15.trans (s'.trans sn)) O'.frz0 pmk sS upd_same (da.same sn) ⟨by omega, rd⟩
end
end
section
open PySem PySem.Spec PyProof.Rows L2 G
set_option maxHeartbeats 4000000
theorem dtl_take {K : PySem.W.Frag} {G : Hp} : ∀ {xs : List V} {ds : List PyData} (n : Nat), DtL K G xs ds → DtL K G (xs.take n) (ds.take n)
  | _, _, 0, _ => by rw [List.take_zero, List.take_zero]; exact .nil
  | _, _, _ + 1, .nil => .nil
  | _, _, n + 1, .cons h t => .cons h (dtl_take n t)
theorem cutV_take (xs : List V) {m : Nat} (h : m ≤ xs.length) : cutV xs none (some (m : Int)) = xs.take m := by
  unfold cutV
  rw [HT.sIx_nat, HT.sIx_none, List.drop_zero, Nat.min_eq_left h, Nat.sub_zero]
def cntH (n : Nat) (hs : List Hd) : Nat := (hs.map fun h => n ^ h.2.length).sum
theorem cntH_snoc {n : Nat} {hs : List Hd} {h : Hd} : cntH n (hs ++ [h]) = cntH n hs + n ^ h.2.length := by
  unfold cntH
  rw [List.map_append, List.sum_append]
  simp
theorem cnt_eq {n : Nat} {hs : List Hd} {ss : List Sd} (hl : ss.length = hs.length) (h : ∀ (i : Nat) (s : Sd) (h : Hd), ss[i]? = some s → hs[i]? = some h → s.st = h.2) : cntS n ss = cntH n hs := by
  unfold cntS cntH
  have : ss.map (fun s => n ^ s.st.length) = hs.map fun h => n ^ h.2.length := by
    refine List.ext_getElem? fun i => ?_
    rw [List.getElem?_map, List.getElem?_map]
    cases e : ss[i]? with
    | none => rw [List.getElem?_eq_none (by have := List.getElem?_eq_none_iff.mp e; omega)]; rfl
    | some s =>
      have hi := (List.getElem?_eq_some_iff.mp e).1
      have e2 : hs[i]? = some (hs[i]'(by omega)) := List.getElem?_eq_getElem (by omega)
      rw [e2]
      show some (n ^ s.st.length) = some (n ^ (hs[i]'(by omega)).2.length)
      rw [h i s _ e e2]
  rw [this]
/-- a new case: cut to fewer seats -/
def cutC (st : List Str) (wide : Nat) (c : Cs) : Cs := ⟨c.ms.take st.length, c.wd, c.gl, (c.sr.take wide).map fun x => if st.contains x then x else wNew⟩
section
variable {P : Program} {w : World} {K : PySem.W.Frag} {mg : Str → Option Value} {base : Heap} {k : Nat} {kw C CP D CW CM : Addr}
abbrev s__law_cut : Stmt := top 57
theorem sc__law_cut : FnScope ["ways", "standings", "room", "found", "left", "small", "name", "seats", "cases", "many", "k", "item", "marks", "word", "goal", "sources", "wide", "one"] ["ways", "standings"] (defScope s__law_cut) := ⟨rfl, rfl, rfl, by decide +kernel, rfl, by decide +kernel, by decide +kernel⟩
def sp_cut (K : PySem.W.Frag) : Sp := fun vs H Q _ => ∃ (G : Hp) (R : List (Addr × HO)) (wa : Addr) (sv : V) (W : List (Str × Str)) (ss : List Sd), vs = [.ref wa, sv] ∧ Own G H R ∧ WyAt G wa W ∧ WaysOk W ∧ Dt K G sv (dSt true ss) ∧ StOk (knW W) ss ∧ ss.length ≤ 6 ∧
  ∀ (G' H' : Hp) (p : Addr) (xs : List V) (ss' : List Sd), Same G G' → Own G' H' R → G' p = some (.lst xs) → DtL K G' xs (ss'.map (dSd true)) → StOk (knW W) ss' → ss'.length = ss.length → cntS (knW W).length ss' ≤ 706 → Q (.ref p) H'
theorem ok_cut {f : Addr} {fd : FuncData} (F : Fun K "_law_cut" "_law_cut" s__law_cut f fd) (B : Btt mg) (C__law_power : Cal P w K mg base k "_law_power" ["one", "many"] sp_pow) : FnG P w K mg base (k + 1) f fd ["ways", "standings"] (sp_cut K) := by
  refine fnG_of F sc__law_cut (fun vs H Q E h => ?_) (fun cdv A outer s H vs Q E r h => ?_)
  · obtain ⟨_, _, _, _, _, _, rfl, _⟩ := h
    rfl
  · obtain ⟨G, R, wa, sv, W, ss, rfl, O, wy, wo, hv, ok, l6, q⟩ := h
    refine ⟨_, (pss_cons (ps_par3 (i := 2) (j := 3) (l := 4) rfl sc__law_cut.nd rfl rfl rfl (by decide) (by decide) (by decide) rfl rfl rfl (pa_cons (pe_op (oAddK (K := K) rfl) (pe_callB (cLenK (K := K) rfl) (by rfl) B.len (by decide +kernel) (pa_cons (pv 0) pa_nil)) pe_int) (pa_cons (d_lst pa_nil) (pa_cons pe_int pa_nil))) (by rfl))
       (pss_cons (ps_set (i := 5) sc__law_cut.nd rfl (Or.inl rfl) (d_lst pa_nil))
       (pss_cons (ps_for (passes_of rfl) rfl (pi_sqK (K := K) rfl (pv 1)) (pg_tupK (K := K) (n := 3) rfl rfl (pgs_cons (pg_name (i := 6) sc__law_cut.nd rfl (Or.inl rfl)) (pgs_cons (pg_name (i := 7) sc__law_cut.nd rfl (Or.inr rfl)) (pgs_cons (pg_name (i := 8) sc__law_cut.nd rfl (Or.inl rfl)) pgs_nil))))
       (pss_cons (ps_set (i := 9) sc__law_cut.nd rfl (Or.inl rfl) (pe_callB (cLenK (K := K) rfl) (by rfl) B.len (by decide +kernel) (pa_cons (pv 7) pa_nil)))
       (pss_cons (ps_for (passes_of rfl) rfl (pi_range1 (by rfl) B.range (pa_cons pe_int pa_nil)) (pg_name (i := 10) sc__law_cut.nd rfl (Or.inl rfl))
       (pss_one (ps_if (PW.pt (pw_and (pt_cmpR oGt (pv 9) pe_int (nomark _)) (pw_and1 (pt_cmpR oGt (g_call C__law_power r (by rfl) passL (pa_cons (pv 2) (pa_cons (pv 9) pa_nil))) (pv 4) (nomark _)))))
       (pss_one (ps_set (i := 9) sc__law_cut.nd rfl (Or.inl rfl) (pe_op op_sub (pv 9) pe_int)))
       pss_nil)))
       (pss_cons (ps_set (i := 4) sc__law_cut.nd rfl (Or.inl rfl) (pe_op op_sub (pv 4) (g_call C__law_power r (by rfl) passL (pa_cons (pv 2) (pa_cons (pv 9) pa_nil)))))
       (pss_one (ps_expr (pe_bmK' (K := K) rfl PySem.F.plainAttrs_list PySem.F.slot_list_append PySem.F.type_list_append mApp (pv 5) (pa_cons (d_tup (pa_cons (pv 6) (pa_cons (pe_slice (oSlK (K := K) rfl) (pe_callTy (cListK (K := K) rfl) (by rfl) B.list (by decide +kernel) (pa_cons (pv 7) pa_nil)) po_none (po_some (pv 9))) pa_nil))) pa_nil))))))))
       (pss_cons (ps_for (passes_of rfl) rfl (pi_enumA (by rfl) B.enumerate (pa_cons (pv 1) pa_nil)) (pg_tupK (K := K) (n := 2) rfl rfl (pgs_cons (pg_name (i := 10) sc__law_cut.nd rfl (Or.inl rfl)) (pgs_cons (pg_name (i := 11) sc__law_cut.nd rfl (Or.inl rfl)) pgs_nil)))
       (pss_cons (ps_asg (pe_ix (ixK (K := K) rfl) (pv 5) (pv 10) (fun _ _ => rfl)) (pg_tupK (K := K) (n := 2) rfl rfl (pgs_cons (pg_name (i := 6) sc__law_cut.nd rfl (Or.inl rfl)) (pgs_cons (pg_name (i := 7) sc__law_cut.nd rfl (Or.inr rfl)) pgs_nil))))
       (pss_cons (ps_set (i := 8) sc__law_cut.nd rfl (Or.inl rfl) (d_lst pa_nil))
       (pss_cons (ps_for (passes_of rfl) rfl (pi_sqK (K := K) rfl (pe_ix (ixK (K := K) rfl) (pv 11) pe_int (fun _ _ => rfl))) (pg_tupK (K := K) (n := 4) rfl rfl (pgs_cons (pg_name (i := 12) sc__law_cut.nd rfl (Or.inl rfl)) (pgs_cons (pg_name (i := 13) sc__law_cut.nd rfl (Or.inl rfl)) (pgs_cons (pg_name (i := 14) sc__law_cut.nd rfl (Or.inr rfl)) (pgs_cons (pg_name (i := 15) sc__law_cut.nd rfl (Or.inl rfl)) pgs_nil)))))
       (pss_cons (ps_set (i := 16) sc__law_cut.nd rfl (Or.inl rfl) (pe_ix (ixK (K := K) rfl) (pe_lc (own := [("one", 17)]) rfl sc__law_cut.nd (pi_sqK (K := K) rfl (pv 5)) (blkOk_by (N := ["ways", "standings", "room", "found", "left", "small", "name", "seats", "cases", "many", "k", "item", "marks", "word", "goal", "sources", "wide", "one"]) (sc := defScope s__law_cut) (by decide +kernel)) (fun _ _ _ _ _ => (pg_name (i := 17) sc__law_cut.nd rfl (Or.inl rfl))) (fun _ _ _ _ _ => (pts_one (pt_cmpR (oEqK (K := K) rfl r) (pe_ix (ixK (K := K) rfl) (pv 17) pe_int (fun _ _ => rfl)) (pv 14) (nomark _)))) (fun _ _ _ _ _ => (pe_callB (cLenK (K := K) rfl) (by rfl) B.len (by decide +kernel) (pa_cons (pe_ix (ixK (K := K) rfl) (pv 17) pe_int (fun _ _ => rfl)) pa_nil)))) pe_int (fun _ _ => rfl)))
       (pss_one (ps_expr (pe_bmK' (K := K) rfl PySem.F.plainAttrs_list PySem.F.slot_list_append PySem.F.type_list_append mApp (pv 8) (pa_cons (d_tup (pa_cons (pe_slice (oSlK (K := K) rfl) (pe_callTy (cListK (K := K) rfl) (by rfl) B.list (by decide +kernel) (pa_cons (pv 12) pa_nil)) po_none (po_some (pe_callB (cLenK (K := K) rfl) (by rfl) B.len (by decide +kernel) (pa_cons (pv 7) pa_nil)))) (pa_cons (pv 13) (pa_cons (pv 14) (pa_cons (pe_lc (own := [("one", 17)]) rfl sc__law_cut.nd (pi_sqK (K := K) rfl (pe_slice (oSlK (K := K) rfl) (pe_callTy (cListK (K := K) rfl) (by rfl) B.list (by decide +kernel) (pa_cons (pv 15) pa_nil)) po_none (po_some (pv 16)))) (blkOk_by (N := ["ways", "standings", "room", "found", "left", "small", "name", "seats", "cases", "many", "k", "item", "marks", "word", "goal", "sources", "wide", "one"]) (sc := defScope s__law_cut) (by decide +kernel)) (fun _ _ _ _ _ => (pg_name (i := 17) sc__law_cut.nd rfl (Or.inl rfl))) (fun _ _ _ _ _ => pts_nil) (fun _ _ _ _ _ => (pe_ifExp (pt_cmpR (oInK (K := K) rfl) (pv 17) (pv 7) (by rfl)) (pv 17) pe_str))) pa_nil))))) pa_nil))))))
       (pss_one (ps_expr (pe_bmK' (K := K) rfl PySem.F.plainAttrs_list PySem.F.slot_list_append PySem.F.type_list_append mApp (pv 3) (pa_cons (d_tup (pa_cons (pv 6) (pa_cons (pv 7) (pa_cons (pv 8) pa_nil)))) pa_nil))))))))
       (pss_one (ps_ret (pv 3))))))), ?_⟩
    try dsimp only [cxOf]
    refine x_start (σ' := [some _, some _, none, none, none, none, none, none, none, none, none, none, none, none, none, none, none, none]) rfl ?_
    obtain ⟨L, hw, pr, rfl⟩ := id wy
    have wl4 := wo.l4
    rw [List.length_map] at wl4
    have kl5 := knW_len wo
    have kle : (knW (L.map (·.2))).length = L.length + 1 := by unfold knW keysW; rw [List.length_cons, List.length_map, List.length_map]
    obtain ⟨a, xs, rfl, ha, hx⟩ := dt_sqL hv
    have lx : xs.length = ss.length := by rw [hx.length, List.length_map]
    obtain ⟨nr, hnr⟩ : ∃ nr, nr = L.length + 1 := ⟨_, rfl⟩
    rw [← hnr] at kle
    walk_at "s"
    refine x_lenl (SqL.of (O.sub _ _ hw)) ?_
    rw [List.length_map]
    walk_at "s"
    rw [show ((L.length : Nat) : Int) + 1 = ((nr : Nat) : Int) by omega]
    refine ⟨by show 0 ≤ sizeLine; decide, x_new O fun fp H1 O1 => ?_⟩
    walk_at "s"
    refine ⟨by show 0 ≤ sizeLine; decide, x_new O1 fun mp H2 O2 => ?_⟩
    walk_at "s"
    refine x_sqL (O2.seq ha) ?_
    refine for_own walk_list O2 (fun i σ' G' L' => ∃ (acc : List V) (hs : List Hd) (x6 x7 x8 x9 x10 : Option V), L' = (mp, .lst acc) :: (fp, .lst []) :: R ∧ hs.length = i ∧ Hds G' acc hs ∧ cntH nr hs ≤ 700 + i ∧ (∀ (j : Nat) (h : Hd) (s : Sd), hs[j]? = some h → ss[j]? = some s → h.1 = s.nm ∧ ∃ m, m ≤ s.st.length ∧ h.2 = s.st.take m) ∧ σ' = [some (.ref wa), some (.ref a), some (.int (nr : Nat)), some (.ref fp), some (.int (700 - (cntH nr hs : Nat))), some (.ref mp), x6, x7, x8, x9, x10, none, none, none, none, none, none, none])
      ⟨[], [], _, _, _, _, _, rfl, rfl, ⟨rfl, fun i x h e => by simp at e⟩, Nat.zero_le _, (fun j h s e => by simp at e), rfl⟩ (fun i σ' G' H' L' s' O' _ => O'.seq (s'.seq ha)) ?_ ?_
    · rintro i x σ' G' H' H2' L' hi s' O' ⟨acc, hs, x6, x7, x8, x9, x10, rfl, lh, dh, ch, eh, rfl⟩ ⟨rfl, ex⟩
      obtain ⟨sd, es, hs'⟩ := dtl_mapAt hx ex
      have so := ok.sd sd (List.mem_of_getElem? es)
      have sl5 := so.sl
      obtain ⟨b, v2, v3, rfl, hb, h2, h3⟩ := dt_sd hs'
      obtain ⟨b2, rfl, hb2⟩ := dt_strsL (show Dt K G v2 (.list (sd.st.map .str)) from h2)
      refine x_gT (O'.set (same_t s' hb)) rfl ?_
      refine x_gC ?_
      walk_at "n1"
      refine x_gC ?_
      walk_at "n1"
      refine x_gC ?_
      walk_at "n1"
      refine x_gNl ?_
      walk_at "s"
      refine x_lenl (O'.seq (s'.seq hb2)) ?_
      rw [List.length_map]
      walk_at "s"
      refine x_rg (by decide) (by decide) ?_
      obtain ⟨c, hc⟩ : ∃ c, c = cntH nr hs := ⟨_, rfl⟩
      rw [← hc]
      refine for_own walk_range O' (fun l σ' G3 L' => ∃ (m : Nat) (x10 : Option V), L' = (mp, .lst acc) :: (fp, .lst []) :: R ∧ m ≤ sd.st.length ∧ ((m = 0 ∨ c + nr ^ m ≤ 700) ∨ m + l ≤ sd.st.length) ∧ σ' = [some (.ref wa), some (.ref a), some (.int (nr : Nat)), some (.ref fp), some (.int (700 - (c : Nat))), some (.ref mp), some (.str sd.nm), some (.ref b2), some v3, some (.int (m : Nat)), x10, none, none, none, none, none, none, none])
        ⟨sd.st.length, _, rfl, Nat.le_refl _, .inr (by omega), rfl⟩ (fun _ _ _ _ _ _ _ _ => True.intro) ?_ ?_
      · rintro l x σ' G3 H3 H3' L3 hl s3 O3 ⟨m, x10, rfl, hm, inv, rfl⟩ ⟨rfl, rfl⟩
        walk_at "n1"
        walk_at "s"
        refine ite_b (fun c1 => ?_) (fun c1 => ?_)
        · have c1 := of_decide_eq_true c1
          walk_at "s"
          refine ⟨G3, _, nr, m, rfl, O3, by omega, by omega, fun G4 H4 s4 O4 => ?_⟩
          walk_at "s"
          refine ite_b (fun c2 => ?_) (fun c2 => ?_)
          · have c2 := of_decide_eq_true c2
            walk_at "s"
            refine fvh (s3.trans s4) O4 ⟨m - 1, _, rfl, by omega, .inr (by omega), by rw [show ((m : Nat) : Int) - 1 = ((m - 1 : Nat) : Int) by omega]⟩
          · have c2 := of_decide_eq_false c2
            walk_at "s"
            exact fvh (s3.trans s4) O4 ⟨m, _, rfl, hm, .inl (.inr (by omega)), rfl⟩
        · have c1 := of_decide_eq_false c1
          walk_at "s"
          exact fvh s3 O3 ⟨m, _, rfl, hm, .inl (.inl (by omega)), rfl⟩
      · rintro σ' G3 H3 L3 s3 O3 ⟨m, x10, rfl, hm, inv, rfl⟩
        have inv : m = 0 ∨ c + nr ^ m ≤ 700 := inv.elim id fun z => .inl (by have : ((5 : Int).toNat) = 5 := rfl; omega)
        walk_at "s"
        refine ⟨G3, _, nr, m, rfl, O3, by omega, by omega, fun G4 H4 s4 O4 => ?_⟩
        walk_at "s"
        refine ⟨ty_l (SqL.of O4.at0), ?_⟩
        walk_at "s"
        have s14 := s'.trans (s3.trans s4)
        refine x_listL (O4.seq (s14.seq hb2)) (x_fix O4 fun p5 G5 H5 s5 O5 e5 => ?_)
        walk_at "s"
        refine x_slL (SqL.of (O5.sub _ _ e5)) (x_fix O5 fun p6 G6 H6 s6 O6 e6 => ?_)
        rw [cut_map V.str sd.st hm] at e6
        walk_at "s"
        refine ⟨by show 2 ≤ sizeLine; decide, x_fix O6 fun p7 G7 H7 s7 O7 e7 => ?_⟩
        walk_at "s"
        have dl := dh.1
        refine x_app O7.at0 (lt_line (by omega)) (x_md0 O7 fun H8 O8 => ?_)
        walk_at "s"
        have s'7 := s3.trans (s4.trans (s5.trans (s6.trans s7)))
        have lt : (sd.st.take m).length = m := by rw [List.length_take]; omega
        have ecnt : cntH nr (hs ++ [(sd.nm, sd.st.take m)]) = c + nr ^ m := by
          rw [cntH_snoc, ← hc]
          show c + nr ^ (sd.st.take m).length = _
          rw [lt]
        have ev : (700 : Int) - (c : Int) - ((nr ^ m : Nat) : Int) = 700 - ((cntH nr (hs ++ [(sd.nm, sd.st.take m)]) : Nat) : Int) := by rw [ecnt]; omega
        rw [ev]
        refine fvh (s'.trans s'7) O8 ⟨_, hs ++ [(sd.nm, sd.st.take m)], _, _, _, _, _, rfl, by rw [List.length_append, lh]; rfl, (dh.same s'7).snoc e7 (s7 _ _ e6), ?_, fun j h s e1 e2 => ?_, rfl⟩
        · rw [ecnt]
          rcases inv with rfl | inv
          · rw [Nat.pow_zero]; omega
          · omega
        · rcases Nat.lt_trichotomy j hs.length with h' | h' | h'
          · rw [List.getElem?_append_left h'] at e1
            exact eh j h s e1 e2
          · subst h'
            rw [List.getElem?_append_right (Nat.le_refl _), Nat.sub_self] at e1
            cases e1
            rw [lh, es] at e2
            cases e2
            exact ⟨rfl, m, hm, rfl⟩
          · rw [List.getElem?_eq_none (by rw [List.length_append]; simp; omega)] at e1
            cases e1
    · rintro σ' G3 H3 L3 s3 O3 ⟨acc, hs, x6, x7, x8, x9, x10, rfl, lh, dh, ch, eh, rfl⟩
      have sm := Same.new (o := .lst acc) O3.no0
      have O4 := O3.frz0
      have e4 : upd G3 mp (.lst acc) mp = some (.lst acc) := upd_same
      have dh := dh.same sm
      generalize upd G3 mp (.lst acc) = G4 at sm O4 e4 dh
      have s4 := s3.trans sm
      have hlen : hs.length = ss.length := by rw [lh, lx]
      have dl := dh.1
      walk_at "s"
      refine x_enS O4 (.inl (s4.seq ha)) fun J Gd Wk hG => ?_
      have hnd : (hs.map (·.1)).Nodup := by
        have : hs.map (·.1) = ss.map (·.nm) := by
          refine List.ext_getElem? fun j => ?_
          rw [List.getElem?_map, List.getElem?_map]
          cases e : hs[j]? with
          | none => rw [List.getElem?_eq_none (by have := List.getElem?_eq_none_iff.mp e; omega)]; rfl
          | some h =>
            have hj := (List.getElem?_eq_some_iff.mp e).1
            have e2 : ss[j]? = some (ss[j]'(by omega)) := List.getElem?_eq_getElem (by omega)
            rw [e2]
            show some h.1 = some (ss[j]'(by omega)).nm
            rw [(eh j h _ e e2).1]
        rw [this]
        exact ok.nd
      have hat : ∀ (j : Nat) (s : Sd), ss[j]? = some s → ∃ h, hs[j]? = some h ∧ h.1 = s.nm ∧ ∃ m, m ≤ s.st.length ∧ h.2 = s.st.take m := fun j s e => by
        have hj := (List.getElem?_eq_some_iff.mp e).1
        have e2 : hs[j]? = some (hs[j]'(by omega)) := List.getElem?_eq_getElem (by omega)
        exact ⟨_, e2, eh j _ s e2 e⟩
      refine for_own Wk O4 (fun i σ' G' L' => ∃ (fa : List V) (ss' : List Sd) (x6 x7 x8 x9 x10 x11 x12 x13 x14 x15 x16 : Option V), L' = (fp, .lst fa) :: R ∧ ss'.length = i ∧ DtL K G' fa (ss'.map (dSd true)) ∧ (∀ (j : Nat) (s : Sd) (h : Hd), ss'[j]? = some s → hs[j]? = some h → SdP (knW (L.map (·.2))) hs h s) ∧ σ' = [some (.ref wa), some (.ref a), some (.int (nr : Nat)), some (.ref fp), some (.int (700 - (cntH nr hs : Nat))), some (.ref mp), x6, x7, x8, x9, x10, x11, x12, x13, x14, x15, x16, none])
        ⟨[], [], _, _, _, _, _, _, _, _, _, _, _, rfl, rfl, .nil, (fun j s h e => by simp at e), rfl⟩ (fun i σ' G' H' L' s' O' _ => hG G' H' L' s' O') ?_ ?_
      · rintro i x σ' G5 H5 H5' L5 hi s5 O5 ⟨fa, ss', x6, x7, x8, x9, x10, x11, x12, x13, x14, x15, x16, rfl, ls', df, sp, rfl⟩ ⟨T5, y1, y2, rfl, hT, rfl, e1', e2'⟩
        cases e1'
        have e2' : xs[i]? = some y2 := e2'
        obtain ⟨sd, es, hs'⟩ := dtl_mapAt hx e2'
        have so := ok.sd sd (List.mem_of_getElem? es)
        have sl5 := so.sl
        have c130 := so.c130
        have c1 := so.c1
        obtain ⟨b, v2, v3, rfl, hb, h2, h3⟩ := dt_sd hs'
        obtain ⟨b3, cx, rfl, hb3, hcx⟩ := dt_sqL h3
        have lcx : cx.length = sd.cs.length := by rw [hcx.length, List.length_map]
        obtain ⟨hd, ehd, hd1, mm, hmm, hd2⟩ := hat i sd es
        have hd5 : hd.2.length ≤ 5 := by rw [hd2, List.length_take]; omega
        have hi2 : i < acc.length := by rw [dl]; exact (List.getElem?_eq_some_iff.mp ehd).1
        obtain ⟨pa, pb, epa, hpa, hpb⟩ := dh.2 i _ hd (List.getElem?_eq_getElem hi2) ehd
        obtain ⟨G6, H6, s6, O6, e6, hH6⟩ := new_pair O5 hT
        rw [hH6]
        have s56 := s5.trans s6
        have s46 := s4.trans s56
        refine x_gT (SqT.of (O6.sub _ _ e6)) rfl ?_
        refine x_gC ?_
        walk_at "n1"
        refine x_gC ?_
        walk_at "n1"
        refine x_gNl ?_
        walk_at "s"
        refine x_ixl (v := .ref pa) (SqL.of (O6.sub _ _ (s56 _ _ e4))) (atI_nat (by rw [List.getElem?_eq_getElem hi2, epa])) ?_
        refine x_gT (SqT.of (O6.sub _ _ (s56 _ _ hpa))) rfl ?_
        refine x_gC ?_
        walk_at "n1"
        refine x_gC ?_
        walk_at "n1"
        refine x_gNl ?_
        walk_at "s"
        refine ⟨by show 0 ≤ sizeLine; decide, x_new O6 fun cp H7 O7 => ?_⟩
        walk_at "s"
        refine x_ixt (v := .ref b3) (O7.set (same_t s46 hb)) rfl ?_
        refine x_sqL (O7.seq (s46.seq hb3)) ?_
        refine for_own walk_list O7 (fun l σ' G' L' => ∃ (ca : List V) (cs : List Cs) (x12 x13 x14 x15 x16 : Option V), L' = (cp, .lst ca) :: (fp, .lst fa) :: R ∧ cs.length = l ∧ DtL K G' ca (cs.map (dCs true)) ∧ (∀ c ∈ cs, ∃ g ∈ hs, CsP (knW (L.map (·.2))) hd.2 g c) ∧ (∀ c, cs[sd.cs.length - 1]? = some c → ∀ m ∈ c.ms, m = none) ∧ σ' = [some (.ref wa), some (.ref a), some (.int (nr : Nat)), some (.ref fp), some (.int (700 - (cntH nr hs : Nat))), some (.ref mp), some (.str hd.1), some (.ref pb), some (.ref cp), x9, some (.int (i : Nat)), some (.ref b), x12, x13, x14, x15, x16, none])
          ⟨[], [], _, _, _, _, _, rfl, rfl, .nil, (fun _ z => nomatch z), (fun c e => by simp at e), rfl⟩ (fun l σ' G' H' L' s' O' _ => O'.seq ((s46.trans s').seq hb3)) ?_ ?_
        · rintro l x σ' G8 H8 H8' L8 hl s8 O8 ⟨ca, cs, x12, x13, x14, x15, x16, rfl, lcs, dc, gc, lst, rfl⟩ ⟨rfl, exc⟩
          obtain ⟨c, ec, hc⟩ := dtl_mapAt hcx exc
          have co := so.cs c (List.mem_of_getElem? ec)
          obtain ⟨pc, v1, v4, rfl, hpc, h1, h4⟩ := dt_cs hc
          obtain ⟨b1, mx, rfl, hb1, hmx⟩ := dt_sqL h1
          obtain ⟨b4, rfl, hb4⟩ := dt_strsL (show Dt K G v4 (.list (c.sr.map .str)) from h4)
          have lmx : mx.length = sd.st.length := by rw [hmx.length, List.length_map, co.ml]
          have s48 := s46.trans s8
          have s68 := s56.trans s8
          -- the standing that the case goes to
          obtain ⟨jg, hjg, ejg⟩ := List.getElem_of_mem co.gl
          rw [List.length_map] at hjg
          rw [List.getElem_map] at ejg
          obtain ⟨hg, ehg, hg1, mg_, hmg, hg2⟩ := hat jg _ (List.getElem?_eq_getElem hjg)
          rw [ejg] at hg1
          have room : c.sr.length = (ss[jg]).st.length := by rw [co.sl, ← ejg, roomS_of ok.nd (List.getElem_mem hjg)]
          have hgl : hg.2.length = mg_ := by rw [hg2, List.length_take]; omega
          have hgm : hg ∈ hs := List.mem_of_getElem? ehg
          have r5 := (ok.sd _ (List.getElem_mem hjg)).sl
          refine x_gT (O8.set (same_t s48 hpc)) rfl ?_
          refine x_gC ?_
          walk_at "n1"
          refine x_gC ?_
          walk_at "n1"
          refine x_gC ?_
          walk_at "n1"
          refine x_gC ?_
          walk_at "n1"
          refine x_gNl ?_
          walk_at "s"
          refine x_sqL (SqL.of (O8.sub _ _ (s68 _ _ e4))) ?_
          refine lc_own (by walk_at "n") walk_list O8 (fun u G' L' ws => (cp, .lst ca) :: (fp, .lst fa) :: R = L' ∧ ws.length ≤ u ∧ (∀ (z : Nat) (y : V), ws[z]? = some y → y = .int (hg.2.length : Nat)) ∧ (jg < u → 0 < ws.length)) ⟨rfl, Nat.le_refl _, (fun z y e => by simp at e), fun z => absurd z (Nat.not_lt_zero _)⟩ (fun u G' H' D L' ws s' O' _ => SqL.of (O'.sub _ _ ((s68.trans s') _ _ e4))) ?_ ?_
          · rintro u x G9 H9 H9' D L9 ws hu s9 O9 ⟨rfl, lw, aw, pw⟩ ⟨rfl, exu⟩
            obtain ⟨h, eu⟩ : ∃ h, hs[u]? = some h := ⟨_, List.getElem?_eq_getElem (by omega)⟩
            obtain ⟨qa, qb, rfl, hqa, hqb⟩ := dh.2 u x h exu eu
            have s69 := s68.trans s9
            walk_at "s"
            refine x_ixt (v := .str h.1) (SqT.of (O9.sub _ _ (s69 _ _ hqa))) rfl ?_
            walk_at "s"
            refine x_eq rfl ?_
            walk_at "s"
            by_cases hh : h.1 = c.gl
            · rw [decide_eq_true (show V.str h.1 = V.str c.gl by rw [hh])]
              walk_at "s"
              refine x_ixt (v := .ref qb) (SqT.of (O9.sub _ _ (s69 _ _ hqa))) rfl ?_
              walk_at "s"
              refine x_lenl (SqL.of (O9.sub _ _ (s69 _ _ hqb))) ?_
              rw [List.length_map]
              have ej : u = jg := by
                have e1 : (hs.map (·.1))[u]? = some c.gl := by rw [List.getElem?_map, eu]; show some h.1 = _; rw [hh]
                have e2 : (hs.map (·.1))[jg]? = some c.gl := by rw [List.getElem?_map, ehg]; show some hg.1 = _; rw [hg1]
                exact (List.getElem?_inj (by rw [List.length_map]; exact (List.getElem?_eq_some_iff.mp eu).1) hnd).mp (e1.trans e2.symm)
              have eh2 : h = hg := by
                rw [ej, ehg] at eu
                exact (Option.some.inj eu).symm
              refine lcn s9 O9 (lt_line (by omega)) ⟨rfl, by rw [List.length_append, List.length_singleton]; omega, fun z y e => ?_, fun _ => by rw [List.length_append, List.length_singleton]; omega⟩
              rcases Nat.lt_trichotomy z ws.length with h' | h' | h'
              · rw [List.getElem?_append_left h'] at e
                exact aw z y e
              · subst h'
                rw [List.getElem?_append_right (Nat.le_refl _), Nat.sub_self] at e
                cases e
                rw [eh2]
              · rw [List.getElem?_eq_none (by rw [List.length_append]; simp; omega)] at e
                cases e
            · rw [decide_eq_false (fun e : V.str h.1 = V.str c.gl => hh (V.str.inj e))]
              walk_at "s"
              refine ⟨G9, _, ws, s9, O9, rfl, by omega, aw, fun hj => ?_⟩
              rcases Nat.lt_or_ge jg u with h' | h'
              · exact pw h'
              · have : jg = u := by omega
                rw [this, eu] at ehg
                cases ehg
                exact absurd hg1 hh
          rintro G9 H9 wp L9 ws s9 O9 ⟨rfl, lw, aw, pw⟩
          have hw0 : ws[0]? = some (.int (hg.2.length : Nat)) := by
            have hl0 := pw (by rw [dl]; exact (List.getElem?_eq_some_iff.mp ehg).1)
            rw [List.getElem?_eq_getElem hl0]
            exact congrArg some (aw 0 _ (List.getElem?_eq_getElem hl0))
          have s89 := s9
          walk_at "s"
          refine x_ixl (v := .int (hg.2.length : Nat)) (SqL.of O9.at0) (by show atI ws ((0 : Nat) : Int) = _; exact atI_nat hw0) ?_
          have Oa := O9.tail
          walk_at "s"
          refine ⟨ty_l (SqL.of Oa.at0), ?_⟩
          walk_at "s"
          have s49 := s48.trans s89
          refine x_listL (Oa.seq (s49.seq hb1)) (x_fix Oa fun pe Gb Hb sb Ob eb => ?_)
          walk_at "s"
          refine x_lenl (SqL.of (Ob.sub _ _ ((s68.trans (s89.trans sb)) _ _ hpb))) ?_
          rw [List.length_map]
          have hdl : hd.2.length ≤ sd.st.length := by rw [hd2, List.length_take]; omega
          walk_at "s"
          refine x_slL (SqL.of (Ob.sub _ _ eb)) (x_fix Ob fun pf Gc Hc sc Oc ec' => ?_)
          rw [cutV_take mx (by omega)] at ec'
          walk_at "s"
          have s4c := s49.trans (sb.trans sc)
          refine x_listL (Oc.seq (s4c.seq hb4)) (x_fix Oc fun pg Gd' Hd2 sd' Od ed => ?_)
          walk_at "s"
          refine x_slL (SqL.of (Od.sub _ _ ed)) (x_fix Od fun ph Ge He se Oe ee => ?_)
          rw [cut_map V.str c.sr (by omega)] at ee
          refine x_sqL (SqL.of (Oe.sub _ _ ee)) ?_
          have s6e := s68.trans (s89.trans (sb.trans (sc.trans (sd'.trans se))))
          refine lc_map (by walk_at "n") walk_list Oe (by rw [List.length_map, List.length_take]; omega) (fun _ u y => (((c.sr.take hg.2.length).map fun x => if hd.2.contains x then x else wNew).map V.str)[u]? = some y) (fun _ _ _ _ _ z => z) (fun G' H' D acc s' O' => SqL.of (O'.sub _ _ (s' _ _ ee))) ?_ gm_name ?_
          · rintro u x Gf Hf Hf' D acce hu sf Of ⟨rfl, exf⟩ kk
            obtain ⟨z, rfl, ez⟩ := txt_at exf
            walk_at "s"
            refine x_inS (ts := hd.2) (.inl (SqL.of (Of.sub _ _ ((s6e.trans sf) _ _ hpb)))) ?_
            cases hcz : hd.2.contains z with
            | true =>
              refine ⟨true, rfl, ite_t ?_⟩
              walk_at "s"
              exact kk _ _ _ (Same.refl _) Of (by rw [List.getElem?_map, List.getElem?_map, ez]; show some (V.str (if hd.2.contains z then z else wNew)) = _; rw [if_pos hcz])
            | false =>
              refine ⟨false, rfl, ite_f ?_⟩
              walk_at "s"
              exact kk _ _ _ (Same.refl _) Of (by rw [List.getElem?_map, List.getElem?_map, ez]; show some (V.str (if hd.2.contains z then z else wNew)) = _; rw [if_neg (by rw [hcz]; exact Bool.false_ne_true)])
          intro Gf Hf pk yk sf Of ef lf rf
          obtain rfl := ext_map (by rw [lf, List.length_map, List.length_map, List.length_map]) rf
          walk_at "s"
          refine ⟨by show 4 ≤ sizeLine; decide, x_fix Of fun pn Gg Hg sg Og eg => ?_⟩
          walk_at "s"
          have lca : ca.length = l := by rw [dc.length, List.length_map, lcs]
          refine x_app Og.at0 (by rw [lca, sizeLine_eq]; omega) (x_md0 Og fun Hh Oh => ?_)
          walk_at "s"
          have scg := sd'.trans (se.trans (sf.trans sg))
          have s8g := s89.trans (sb.trans (sc.trans scg))
          have lsr : (c.sr.take hg.2.length).length = hg.2.length := by rw [List.length_take]; omega
          refine fvh (s8.trans s8g) Oh ⟨_, cs ++ [cutC hd.2 hg.2.length c], _, _, _, _, _, rfl, by rw [List.length_append, lcs]; rfl, ?_, fun c' hc' => ?_, fun c' e => ?_, rfl⟩
          · rw [List.map_append]
            refine dtl_snoc (dc.mono s8g) (.tup (SqT.of eg) (.cons (.lst (SqL.of (scg _ _ ec')) ?_) (.cons (.str _) (.cons (.str _) (.cons (.lst (SqL.of (sg _ _ ef)) (strs_dtl _)) .nil)))))
            have := dtl_take hd.2.length (hmx.mono (s4c.trans scg))
            rw [← List.map_take] at this
            exact this
          · rcases List.mem_append.mp hc' with h' | h'
            · exact gc c' h'
            · rw [List.mem_singleton.mp h']
              refine ⟨hg, hgm, by show (c.ms.take hd.2.length).length = _; rw [List.length_take, co.ml]; omega, fun m hm => co.mm m (List.mem_of_mem_take hm), co.wd, hg1.symm, by show ((c.sr.take hg.2.length).map _).length = _; rw [List.length_map, lsr], fun x hx => ?_⟩
              obtain ⟨z, hz, rfl⟩ := List.mem_map.mp hx
              split
              · rename_i h2'
                exact .inr (List.contains_iff_mem.mp h2')
              · exact .inl rfl
          · intro m hm
            rcases Nat.lt_trichotomy (sd.cs.length - 1) cs.length with h' | h' | h'
            · rw [List.getElem?_append_left h'] at e
              exact lst c' e m hm
            · rw [h', List.getElem?_append_right (Nat.le_refl _), Nat.sub_self] at e
              cases e
              exact so.last c (by rw [h', lcs]; exact ec) m (List.mem_of_mem_take hm)
            · rw [List.getElem?_eq_none (by rw [List.length_append]; simp; omega)] at e
              cases e
        · rintro σ' G8 H8 L8 s8 O8 ⟨ca, cs, x12, x13, x14, x15, x16, rfl, lcs, dc, gc, lst, rfl⟩
          have sn := Same.new (o := .lst ca) O8.no0
          have O9 := O8.frz0
          have e9 : upd G8 cp (.lst ca) cp = some (.lst ca) := upd_same
          have dc := dc.mono sn
          generalize upd G8 cp (.lst ca) = G9 at sn O9 e9 dc
          have s69 := s56.trans (s8.trans sn)
          walk_at "s"
          refine ⟨ty_l (SqL.of O9.at0), ?_⟩
          walk_at "s"
          refine ⟨by show 3 ≤ sizeLine; decide, x_fix O9 fun pn Ga Ha sa Oa ea => ?_⟩
          walk_at "s"
          have lfa : fa.length = i := by rw [df.length, List.length_map, ls']
          refine x_app Oa.at0 (lt_line (by omega)) (x_md0 Oa fun Hb Ob => ?_)
          walk_at "s"
          have s5a := s6.trans (s8.trans (sn.trans sa))
          rw [lcx] at lcs
          refine fvh (s5.trans s5a) Ob ⟨_, ss' ++ [⟨hd.1, hd.2, cs⟩], _, _, _, _, _, _, _, _, _, _, _, rfl, by rw [List.length_append, ls']; rfl, ?_, fun j s h e1 e2 => ?_, rfl⟩
          · rw [List.map_append]
            exact dtl_snoc (df.mono s5a) (.tup (SqT.of ea) (.cons (.str _) (.cons (.lst (SqL.of ((s69.trans sa) _ _ hpb)) (strs_dtl _)) (.cons (.lst (SqL.of (sa _ _ e9)) (dc.mono sa)) .nil))))
          · rcases Nat.lt_trichotomy j ss'.length with h' | h' | h'
            · rw [List.getElem?_append_left h'] at e1
              exact sp j s h e1 e2
            · subst h'
              rw [List.getElem?_append_right (Nat.le_refl _), Nat.sub_self] at e1
              cases e1
              rw [ls', ehd] at e2
              cases e2
              exact ⟨rfl, rfl, by show 1 ≤ cs.length; omega, by show cs.length ≤ 130; omega, gc, fun c e => lst c (by rw [← lcs]; exact e)⟩
            · rw [List.getElem?_eq_none (by rw [List.length_append]; simp; omega)] at e1
              cases e1
      · rintro σ' G5 H5 L5 s5 O5 ⟨fa, ss', x6, x7, x8, x9, x10, x11, x12, x13, x14, x15, x16, rfl, ls', df, sp, rfl⟩
        walk_at "s"
        have sn := Same.new (o := .lst fa) O5.no0
        have lss : ss'.length = hs.length := by rw [ls', hlen, lx]
        have o1 := ok.l1
        have hok : HdsOk hs.length hs := ⟨rfl, hnd, fun h hh => by
          obtain ⟨j, hj, rfl⟩ := List.getElem_of_mem hh
          have ej : ss[j]? = some (ss[j]'(by omega)) := List.getElem?_eq_getElem (by omega)
          obtain ⟨e1, m, hm, e2⟩ := eh j _ _ (List.getElem?_eq_getElem hj) ej
          have so := ok.sd _ (List.mem_of_getElem? ej)
          refine ⟨by rw [e1]; exact so.wd, by rw [e2, List.length_take]; have := so.sl; omega, fun x hx => so.sn x (by rw [e2] at hx; exact List.mem_of_mem_take hx), by rw [e2]; exact so.sd.sublist (List.take_sublist _ _)⟩, fun h e => by
          have ej : ss[0]? = some (ss[0]'(by omega)) := List.getElem?_eq_getElem (by omega)
          obtain ⟨e1, m, hm, e2⟩ := eh 0 h _ e ej
          rw [e2, ok.first _ ej]
          exact List.take_nil⟩
        refine q _ _ fp fa ss' (s4.trans (s5.trans sn)) O5.frz0 upd_same (df.mono sn) (stOk_of hok (by omega) (by omega) lss sp) (by omega) ?_
        rw [kle, cnt_eq (hs := hs) lss fun j s h e1 e2 => (sp j s h e1 e2).st]
        omega
end
end
section
open PySem PySem.Spec PyProof.Rows L2 G
set_option maxHeartbeats 4000000
/-! ### bounds of rows -/
theorem BdL.all {m n : Nat} : ∀ {ds : List PyData}, (∀ d ∈ ds, Bd m n d) → BdL m ((n + 1) * ds.length) ds
  | [], _ => ⟨rfl, by simp only [PyData.depthAll]; omega, by simp only [PyData.weightAll]; omega⟩
  | d :: ds, h => by
    have := BdL.cons (h d List.mem_cons_self) (BdL.all fun e he => h e (List.mem_cons_of_mem _ he))
    refine ⟨this.ok, Nat.le_trans this.dep (by omega), Nat.le_trans this.wt ?_⟩
    rw [List.length_cons, Nat.mul_succ]
    omega
theorem _root_.G.BdL.mono {m n m1 n1 : Nat} {ds : List PyData} (b : BdL m n ds) (h1 : m ≤ m1) (h2 : n ≤ n1) : BdL m1 n1 ds := ⟨b.ok, Nat.le_trans b.dep h1, Nat.le_trans b.wt h2⟩
theorem Bd.intN {i : Nat} (h : i < 1000) : Bd 0 10 (.int (i : Nat)) := by
  obtain ⟨d, hd, b⟩ := Fn.int (K := ([] : PySem.W.Frag)) (G := fun _ => none) (i := (i : Int)) (by omega)
  cases hd
  exact b
theorem Bd.none0 : Bd 0 0 .none := ⟨rfl, by simp only [PyData.depth]; omega, by simp only [PyData.weight]; omega⟩
theorem Wd.st8 {x : Str} (h : Wd x) : St 8 x := ⟨asc_all.mpr fun c hc => by have := h.let_ c hc; unfold isLetter at this; omega, h.l8⟩
theorem kn_wd {W : List (Str × Str)} (o : WaysOk W) : ∀ x ∈ knW W, Wd x := fun x hx => by
  rcases List.mem_cons.mp hx with rfl | hx
  · exact kept_wd _ (by decide)
  · obtain ⟨p, hp, rfl⟩ := List.mem_map.mp hx
    exact (o.nm p hp).wd
theorem bd_strs {r : List Str} {n : Nat} (h : ∀ x ∈ r, Wd x) (hl : r.length ≤ n) : BdL 0 (9 * n) (r.map PyData.str) := (BdL.all (m := 0) (n := 8) fun d hd => by
  obtain ⟨x, hx, rfl⟩ := List.mem_map.mp hd
  exact Bd.str (h x hx).st8).mono (Nat.le_refl _) (by rw [List.length_map]; exact Nat.mul_le_mul_left _ hl)
theorem row_bd {kn : List Str} {ss : List Sd} {s : Sd} {mk : List Str} {d : PyData} (ok : StOk kn ss) (hs : s ∈ ss) (l900 : ss.length ≤ 900) (hk : ∀ x ∈ kn, Wd x) (hm : ∀ x ∈ mk, x ∈ kn) (lm : mk.length ≤ 5) (h : RowC ss s mk d) : Bd 2 130 d := by
  obtain ⟨j, c, ca, rfl⟩ := h
  have so := ok.sd s hs
  have co := so.cs c (List.mem_of_getElem? ca.at_)
  have l5 : c.sr.length ≤ 5 := by rw [co.sl]; exact roomS_le (fun s hs => (ok.sd s hs).sl) _
  have b1 := (bd_strs (fun x hx => hk x (hm x hx)) lm).tup
  have b2 := Bd.str co.wd.st8
  have b3 : Bd 0 10 (.int (ixOf (ss.map (·.nm)) c.gl : Nat)) := Bd.intN (by have := ix_lt co.gl; rw [List.length_map] at this; omega)
  have b4 : Bd 1 55 (.tuple (c.sr.map fun x => PyData.int (ixOf (s.st ++ [wNew]) x : Nat))) := ((BdL.all (m := 0) (n := 10) fun d hd => by
    obtain ⟨x, hx, rfl⟩ := List.mem_map.mp hd
    have mx : x ∈ s.st ++ [wNew] := (co.sr x hx).elim (fun e => List.mem_append_right _ (by rw [e]; exact List.mem_singleton_self _)) (fun e => List.mem_append_left _ e)
    refine Bd.intN ?_
    have := ix_lt mx
    rw [List.length_append, List.length_singleton] at this
    have := so.sl
    omega).mono (Nat.le_refl _) (by rw [List.length_map]; exact Nat.le_trans (Nat.mul_le_mul_left 11 l5) (by decide))).tup
  exact (BdL.cons b1 (BdL.cons b2 (BdL.cons b3 (BdL.cons b4 BdL.nil)))).tup.mono (by decide) (by decide)
theorem rows_bd {W : List (Str × Str)} {kS : List Str} {ss : List Sd} {s : Sd} {ds : List PyData} (o : WaysOk W) (ok : StOk (knW W) ss) (l900 : ss.length ≤ 900) (pm : kS.Perm (knW W)) (hs : s ∈ ss) (h : RowsC kS ss s ds) : ∀ d ∈ ds, Bd 2 130 d := fun d hd => by
  obtain ⟨i, hi, rfl⟩ := List.getElem_of_mem hd
  have hm : i < (allM kS s.st.length).length := by rw [← h.1]; exact hi
  have mm := allM_mem (List.getElem_mem hm)
  exact row_bd ok hs l900 (kn_wd o) (fun x hx => pm.mem_iff.mp (mm.2 x hx)) (by rw [mm.1]; exact (ok.sd s hs).sl) (h.2 i _ _ (List.getElem?_eq_getElem hm) (List.getElem?_eq_getElem hi))
theorem due_sum {kS : List Str} {n : Nat} (hn : kS.length = n) : ∀ {ss : List Sd} {dss : List (List PyData)} {P : List Sd}, dss.length = ss.length → (∀ (i : Nat) (ds : List PyData) (s : Sd), dss[i]? = some ds → ss[i]? = some s → RowsC kS P s ds) → (dss.map List.length).sum = cntS n ss
  | [], [], _, _, _ => rfl
  | [], _ :: _, _, h, _ => by cases h
  | _ :: _, [], _, h, _ => by cases h
  | s :: ss, ds :: dss, P, h, hr => by
    have h1 := (hr 0 ds s rfl rfl).1
    rw [allM_len, hn] at h1
    have ih := due_sum hn (ss := ss) (dss := dss) (P := P) (by simpa using h) fun i ds s e1 e2 => hr (i + 1) ds s (by simpa using e1) (by simpa using e2)
    unfold cntS at ih ⊢
    rw [List.map_cons, List.sum_cons, List.map_cons, List.sum_cons, h1, ih]
theorem lists_bd : ∀ {dss : List (List PyData)}, (∀ ds ∈ dss, ∀ d ∈ ds, Bd 2 130 d) → BdL 3 (131 * (dss.map List.length).sum + dss.length) (dss.map .list)
  | [], _ => ⟨rfl, by simp only [List.map_nil, PyData.depthAll]; omega, by simp only [List.map_nil, PyData.weightAll]; omega⟩
  | ds :: dss, h => by
    have b := (BdL.all (h ds List.mem_cons_self)).lst
    have := BdL.cons b (lists_bd fun e he => h e (List.mem_cons_of_mem _ he))
    rw [List.map_cons]
    refine this.mono (by omega) ?_
    simp only [List.map_cons, List.sum_cons, List.length_cons]
    rw [Nat.mul_add]
    omega
theorem due_bd {W : List (Str × Str)} {kS : List Str} {ss : List Sd} {dss : List (List PyData)} (o : WaysOk W) (ok : StOk (knW W) ss) (l900 : ss.length ≤ 900) (pm : kS.Perm (knW W)) (h : DueL kS ss dss) (hc : cntS (knW W).length ss ≤ 4000) : Bd 4 600000 (.list (dss.map .list)) := by
  have hr : ∀ ds ∈ dss, ∀ d ∈ ds, Bd 2 130 d := fun ds hds => by
    obtain ⟨i, hi, rfl⟩ := List.getElem_of_mem hds
    have hi2 : i < ss.length := by rw [← h.1]; exact hi
    exact rows_bd o ok l900 pm (List.getElem_mem hi2) (h.2 i _ _ (List.getElem?_eq_getElem hi) (List.getElem?_eq_getElem hi2))
  refine (lists_bd hr).lst.mono (by decide) ?_
  have := due_sum pm.length_eq h.1 h.2
  have h1 := h.1
  omega
/-! ### lists that are ours, of lists that are ours -/
def TL (K : PySem.W.Frag) (G : Hp) (Ls : List (Addr × List V)) (dss : List (List PyData)) : Prop := Ls.length = dss.length ∧ ∀ (i : Nat) (l : Addr × List V) (ds : List PyData), Ls[i]? = some l → dss[i]? = some ds → DtL K G l.2 ds
theorem TL.same {K : PySem.W.Frag} {G G' : Hp} {Ls : List (Addr × List V)} {dss : List (List PyData)} (h : TL K G Ls dss) (s : Same G G') : TL K G' Ls dss := ⟨h.1, fun i l ds e1 e2 => (h.2 i l ds e1 e2).mono s⟩
theorem e2_in {G H : Hp} {A : List (Addr × HO)} {Ls : List (Addr × List V)} {X : List (Addr × HO)} (O : Own G H (A ++ (E2 Ls ++ X))) {l : Addr × List V} (hl : l ∈ Ls) : H l.1 = some (.lst l.2) := (O.has (l.1, .lst l.2) (List.mem_append_right _ (List.mem_append_left _ (List.mem_map.mpr ⟨l, hl, rfl⟩)))).1
theorem TL.dt {K : PySem.W.Frag} {G H : Hp} {A X : List (Addr × HO)} {q : Addr} {Ls : List (Addr × List V)} {dss : List (List PyData)} (h : TL K G Ls dss) (O : Own G H (A ++ ((q, .lst (Ls.map fun l => V.ref l.1)) :: (E2 Ls ++ X)))) : Dt K H (.ref q) (.list (dss.map .list)) := by
  have hq : H q = some (.lst (Ls.map fun l => V.ref l.1)) := (O.has (q, _) (List.mem_append_right _ List.mem_cons_self)).1
  refine .lst (SqL.of hq) (dtl_map (by rw [List.length_map]; exact h.1) fun i y ds e1 e2 => ?_)
  obtain ⟨l, rfl, el⟩ := ref_at e1
  have O' : Own G H ((A ++ [(q, HO.lst (Ls.map fun l => V.ref l.1))]) ++ (E2 Ls ++ X)) := by rw [List.append_assoc]; exact O
  exact .lst (SqL.of (e2_in O' (List.mem_of_getElem? el))) ((h.2 i l ds el e2).mono O.sub)
/-- one of the lists to the front -/
theorem e2_split {Ls : List (Addr × List V)} {i : Nat} {l : Addr × List V} (e : Ls[i]? = some l) : ∃ A B, Ls = A ++ l :: B ∧ A.length = i := by
  obtain ⟨hi, rfl⟩ := List.getElem?_eq_some_iff.mp e
  exact ⟨Ls.take i, Ls.drop (i + 1), by rw [List.getElem_cons_drop hi, List.take_append_drop], by rw [List.length_take]; omega⟩
theorem own_front {G H : Hp} {A B : List (Addr × List V)} {l : Addr × List V} {Y X : List (Addr × HO)} (O : Own G H (Y ++ (E2 (A ++ l :: B) ++ X))) : Own G H ((l.1, .lst l.2) :: (Y ++ (E2 A ++ (E2 B ++ X)))) := by
  refine O.perm ?_
  unfold E2
  rw [List.map_append, List.map_cons]
  have : (Y ++ ((A.map fun l => (l.1, HO.lst l.2)) ++ (l.1, HO.lst l.2) :: (B.map fun l => (l.1, HO.lst l.2))) ++ X).Perm ((l.1, HO.lst l.2) :: (Y ++ (A.map fun l => (l.1, HO.lst l.2)) ++ ((B.map fun l => (l.1, HO.lst l.2)) ++ X))) := by
    have e : Y ++ ((A.map fun l => (l.1, HO.lst l.2)) ++ (l.1, HO.lst l.2) :: (B.map fun l => (l.1, HO.lst l.2))) ++ X = (Y ++ (A.map fun l => (l.1, HO.lst l.2))) ++ (l.1, HO.lst l.2) :: ((B.map fun l => (l.1, HO.lst l.2)) ++ X) := by simp [List.append_assoc]
    rw [e]
    exact List.perm_middle
  simpa [List.append_assoc] using this
theorem own_back {G H : Hp} {A B : List (Addr × List V)} {l : Addr × List V} {Y X : List (Addr × HO)} (O : Own G H ((l.1, .lst l.2) :: (Y ++ (E2 A ++ (E2 B ++ X))))) : Own G H (Y ++ (E2 (A ++ l :: B) ++ X)) := by
  refine O.perm ?_
  unfold E2
  rw [List.map_append, List.map_cons]
  have : (Y ++ ((A.map fun l => (l.1, HO.lst l.2)) ++ (l.1, HO.lst l.2) :: (B.map fun l => (l.1, HO.lst l.2))) ++ X).Perm ((l.1, HO.lst l.2) :: (Y ++ (A.map fun l => (l.1, HO.lst l.2)) ++ ((B.map fun l => (l.1, HO.lst l.2)) ++ X))) := by
    have e : Y ++ ((A.map fun l => (l.1, HO.lst l.2)) ++ (l.1, HO.lst l.2) :: (B.map fun l => (l.1, HO.lst l.2))) ++ X = (Y ++ (A.map fun l => (l.1, HO.lst l.2))) ++ (l.1, HO.lst l.2) :: ((B.map fun l => (l.1, HO.lst l.2)) ++ X) := by simp [List.append_assoc]
    rw [e]
    exact List.perm_middle
  have := this.symm
  simpa [List.append_assoc] using this
section
variable {P : Program} {w : World} {K : PySem.W.Frag} {mg : Str → Option Value} {base : Heap} {k : Nat} {kw C CP D CW CM : Addr}
abbrev s__law_spoil : Stmt := top 61
theorem sc__law_spoil : FnScope ["told", "row"] ["told"] (defScope s__law_spoil) := ⟨rfl, rfl, rfl, by decide +kernel, rfl, by decide +kernel, by decide +kernel⟩
def sp_spl : Sp := fun vs H Q _ => ∃ (G : Hp) (X : List (Addr × HO)) (q : Addr) (Ls : List (Addr × List V)), vs = [.ref q] ∧ Own G H ((q, .lst (Ls.map fun l => V.ref l.1)) :: (E2 Ls ++ X)) ∧ Ls.length ≤ 1000 ∧ (∀ l ∈ Ls, l.2.length ≤ 4000) ∧ ∀ (G' H' : Hp), Same G G' → Own G' H' X → Q .non H'
theorem ok_spl {f : Addr} {fd : FuncData} (F : Fun K "_law_spoil" "_law_spoil" s__law_spoil f fd) (B : Btt mg) : FnG P w K mg base (k + 1) f fd ["told"] sp_spl := by
  refine fnG_of F sc__law_spoil (fun vs H Q E h => ?_) (fun cdv A outer s H vs Q E r h => ?_)
  · obtain ⟨_, _, _, _, rfl, _⟩ := h
    rfl
  · obtain ⟨G, X, q, Ls, rfl, O, l1, l2, qq⟩ := h
    refine ⟨_, (pss_cons (ps_for (passes_of rfl) rfl (pi_sqK (K := K) rfl (pv 0)) (pg_name (i := 1) sc__law_spoil.nd rfl (Or.inl rfl))
       (pss_cons (ps_expr (pe_bmK' (K := K) rfl PySem.F.plainAttrs_list PySem.F.slot_list_insert PySem.F.type_list_insert mt_insert (pv 1) (pa_cons pe_int (pa_cons pe_non pa_nil))))
       (pss_one (ps_expr (pe_bm0Q (K := K) rfl PySem.F.plainAttrs_list PySem.F.slot_list_pop PySem.F.type_list_pop mPop (pv 1))))))
       (pss_cons (ps_expr (pe_bmK' (K := K) rfl PySem.F.plainAttrs_list PySem.F.slot_list_insert PySem.F.type_list_insert mt_insert (pv 0) (pa_cons pe_int (pa_cons (d_lst pa_nil) pa_nil))))
       (pss_cons (ps_expr (pe_bmK' (K := K) rfl PySem.F.plainAttrs_list PySem.F.slot_list_append PySem.F.type_list_append mApp (pv 0) (pa_cons pe_str pa_nil)))
       (pss_one (ps_expr (pe_bm0Q (K := K) rfl PySem.F.plainAttrs_list PySem.F.slot_list_reverse PySem.F.type_list_reverse mt_reverse (pv 0))))))), ?_⟩
    try dsimp only [cxOf]
    refine x_start (σ' := [some _, none]) rfl ?_
    walk_at "s"
    refine x_sqL (SqL.of O.at0) ?_
    refine for_own walk_list O (fun i σ' G' L' => ∃ (Ls' : List (Addr × List V)) (x1 : Option V), L' = (q, .lst (Ls.map fun l => V.ref l.1)) :: (E2 Ls' ++ X) ∧ Ls'.map (·.1) = Ls.map (·.1) ∧ (∀ l ∈ Ls', l.2.length ≤ 4000) ∧ σ' = [some (.ref q), x1]) ⟨Ls, none, rfl, rfl, l2, rfl⟩ (fun i σ' G' H' L' s' O' ⟨Ls', x1, e, _⟩ => by rw [e] at O'; exact SqL.of O'.at0) ?_ ?_
    · rintro i x σ' G' H' H2 L' hi s' O' ⟨Ls', x1, rfl, e1, l3, rfl⟩ ⟨rfl, ex⟩
      obtain ⟨l, rfl, el⟩ := ref_at ex
      obtain ⟨l', el', e2⟩ : ∃ l', Ls'[i]? = some l' ∧ l'.1 = l.1 := by
        have : (Ls'.map (·.1))[i]? = some l.1 := by rw [e1, List.getElem?_map, el]; rfl
        rw [List.getElem?_map] at this
        cases e : Ls'[i]? with
        | none => rw [e] at this; cases this
        | some l' => rw [e] at this; exact ⟨l', rfl, Option.some.inj this⟩
      obtain ⟨A', B', rfl, hA⟩ := e2_split el'
      have O3 := own_front (Y := [(q, HO.lst (Ls.map fun l => V.ref l.1))]) O'
      have ll := l3 l' (List.mem_of_getElem? el')
      rw [← e2]
      walk_at "n1"
      walk_at "s"
      refine ⟨ty_l (SqL.of O3.at0), ?_⟩
      walk_at "s"
      refine ⟨l'.1, l'.2, 0, .non, rfl, rfl, O3.at0, lt_line (by omega), by decide, by decide, ?_⟩
      have O4 := O3.upd0 (o' := .lst (l'.2.take (0 : Int).toNat ++ [V.non] ++ l'.2.drop (0 : Int).toNat))
      generalize upd H2 l'.1 (.lst (l'.2.take (0 : Int).toNat ++ [V.non] ++ l'.2.drop (0 : Int).toNat)) = H4 at O4 ⊢
      have e0 : l'.2.take (0 : Int).toNat ++ [V.non] ++ l'.2.drop (0 : Int).toNat = V.non :: l'.2 := rfl
      rw [e0] at O4
      walk_at "s"
      refine ⟨ty_l (SqL.of O4.at0), ?_⟩
      refine ⟨l'.1, V.non :: l'.2, (V.non :: l'.2)[(V.non :: l'.2).length - 1]'(by simp), rfl, rfl, O4.at0, List.getElem?_eq_getElem _, x_md0 O4 fun H5 O5 => ?_⟩
      walk_at "s"
      have O6 := own_back (l := (l'.1, (V.non :: l'.2).dropLast)) (Y := [(q, HO.lst (Ls.map fun l => V.ref l.1))]) O5
      refine fvh s' O6 ⟨A' ++ (l'.1, (V.non :: l'.2).dropLast) :: B', _, rfl, ?_, fun m hm => ?_, rfl⟩
      · rw [← e1, List.map_append, List.map_append, List.map_cons, List.map_cons]
      · rcases List.mem_append.mp hm with h | h
        · exact l3 m (List.mem_append_left _ h)
        · rcases List.mem_cons.mp h with rfl | h
          · show (V.non :: l'.2).dropLast.length ≤ 4000
            rw [List.length_dropLast, List.length_cons]
            omega
          · exact l3 m (List.mem_append_right _ (List.mem_cons_of_mem _ h))
    · rintro σ' G' H' L' s' O' ⟨Ls', x1, rfl, e1, l3, rfl⟩
      walk_at "s"
      refine ⟨ty_l (SqL.of O'.at0), ?_⟩
      walk_at "s"
      refine ⟨by show 0 ≤ sizeLine; decide, x_fix O' fun p2 G2 H2 s2 O2 e2 => ?_⟩
      walk_at "s"
      refine ⟨q, _, 0, .ref p2, rfl, rfl, O2.at0, lt_line (by rw [List.length_map]; omega), by decide, by decide, ?_⟩
      have O3 := O2.upd0 (o' := .lst ((Ls.map fun l => V.ref l.1).take (0 : Int).toNat ++ [V.ref p2] ++ (Ls.map fun l => V.ref l.1).drop (0 : Int).toNat))
      generalize upd H2 q (.lst ((Ls.map fun l => V.ref l.1).take (0 : Int).toNat ++ [V.ref p2] ++ (Ls.map fun l => V.ref l.1).drop (0 : Int).toNat)) = H3 at O3 ⊢
      walk_at "s"
      refine ⟨ty_l (SqL.of O3.at0), ?_⟩
      walk_at "s"
      refine x_app O3.at0 (lt_line (by show (V.ref p2 :: Ls.map fun l => V.ref l.1).length < _; rw [List.length_cons, List.length_map]; omega)) (x_md0 O3 fun H4 O4 => ?_)
      walk_at "s"
      refine ⟨ty_l (SqL.of O4.at0), ?_⟩
      refine ⟨q, _, rfl, rfl, O4.at0, ?_⟩
      have O5 := O4.upd0 (o' := .lst (((Ls.map fun l => V.ref l.1).take (0 : Int).toNat ++ [V.ref p2] ++ (Ls.map fun l => V.ref l.1).drop (0 : Int).toNat) ++ [V.str "more"]).reverse)
      refine qq G2 _ (s'.trans s2) ?_
      exact (Own.dropA (A := E2 Ls') O5.tail)
end
end
section
open PySem PySem.Spec PyProof.Rows L2 G
set_option maxHeartbeats 4000000
theorem rows_lst_bd {ds : List PyData} (h : ∀ d ∈ ds, Bd 2 130 d) (l : ds.length ≤ 4000) : Bd 3 600000 (.list ds) := (BdL.all h).lst.mono (by decide) (by have := Nat.mul_le_mul_left 131 l; omega)
theorem alone_bd {ds : List PyData} (h : ∀ d ∈ ds, Bd 2 130 d) (l : ds.length ≤ 4000) : Bd 3 600000 (.list (.none :: (ds ++ [.str "more"]))) := by
  refine (BdL.all (m := 2) (n := 130) fun d hd => ?_).lst.mono (by decide) (by rw [List.length_cons, List.length_append, List.length_singleton]; omega)
  rcases List.mem_cons.mp hd with rfl | hd
  · exact Bd.none0.mono (by decide) (by decide)
  · rcases List.mem_append.mp hd with h' | h'
    · exact h d h'
    · rw [List.mem_singleton.mp h']
      exact (Bd.str (n := 4) ⟨by decide, by decide⟩).mono (by decide) (by decide)
section
variable {P : Program} {w : World} {K : PySem.W.Frag} {mg : Str → Option Value} {base : Heap} {k : Nat} {kw C CP D CW CM : Addr}
abbrev s__law_alone_right : Stmt := top 63
theorem sc__law_alone_right : FnScope ["rows", "told", "at", "k"] ["rows", "told", "at"] (defScope s__law_alone_right) := ⟨rfl, rfl, rfl, by decide +kernel, rfl, by decide +kernel, by decide +kernel⟩
def sp_aln (K : PySem.W.Frag) : Sp := fun vs H Q _ => ∃ (G : Hp) (X : List (Addr × HO)) (rp q : Addr) (a : Nat) (Ls : List (Addr × List V)) (xs : List V) (dss : List (List PyData)), vs = [.ref rp, .ref q, .int (a : Nat)] ∧ Own G H ((q, .lst (Ls.map fun l => V.ref l.1)) :: (E2 Ls ++ X)) ∧ G rp = some (.lst xs) ∧ RwsAt K G xs dss ∧ TL K G Ls dss ∧ a < Ls.length ∧ Ls.length ≤ 1000 ∧ (∀ ds ∈ dss, ds.length ≤ 4000 ∧ ∀ d ∈ ds, Bd 2 130 d) ∧ ∀ (G' H' : Hp), Same G G' → Own G' H' X → Q (.bl true) H'
theorem ok_aln {f : Addr} {fd : FuncData} (F : Fun K "_law_alone_right" "_law_alone_right" s__law_alone_right f fd) (B : Btt mg) : FnG P w K mg base (k + 1) f fd ["rows", "told", "at"] (sp_aln K) := by
  refine fnG_of F sc__law_alone_right (fun vs H Q E h => ?_) (fun cdv A outer s H vs Q E r h => ?_)
  · obtain ⟨_, _, _, _, _, _, _, _, rfl, _⟩ := h
    rfl
  · obtain ⟨G, X, rp, q, a, Ls, xs, dss, rfl, O, hr, ra, tl, ha, l1, bd, qq⟩ := h
    refine ⟨_, (pss_cons (ps_expr (pe_bmK' (K := K) rfl PySem.F.plainAttrs_list PySem.F.slot_list_insert PySem.F.type_list_insert mt_insert (pe_ix (ixK (K := K) rfl) (pv 1) (pv 2) (fun _ _ => rfl)) (pa_cons pe_int (pa_cons pe_non pa_nil))))
       (pss_cons (ps_expr (pe_bmK' (K := K) rfl PySem.F.plainAttrs_list PySem.F.slot_list_append PySem.F.type_list_append mApp (pe_ix (ixK (K := K) rfl) (pv 1) (pv 2) (fun _ _ => rfl)) (pa_cons pe_str pa_nil)))
       (pss_one (ps_ret (pe_cmpR (oEqK (K := K) rfl r) (pe_lc (own := [("k", 3)]) rfl sc__law_alone_right.nd (pi_range1 (by rfl) B.range (pa_cons (pe_callB (cLenK (K := K) rfl) (by rfl) B.len (by decide +kernel) (pa_cons (pv 0) pa_nil)) pa_nil)) (blkOk_by (N := ["rows", "told", "at", "k"]) (sc := defScope s__law_alone_right) (by decide +kernel)) (fun _ _ _ _ _ => (pg_name (i := 3) sc__law_alone_right.nd rfl (Or.inl rfl))) (fun _ _ _ _ _ => (pts_one (pt_cmpR (oNeK (K := K) rfl r) (pe_callB (cReprK (K := K) rfl r) (by rfl) B.repr (by decide +kernel) (pa_cons (pe_ix (ixK (K := K) rfl) (pv 1) (pv 3) (fun _ _ => rfl)) pa_nil)) (pe_callB (cReprK (K := K) rfl r) (by rfl) B.repr (by decide +kernel) (pa_cons (pe_ifExp (pt_cmpR (oEqK (K := K) rfl r) (pv 3) (pv 2) (nomark _)) (pe_op (oAddK (K := K) rfl) (pe_op (oAddK (K := K) rfl) (d_lst (pa_cons pe_non pa_nil)) (pe_ix (ixK (K := K) rfl) (pv 0) (pv 3) (fun _ _ => rfl))) (d_lst (pa_cons pe_str pa_nil))) (pe_ix (ixK (K := K) rfl) (pv 0) (pv 3) (fun _ _ => rfl))) pa_nil)) (nomark _)))) (fun _ _ _ _ _ => (pv 3))) (d_lst pa_nil) (nomark _)))))), ?_⟩
    try dsimp only [cxOf]
    refine x_start (σ' := [some _, some _, some _, none]) rfl ?_
    obtain ⟨l, el⟩ : ∃ l, Ls[a]? = some l := ⟨_, List.getElem?_eq_getElem ha⟩
    have had : a < dss.length := by rw [← tl.1]; exact ha
    have dl := tl.2 a l _ el (List.getElem?_eq_getElem had)
    obtain ⟨da, hda⟩ : ∃ da, da = dss[a] := ⟨_, rfl⟩
    rw [← hda] at dl
    have ba := bd da (by rw [hda]; exact List.getElem_mem had)
    have ll : l.2.length ≤ 4000 := by rw [dl.length]; exact ba.1
    obtain ⟨A', B', rfl, hA⟩ := e2_split el
    have O3 := own_front (Y := [(q, HO.lst ((A' ++ l :: B').map fun l => V.ref l.1))]) O
    have eat : ((A' ++ l :: B').map fun l => V.ref l.1)[a]? = some (.ref l.1) := by rw [List.getElem?_map, el]; rfl
    walk_at "s"
    refine x_ixl (v := .ref l.1) (SqL.of O3.at1) (atI_nat eat) ?_
    refine ⟨ty_l (SqL.of O3.at0), ?_⟩
    walk_at "s"
    refine ⟨l.1, l.2, 0, .non, rfl, rfl, O3.at0, lt_line (by omega), by decide, by decide, ?_⟩
    have O4 := O3.upd0 (o' := .lst (l.2.take (0 : Int).toNat ++ [V.non] ++ l.2.drop (0 : Int).toNat))
    generalize upd H l.1 (.lst (l.2.take (0 : Int).toNat ++ [V.non] ++ l.2.drop (0 : Int).toNat)) = H4 at O4 ⊢
    have e0 : l.2.take (0 : Int).toNat ++ [V.non] ++ l.2.drop (0 : Int).toNat = V.non :: l.2 := rfl
    rw [e0] at O4
    walk_at "s"
    refine x_ixl (v := .ref l.1) (SqL.of O4.at1) (atI_nat eat) ?_
    refine ⟨ty_l (SqL.of O4.at0), ?_⟩
    walk_at "s"
    refine x_app O4.at0 (lt_line (by rw [List.length_cons]; omega)) (x_md0 O4 fun H5 O5 => ?_)
    have O6 := own_back (l := (l.1, V.non :: l.2 ++ [V.str "more"])) (Y := [(q, HO.lst ((A' ++ l :: B').map fun l => V.ref l.1))]) O5
    have eqr : (A' ++ l :: B').map (fun l => V.ref l.1) = (A' ++ (l.1, V.non :: l.2 ++ [V.str "more"]) :: B').map fun l => V.ref l.1 := by
      rw [List.map_append, List.map_append, List.map_cons, List.map_cons]
    obtain ⟨M, hM⟩ : ∃ M, M = A' ++ (l.1, V.non :: l.2 ++ [V.str "more"]) :: B' := ⟨_, rfl⟩
    rw [← hM] at O6 eqr
    have Mat : M[a]? = some (l.1, V.non :: l.2 ++ [V.str "more"]) := by
      rw [hM, List.getElem?_append_right (by omega), hA, Nat.sub_self]
      rfl
    have Mne : ∀ (j : Nat), j ≠ a → M[j]? = (A' ++ l :: B')[j]? := fun j hj => by
      rw [hM]
      rcases Nat.lt_or_ge j A'.length with h | h
      · rw [List.getElem?_append_left h, List.getElem?_append_left h]
      · rw [List.getElem?_append_right h, List.getElem?_append_right h]
        obtain ⟨m, hm⟩ : ∃ m, j - A'.length = m + 1 := ⟨j - A'.length - 1, by omega⟩
        rw [hm, List.getElem?_cons_succ, List.getElem?_cons_succ]
    rw [eqr] at O6
    have Ml : M.length = dss.length := by rw [← tl.1, hM, List.length_append, List.length_append, List.length_cons, List.length_cons]
    walk_at "s"
    refine x_lenl (SqL.of (O6.sub _ _ hr)) ?_
    refine x_rg (by have := ra.1; have := tl.1; omega) (by have := ra.1; have := tl.1; omega) ?_
    rw [show ((xs.length : Nat) : Int).toNat = xs.length from Int.toNat_natCast _]
    refine lc_own (by walk_at "n") walk_range O6 (fun i G' L' acc => acc = [] ∧ L' = [(q, HO.lst (M.map fun l => V.ref l.1))] ++ (E2 M ++ X)) ⟨rfl, rfl⟩ (fun _ _ _ _ _ _ _ _ _ => True.intro) ?_ ?_
    · rintro i x G' H' H2 D L' acc hi s' O' ⟨rfl, rfl⟩ ⟨rfl, rfl⟩
      have hid : i < dss.length := by rw [← ra.1]; exact hi
      obtain ⟨m, em⟩ : ∃ m, M[i]? = some m := ⟨_, List.getElem?_eq_getElem (by omega)⟩
      obtain ⟨di, hdi⟩ : ∃ di, di = dss[i] := ⟨_, rfl⟩
      have edi : dss[i]? = some di := by rw [hdi]; exact List.getElem?_eq_getElem hid
      have bi := bd di (by rw [hdi]; exact List.getElem_mem hid)
      obtain ⟨p, vs, ep, hp, dp⟩ := ra.2 i _ di (List.getElem?_eq_getElem hi) edi
      have hp' := s' _ _ hp
      have O'' : Own G' H2 ([(D, HO.lst []), (q, HO.lst (M.map fun l => V.ref l.1))] ++ (E2 M ++ X)) := O'
      have gm : ∀ {G7 H7 : Hp}, Own G7 H7 ((D, HO.lst []) :: ([(q, HO.lst (M.map fun l => V.ref l.1))] ++ (E2 M ++ X))) → H7 m.1 = some (.lst m.2) := fun O7 => e2_in (A := [(D, HO.lst []), (q, HO.lst (M.map fun l => V.ref l.1))]) O7 (List.mem_of_getElem? em)
      walk_at "s"
      rw [Int.zero_add]
      refine x_ixl (v := .ref m.1) (SqL.of O'.at1) (atI_nat (by rw [List.getElem?_map, em]; rfl)) ?_
      by_cases hia : i = a
      · subst hia
        rw [Mat] at em
        cases em
        have edd : di = da := by rw [hdi, hda]
        have dt1 : Dt K H2 (.ref l.1) (.list (.none :: (da ++ [.str "more"]))) := by
          refine .lst (SqL.of (gm O')) (.cons .non ?_)
          exact dtl_app (dl.mono (fun a o e => O'.sub a o (s' a o e))) (.cons (.str _) .nil)
        walk_at "s"
        refine x_reprB dt1 (alone_bd ba.2 ba.1) (by decide) (by decide) ?_
        walk_at "s"
        refine x_eq rfl ?_
        rw [decide_eq_true (rfl : V.int (i : Nat) = V.int (i : Nat))]
        walk_at "s"
        refine ⟨by show 1 ≤ sizeLine; decide, x_fix O' fun p1 G1 H1 s1 O1 e1 => ?_⟩
        walk_at "s"
        refine x_ixl (v := .ref p) (SqL.of (O1.sub _ _ ((s'.trans s1) _ _ hr))) (atI_nat (by rw [List.getElem?_eq_getElem hi, ep])) ?_
        have lvs : vs.length ≤ 4000 := by rw [dp.length]; exact bi.1
        refine x_addl (O1.sub _ _ e1) (O1.sub _ _ (s1 _ _ hp')) (sz20 (by show 1 + vs.length ≤ _; omega)) (x_fix O1 fun p2 G2 H2' s2 O2 e2 => ?_)
        walk_at "s"
        refine ⟨by show 1 ≤ sizeLine; decide, x_fix O2 fun p3 G3 H3 s3 O3 e3 => ?_⟩
        refine x_addl (O3.sub _ _ (s3 _ _ e2)) (O3.sub _ _ e3) (sz20 (by rw [List.length_append]; show (1 + vs.length) + 1 ≤ _; omega)) (x_fix O3 fun p4 G4 H4' s4 O4' e4 => ?_)
        have s04 := s'.trans (s1.trans (s2.trans (s3.trans s4)))
        have dt2 : Dt K G4 (.ref p4) (.list (.none :: (da ++ [.str "more"]))) := by
          refine .lst (SqL.of e4) ?_
          show DtL K G4 ((V.non :: vs) ++ [V.str "more"]) _
          refine .cons .non ?_
          rw [← edd]
          exact dtl_app (dp.mono s04) (.cons (.str _) .nil)
        walk_at "s"
        refine x_reprB (O4'.dt dt2) (alone_bd ba.2 ba.1) (by decide) (by decide) ?_
        refine x_ne rfl ?_
        rw [decide_eq_true (rfl : V.str (PyData.shown (.list (.none :: (da ++ [.str "more"])))) = V.str (PyData.shown (.list (.none :: (da ++ [.str "more"])))))]
        refine ⟨false, rfl, ite_f ?_⟩
        exact ⟨G4, _, [], s04, O4', rfl, rfl⟩
      · have em2 := em
        rw [Mne i hia] at em2
        have dm := tl.2 i m di em2 edi
        have dt1 : Dt K H2 (.ref m.1) (.list di) := .lst (SqL.of (gm O')) (dm.mono (fun a o e => O'.sub a o (s' a o e)))
        walk_at "s"
        refine x_reprB dt1 (rows_lst_bd bi.2 bi.1) (by decide) (by decide) ?_
        walk_at "s"
        refine x_eq rfl ?_
        rw [decide_eq_false (fun e : V.int (i : Nat) = V.int (a : Nat) => hia (by have := V.int.inj e; omega))]
        walk_at "s"
        refine x_ixl (v := .ref p) (SqL.of (O'.sub _ _ (s' _ _ hr))) (atI_nat (by rw [List.getElem?_eq_getElem hi, ep])) ?_
        walk_at "s"
        refine x_reprB (O'.dt (.lst (SqL.of hp') (dp.mono s'))) (rows_lst_bd bi.2 bi.1) (by decide) (by decide) ?_
        refine x_ne rfl ?_
        rw [decide_eq_true (rfl : V.str (PyData.shown (.list di)) = V.str (PyData.shown (.list di)))]
        refine ⟨false, rfl, ite_f ?_⟩
        exact ⟨G', _, [], s', O', rfl, rfl⟩
    · rintro G' H' D L' acc s' O' ⟨rfl, rfl⟩
      walk_at "s"
      refine ⟨by show 0 ≤ sizeLine; decide, x_fix O' fun p1 G1 H1 s1 O1 e1 => ?_⟩
      refine x_eqN (SqL.of O1.at0) (SqL.of (O1.sub _ _ e1)) ?_
      exact qq G1 H1 (s'.trans s1) (Own.dropA (A := E2 M) (O1.tail).tail)
abbrev s__law_doubled : Stmt := top 62
theorem sc__law_doubled : FnScope ["box", "standings", "at", "names", "fresh", "name", "item"] ["box", "standings"] (defScope s__law_doubled) := ⟨rfl, rfl, rfl, by decide +kernel, rfl, by decide +kernel, by decide +kernel⟩
def sp_dbl (K : PySem.W.Frag) : Sp := fun vs H Q _ => ∃ (G : Hp) (R : List (Addr × HO)) (b sp : Addr) (N : Nat) (xs : List V) (kn : List Str) (ss : List Sd) (bx : List V), vs = [.ref b, .ref sp] ∧ Own G H ((b, .lst bx) :: R) ∧ G sp = some (.lst xs) ∧ DtL K G xs (ss.map (dSd true)) ∧ StOk kn ss ∧ ss.length ≤ 6 ∧ Box (N + 9) bx ∧
  ∀ (G' H' : Hp) (t p : Addr) (xs' : List V) (a : Nat) (nm' : Str) (sd : Sd) bx', Same G G' → G' t = some (.tup [.ref p, .int (a : Nat)]) → G' p = some (.lst xs') → ss[a]? = some sd → DtL K G' xs' ((ss ++ [(⟨nm', sd.st, sd.cs⟩ : Sd)]).map (dSd true)) → StOk kn (ss ++ [(⟨nm', sd.st, sd.cs⟩ : Sd)]) → Own G' H' ((b, .lst bx') :: R) → Box N bx' → Q (.ref t) H'
abbrev wFresh : List Str := ["twin", "if", "qqqqqqqq", "z", "say", "other", "both", "zq"]
theorem fresh_wd : ∀ x ∈ wFresh, Wd x := fun x hx => by
  have e : ∀ x ∈ wFresh, (1 ≤ x.length ∧ x.length ≤ 8) ∧ ∀ c ∈ x.cps.toList, 97 ≤ c ∧ c ≤ 122 := by decide +kernel
  obtain ⟨⟨h1, h2⟩, h3⟩ := e x hx
  exact ⟨h1, h2, h3⟩
theorem fresh_nd : wFresh.Nodup := by decide +kernel
theorem st_snoc {kn : List Str} {ss : List Sd} {a : Nat} {sd : Sd} {x : Str} (ok : StOk kn ss) (l : ss.length ≤ 19000) (e : ss[a]? = some sd) (hx : Wd x) (hn : x ∉ ss.map (·.nm)) : StOk kn (ss ++ [(⟨x, sd.st, sd.cs⟩ : Sd)]) := by
  have nd : ((ss ++ [(⟨x, sd.st, sd.cs⟩ : Sd)]).map (·.nm)).Nodup := by
    rw [List.map_append]
    exact List.nodup_append.mpr ⟨ok.nd, by simp, fun y hy z hz e => hn (by rw [List.map_singleton, List.mem_singleton] at hz; have hz : z = x := hz; rw [← hz, ← e]; exact hy)⟩
  have room : ∀ y ∈ ss.map (·.nm), roomS (ss ++ [⟨x, sd.st, sd.cs⟩]) y = roomS ss y := fun y hy => by
    obtain ⟨s, hs, rfl⟩ := List.mem_map.mp hy
    rw [roomS_of nd (List.mem_append_left _ hs), roomS_of ok.nd hs]
  have cs : ∀ {st : List Str} {c : Cs}, CsOk kn ss st c → CsOk kn (ss ++ [⟨x, sd.st, sd.cs⟩]) st c := fun h => ⟨h.ml, h.mm, h.wd, by rw [List.map_append]; exact List.mem_append_left _ h.gl, by rw [room _ h.gl]; exact h.sl, h.sr⟩
  have sok := ok.sd sd (List.mem_of_getElem? e)
  have o1 := ok.l1
  refine ⟨by rw [List.length_append]; omega, by rw [List.length_append]; simp; omega, nd, fun s hs => ?_, fun s es => ok.first s ?_⟩
  · rcases List.mem_append.mp hs with h | h
    · have so := ok.sd s h
      exact ⟨so.wd, so.sl, so.sn, so.sd, so.c1, so.c130, fun c hc => cs (so.cs c hc), so.last⟩
    · rw [List.mem_singleton.mp h]
      exact ⟨hx, sok.sl, sok.sn, sok.sd, sok.c1, sok.c130, fun c hc => cs (sok.cs c hc), sok.last⟩
  · rw [List.getElem?_append_left (by omega)] at es
    exact es
theorem ok_dbl {f : Addr} {fd : FuncData} (F : Fun K "_law_doubled" "_law_doubled" s__law_doubled f fd) (B : Btt mg) (C__law_take : Cal P w K mg base k "_law_take" ["box", "many"] sp_take) (C__law_mixed : Cal P w K mg base k "_law_mixed" ["box", "items"] (sp_mix K)) : FnG P w K mg base (k + 1) f fd ["box", "standings"] (sp_dbl K) := by
  refine fnG_of F sc__law_doubled (fun vs H Q E h => ?_) (fun cdv A outer s H vs Q E r h => ?_)
  · obtain ⟨_, _, _, _, _, _, _, _, _, rfl, _⟩ := h
    rfl
  · obtain ⟨G, R, b, sp, N, xs, kn, ss, bx, rfl, O, hsp, hx, ok, l6, bo, q⟩ := h
    refine ⟨_, (pss_cons (ps_asg (d_tup (pa_cons (g_call C__law_take r (by rfl) passL (pa_cons (pv 0) (pa_cons (pe_callB (cLenK (K := K) rfl) (by rfl) B.len (by decide +kernel) (pa_cons (pv 1) pa_nil)) pa_nil))) (pa_cons (pe_lc (own := [("item", 6)]) rfl sc__law_doubled.nd (pi_sqK (K := K) rfl (pv 1)) (blkOk_by (N := ["box", "standings", "at", "names", "fresh", "name", "item"]) (sc := defScope s__law_doubled) (by decide +kernel)) (fun _ _ _ _ _ => (pg_name (i := 6) sc__law_doubled.nd rfl (Or.inl rfl))) (fun _ _ _ _ _ => pts_nil) (fun _ _ _ _ _ => (pe_ix (ixK (K := K) rfl) (pv 6) pe_int (fun _ _ => rfl)))) pa_nil))) (pg_tupK (K := K) (n := 2) rfl rfl (pgs_cons (pg_name (i := 2) sc__law_doubled.nd rfl (Or.inl rfl)) (pgs_cons (pg_name (i := 3) sc__law_doubled.nd rfl (Or.inr rfl)) pgs_nil))))
       (pss_cons (ps_setLc (i := 4) (own := [("name", 5)]) rfl sc__law_doubled.nd rfl rfl (sw_true rfl rfl rfl (by decide +kernel)) (pi_sqK (K := K) rfl (g_call C__law_mixed r (by rfl) passL (pa_cons (pv 0) (pa_cons (d_lst (pa_cons pe_str (pa_cons pe_str (pa_cons pe_str (pa_cons pe_str (pa_cons pe_str (pa_cons pe_str (pa_cons pe_str (pa_cons pe_str pa_nil))))))))) pa_nil)))) (blkOk_by (N := ["box", "standings", "at", "names", "fresh", "name", "item"]) (sc := defScope s__law_doubled) (by decide +kernel)) (fun _ _ _ _ _ => (pg_name (i := 5) sc__law_doubled.nd rfl (Or.inl rfl))) (fun _ _ _ _ _ => (pts_one (pt_cmpR (oNinK (K := K) rfl) (pv 5) (pv 3) (by rfl)))) (fun _ _ _ _ _ => (pv 5)))
       (pss_one (ps_ret (d_tup (pa_cons (pe_op (oAddK (K := K) rfl) (pv 1) (d_lst (pa_cons (d_tup (pa_cons (pe_ix (ixK (K := K) rfl) (pv 4) pe_int (fun _ _ => rfl)) (pa_cons (pe_ix (ixK (K := K) rfl) (pe_ix (ixK (K := K) rfl) (pv 1) (pv 2) (fun _ _ => rfl)) pe_int (fun _ _ => rfl)) (pa_cons (pe_ix (ixK (K := K) rfl) (pe_ix (ixK (K := K) rfl) (pv 1) (pv 2) (fun _ _ => rfl)) pe_int (fun _ _ => rfl)) pa_nil)))) pa_nil))) (pa_cons (pv 2) pa_nil))))))), ?_⟩
    try dsimp only [cxOf]
    refine x_start (σ' := [some _, some _, none, none, none, none, none]) rfl ?_
    have lx : xs.length = ss.length := by rw [hx.length, List.length_map]
    have o1 := ok.l1
    walk_at "s"
    refine x_lenl (SqL.of (O.sub _ _ hsp)) ?_
    rw [lx]
    refine ⟨G, R, b, ((ss.length : Nat) : Int), N + 8, bx, rfl, O, bo, by omega, by omega, fun H1 r1 b1 r10 r11 O1 B1 => ?_⟩
    obtain ⟨a, rfl⟩ := Int.eq_ofNat_of_zero_le r10
    obtain ⟨sd, es⟩ : ∃ sd, ss[a]? = some sd := ⟨_, List.getElem?_eq_getElem (by omega)⟩
    walk_at "s"
    refine x_sqL (SqL.of (O1.sub _ _ hsp)) ?_
    refine lc_map (by walk_at "n") walk_list O1 (by omega) (fun _ i y => ((ss.map (·.nm)).map V.str)[i]? = some y) (fun _ _ _ _ _ z => z) (fun G' H' D acc s' O' => SqL.of (O'.sub _ _ (s' _ _ hsp))) ?_ gm_name ?_
    · rintro i x G' H' H2' D acc hi s' O' ⟨rfl, ex⟩ kk
      obtain ⟨s0, es0, hs0⟩ := dtl_mapAt hx ex
      obtain ⟨c, v2, v3, rfl, hb, h2, h3⟩ := dt_sd hs0
      walk_at "s"
      refine x_ixt (v := .str s0.nm) (O'.set (same_t s' hb)) rfl ?_
      exact kk _ _ _ (Same.refl _) O' (by rw [List.getElem?_map, List.getElem?_map, es0]; rfl)
    intro G2 H2 np ys s2 O2 e2 l2 r2
    obtain rfl := ext_map (by rw [l2, lx, List.length_map, List.length_map]) r2
    walk_at "s"
    refine ⟨by show 2 ≤ sizeLine; decide, x_fix O2 fun p3 G3 H3 s3 O3 e3 => ?_⟩
    refine x_gT (SqT.of (O3.sub _ _ e3)) rfl ?_
    refine x_gC ?_
    walk_at "n1"
    refine x_gC ?_
    walk_at "n1"
    refine x_gNl ?_
    walk_at "s"
    refine ⟨by show 8 ≤ sizeLine; decide, x_fix O3 fun p4 G4 H4 s4 O4 e4 => ?_⟩
    have e4 : G4 p4 = some (.lst (wFresh.map V.str)) := e4
    refine ⟨G4, R, b, p4, wFresh.map V.str, N, b1, rfl, O4, SqL.of e4, B1.le (by show N + 8 ≤ N + 8; omega), by decide, fun G5 H5 p5 ym b5 s5 pm e5 O5 B5 => ?_⟩
    obtain ⟨zs, rfl, pz⟩ := perm_mapf pm
    have lz : zs.length = 8 := pz.length_eq
    have s25 := s3.trans (s4.trans s5)
    walk_at "s"
    refine x_sqL (SqL.of (O5.sub _ _ e5)) ?_
    refine lc_filt (by walk_at "n") walk_list (fun _ _ _ _ _ z => z) O5 (by rw [List.length_map]; omega) (fun x => match x with | .str z => !(ss.map (·.nm)).contains z | _ => false) (fun G' H' D acc s' O' => SqL.of (O'.sub _ _ (s' _ _ e5))) ?_ ?_
    · intro i x G' H' D acc hi ex s' O' ky kn'
      obtain ⟨y, rfl, ey⟩ := txt_at ex
      walk_at "s"
      refine x_ninS (ts := ss.map (·.nm)) (.inl (SqL.of (O'.sub _ _ ((s25.trans s') _ _ e2)))) ?_
      cases c : (ss.map (·.nm)).contains y with
      | true => exact ⟨false, rfl, ite_f (kn' _ _ (Same.refl _) O' (by show (!(ss.map (·.nm)).contains y) = false; rw [c]; rfl))⟩
      | false => exact ⟨true, rfl, ite_t (ky _ _ _ (Same.refl _) O' (by show (!(ss.map (·.nm)).contains y) = true; rw [c]; rfl) rfl)⟩
    intro G6 H6 p6 s6 O6 e6
    rw [filt_str (p' := fun z => !(ss.map (·.nm)).contains z) fun _ => rfl] at e6
    obtain ⟨fr, hfr⟩ : ∃ fr, fr = zs.filter fun z => !(ss.map (·.nm)).contains z := ⟨_, rfl⟩
    rw [← hfr] at e6
    have ne : fr ≠ [] := fun e => by
      rw [hfr] at e
      have all : ∀ z ∈ zs, z ∈ ss.map (·.nm) := fun z hz => by
        have := List.filter_eq_nil_iff.mp e z hz
        simpa using this
      have := nd_len (ys := ss.map (·.nm)) (pz.nodup_iff.mpr fresh_nd) all
      rw [lz, List.length_map] at this
      omega
    match fr, ne, hfr, e6 with
    | f0 :: fr, _, hfr, e6 =>
    have hf0 : f0 ∈ zs ∧ f0 ∉ ss.map (·.nm) := by
      have : f0 ∈ zs.filter fun z => !(ss.map (·.nm)).contains z := by rw [← hfr]; exact List.mem_cons_self
      obtain ⟨h1, h2⟩ := List.mem_filter.mp this
      exact ⟨h1, fun z => by rw [List.contains_iff_mem.mpr z] at h2; cases h2⟩
    have s26 := s25.trans s6
    have s06 := s2.trans s26
    obtain ⟨x0, ex0, hs0⟩ := dtl_mapGet hx es
    obtain ⟨c, v2, v3, rfl, hb, h2, h3⟩ := dt_sd hs0
    walk_at "s"
    refine x_ixl (v := .str f0) (SqL.of (O6.sub _ _ e6)) (by show atI _ ((0 : Nat) : Int) = _; exact atI_nat rfl) ?_
    walk_at "s"
    refine x_ixl (v := .ref c) (SqL.of (O6.sub _ _ (s06 _ _ hsp))) (atI_nat ex0) ?_
    walk_at "s"
    refine x_ixt (v := v2) (O6.set (same_t s06 hb)) rfl ?_
    walk_at "s"
    refine x_ixl (v := .ref c) (SqL.of (O6.sub _ _ (s06 _ _ hsp))) (atI_nat ex0) ?_
    walk_at "s"
    refine x_ixt (v := v3) (O6.set (same_t s06 hb)) rfl ?_
    walk_at "s"
    refine ⟨by show 3 ≤ sizeLine; decide, x_fix O6 fun p7 G7 H7 s7 O7 e7 => ?_⟩
    walk_at "s"
    refine ⟨by show 1 ≤ sizeLine; decide, x_fix O7 fun p8 G8 H8 s8 O8 e8 => ?_⟩
    have s08 := s06.trans (s7.trans s8)
    refine x_addl (O8.sub _ _ (s08 _ _ hsp)) (O8.sub _ _ e8) (sz20 (by show xs.length + 1 ≤ _; omega)) (x_fix O8 fun p9 G9 H9 s9 O9 e9 => ?_)
    walk_at "s"
    refine ⟨by show 2 ≤ sizeLine; decide, x_fix O9 fun pa Ga Ha sa Oa ea => ?_⟩
    have s0a := s08.trans (s9.trans sa)
    refine q Ga Ha pa p9 _ a f0 sd b5 s0a ea (sa _ _ e9) es ?_ (st_snoc ok (by omega) es (fresh_wd _ (pz.mem_iff.mp hf0.1)) hf0.2) Oa B5
    rw [List.map_append]
    exact dtl_snoc (hx.mono s0a) (.tup (SqT.of ((s8.trans (s9.trans sa)) _ _ e7)) (.cons (.str _) (.cons (h2.mono s0a) (.cons (h3.mono s0a) .nil))))
end
end
section
open PySem PySem.Spec PyProof.Rows L2 G
set_option maxHeartbeats 4000000
local macro_rules | `(tactic| walk_at "s1") => `(tactic| with_reducible first | refine x_callW ?_ | refine x_callRW ?_ | refine x_callR ?_)
theorem cntS_snoc {n : Nat} {ss : List Sd} {s : Sd} : cntS n (ss ++ [s]) = cntS n ss + n ^ s.st.length := by
  unfold cntS
  rw [List.map_append, List.sum_append]
  simp
theorem due_len {kS : List Str} {kn : List Str} {ss : List Sd} {dss : List (List PyData)} (ok : StOk kn ss) (lk : kS.length ≤ 5) (h : DueL kS ss dss) : ∀ ds ∈ dss, ds.length ≤ 4000 := fun ds hds => by
  obtain ⟨i, hi, rfl⟩ := List.getElem_of_mem hds
  have hi2 : i < ss.length := by rw [← h.1]; exact hi
  rw [(h.2 i _ _ (List.getElem?_eq_getElem hi) (List.getElem?_eq_getElem hi2)).1]
  exact Nat.le_trans (allM_le lk (ok.sd _ (List.getElem_mem hi2)).sl) (by decide)
theorem due_rows {W : List (Str × Str)} {kS : List Str} {ss : List Sd} {dss : List (List PyData)} (o : WaysOk W) (ok : StOk (knW W) ss) (l900 : ss.length ≤ 900) (pm : kS.Perm (knW W)) (h : DueL kS ss dss) : ∀ ds ∈ dss, ds.length ≤ 4000 ∧ ∀ d ∈ ds, Bd 2 130 d := fun ds hds => by
  refine ⟨due_len ok (by rw [pm.length_eq]; exact knW_len o) h ds hds, ?_⟩
  obtain ⟨i, hi, rfl⟩ := List.getElem_of_mem hds
  have hi2 : i < ss.length := by rw [← h.1]; exact hi
  exact rows_bd o ok l900 pm (List.getElem_mem hi2) (h.2 i _ _ (List.getElem?_eq_getElem hi) (List.getElem?_eq_getElem hi2))
theorem cmp_use {K : PySem.W.Frag} {CP CM : Addr} {G H : Hp} {X : List (Addr × HO)} {p : Addr} {W : List (Str × Str)} {ss : List Sd} {kS : List Str} {dss : List (List PyData)} {Q : VK} {E : XK} (pg : Prg K CP G p W ss) (O : Own G H X) (hc : cntS (knW W).length ss ≤ 20000) (pm : kS.Perm (knW W)) (sS : sortedS kS = true) (du : DueL kS ss dss)
    (k : ∀ (G' H' : Hp) (q : Addr) (Ls : List (Addr × List V)), Same G G' → Own G' H' ((q, .lst (Ls.map fun l => V.ref l.1)) :: (E2 Ls ++ X)) → TL K G' Ls dss → Q (.ref q) H') : sp_cmp K CP CM [.ref p] H Q E := by
  refine ⟨G, X, p, W, ss, rfl, O, pg, fun _ G' H' q Ls kS' pm' sS' s' O' hl hr => ?_, fun h => absurd h (by omega)⟩
  have ek : kS' = kS := sorted_one sS' sS (pm'.trans pm.symm)
  subst ek
  refine k G' H' q Ls s' O' ⟨by rw [hl, du.1], fun i l ds e1 e2 => ?_⟩
  have hi : i < ss.length := by rw [← hl]; exact (List.getElem?_eq_some_iff.mp e1).1
  obtain ⟨ds', h1, h2⟩ := hr i l _ e1 (List.getElem?_eq_getElem hi)
  rw [h2.uniq (du.2 i ds _ e2 (List.getElem?_eq_getElem hi))] at h1
  exact h1
theorem list_choose {α : Type} {Φ : Nat → α → Prop} : ∀ (n : Nat), (∀ i, i < n → ∃ x, Φ i x) → ∃ xs : List α, xs.length = n ∧ ∀ (i : Nat) (x : α), xs[i]? = some x → Φ i x
  | 0, _ => ⟨[], rfl, fun i x e => by simp at e⟩
  | n + 1, h => by
    obtain ⟨xs, h1, h2⟩ := list_choose n fun i hi => h i (by omega)
    obtain ⟨x, hx⟩ := h n (by omega)
    refine ⟨xs ++ [x], by rw [List.length_append, h1]; rfl, fun i y e => ?_⟩
    rcases Nat.lt_trichotomy i xs.length with hi | hi | hi
    · rw [List.getElem?_append_left hi] at e
      exact h2 i y e
    · subst hi
      rw [List.getElem?_append_right (Nat.le_refl _), Nat.sub_self] at e
      cases e
      rw [h1]
      exact hx
    · rw [List.getElem?_eq_none (by rw [List.length_append]; simp; omega)] at e
      cases e
theorem cmp_own {K : PySem.W.Frag} {CP CM : Addr} {G H : Hp} {X : List (Addr × HO)} {p : Addr} {W : List (Str × Str)} {ss : List Sd} {Q : VK} {E : XK} (pg : Prg K CP G p W ss) (O : Own G H X) (hc : cntS (knW W).length ss ≤ 20000)
    (k : ∀ (G' H' : Hp) (q : Addr) (Ls : List (Addr × List V)) (kS : List Str) (dss : List (List PyData)), kS.Perm (knW W) → sortedS kS = true → DueL kS ss dss → Same G G' → Own G' H' ((q, .lst (Ls.map fun l => V.ref l.1)) :: (E2 Ls ++ X)) → TL K G' Ls dss → Q (.ref q) H') : sp_cmp K CP CM [.ref p] H Q E := by
  refine ⟨G, X, p, W, ss, rfl, O, pg, fun _ G' H' q Ls kS pm sS s' O' hl hr => ?_, fun h => absurd h (by omega)⟩
  obtain ⟨dss, h1, h2⟩ := list_choose (Φ := fun i ds => ∀ (l : Addr × List V) (s : Sd), Ls[i]? = some l → ss[i]? = some s → DtL K G' l.2 ds ∧ RowsC kS ss s ds) ss.length fun i hi => by
    obtain ⟨ds, a, b⟩ := hr i _ _ (List.getElem?_eq_getElem (by omega)) (List.getElem?_eq_getElem hi)
    exact ⟨ds, fun l s e1 e2 => by
      rw [List.getElem?_eq_getElem (by omega)] at e1
      rw [List.getElem?_eq_getElem hi] at e2
      cases e1
      cases e2
      exact ⟨a, b⟩⟩
  refine k G' H' q Ls kS dss pm sS ⟨h1, fun i ds s e1 e2 => ?_⟩ s' O' ⟨by rw [hl, h1], fun i l ds e1 e2 => ?_⟩
  · have hi : i < Ls.length := by rw [hl]; exact (List.getElem?_eq_some_iff.mp e2).1
    exact (h2 i ds e1 _ s (List.getElem?_eq_getElem hi) e2).2
  · have hi : i < ss.length := by rw [← hl]; exact (List.getElem?_eq_some_iff.mp e1).1
    exact (h2 i ds e2 l _ e1 (List.getElem?_eq_getElem hi)).1
theorem TL.lens {K : PySem.W.Frag} {G : Hp} {Ls : List (Addr × List V)} {dss : List (List PyData)} {n : Nat} (h : TL K G Ls dss) (hl : ∀ ds ∈ dss, ds.length ≤ n) : ∀ l ∈ Ls, l.2.length ≤ n := fun l hm => by
  obtain ⟨i, hi, rfl⟩ := List.getElem_of_mem hm
  have hi2 : i < dss.length := by rw [← h.1]; exact hi
  rw [(h.2 i _ _ (List.getElem?_eq_getElem hi) (List.getElem?_eq_getElem hi2)).length]
  exact hl _ (List.getElem_mem hi2)
/-- the last standing with its last case alone, another word -/
theorem st_last {kn : List Str} {ss : List Sd} {tw : Sd} {c c' : Cs} (ok : StOk kn (ss ++ [tw])) (e : tw.cs[tw.cs.length - 1]? = some c) (h1 : c'.ms = c.ms) (h2 : Wd c'.wd) (h3 : c'.gl = c.gl) (h4 : c'.sr = c.sr) : StOk kn (ss ++ [(⟨tw.nm, tw.st, [c']⟩ : Sd)]) := by
  have en : (ss ++ [(⟨tw.nm, tw.st, [c']⟩ : Sd)]).map (·.nm) = (ss ++ [tw]).map (·.nm) := by rw [List.map_append, List.map_append]; rfl
  have nd : ((ss ++ [(⟨tw.nm, tw.st, [c']⟩ : Sd)]).map (·.nm)).Nodup := by rw [en]; exact ok.nd
  have room : ∀ y ∈ (ss ++ [tw]).map (·.nm), roomS (ss ++ [(⟨tw.nm, tw.st, [c']⟩ : Sd)]) y = roomS (ss ++ [tw]) y := fun y hy => by
    obtain ⟨s, hs, rfl⟩ := List.mem_map.mp hy
    rcases List.mem_append.mp hs with h | h
    · rw [roomS_of nd (List.mem_append_left _ h), roomS_of ok.nd hs]
    · have h := List.mem_singleton.mp h
      subst h
      rw [roomS_of ok.nd hs]
      exact roomS_of nd (s := ⟨s.nm, s.st, [c']⟩) (List.mem_append_right _ (List.mem_singleton_self _))
  have cs : ∀ {st : List Str} {c : Cs}, CsOk kn (ss ++ [tw]) st c → CsOk kn (ss ++ [(⟨tw.nm, tw.st, [c']⟩ : Sd)]) st c := fun h => ⟨h.ml, h.mm, h.wd, by rw [en]; exact h.gl, by rw [room _ h.gl]; exact h.sl, h.sr⟩
  have ts := ok.sd tw (List.mem_append_right _ (List.mem_singleton_self _))
  have o2 := ok.l2
  rw [List.length_append] at o2
  refine ⟨by rw [List.length_append]; simp, by rw [List.length_append]; exact o2, nd, fun s hs => ?_, fun s es => ?_⟩
  · rcases List.mem_append.mp hs with h | h
    · have so := ok.sd s (List.mem_append_left _ h)
      exact ⟨so.wd, so.sl, so.sn, so.sd, so.c1, so.c130, fun c hc => cs (so.cs c hc), so.last⟩
    · rw [List.mem_singleton.mp h]
      have cok := cs (ts.cs c (List.mem_of_getElem? e))
      refine ⟨ts.wd, ts.sl, ts.sn, ts.sd, Nat.le_refl _, by show 1 ≤ 130; decide, fun d hd => ?_, fun d ed m hm => ?_⟩
      · rw [List.mem_singleton.mp hd]
        exact ⟨by rw [h1]; exact cok.ml, by rw [h1]; exact cok.mm, h2, by rw [h3]; exact cok.gl, by rw [h4, h3]; exact cok.sl, by rw [h4]; exact cok.sr⟩
      · cases ed
        rw [h1] at hm
        exact ts.last c e m hm
  · cases ss with
    | nil => cases es; exact ok.first tw rfl
    | cons s0 ss => exact ok.first s es
theorem dtl_unsnoc {K : PySem.W.Frag} {G : Hp} : ∀ {ds : List PyData} {d : PyData} {xs : List V}, DtL K G xs (ds ++ [d]) → ∃ ini x, xs = ini ++ [x] ∧ DtL K G ini ds ∧ Dt K G x d
  | [], d, _, .cons h .nil => ⟨[], _, rfl, .nil, h⟩
  | e :: ds, d, _, .cons h t => by
    obtain ⟨ini, x, rfl, h1, h2⟩ := dtl_unsnoc t
    exact ⟨_ :: ini, x, rfl, .cons h h1, h2⟩
theorem x_wd1 {x : Str} (h : Wd x) : Wd (wX ++ cutS x (some 1) none) := by
  have h1 := h.l1
  have e1 : HT.sIx x.length 0 (some 1) = 1 := by
    rw [show (1 : Int) = ((1 : Nat) : Int) from rfl, HT.sIx_nat]
    omega
  have hc : (cutS x (some 1) none).cps.toList = x.cps.toList.drop 1 := by
    unfold cutS
    rw [e1, HT.sIx_none]
    exact List.take_of_length_le (by rw [List.length_drop, len_l]; omega)
  have : Lx (x.length - 1) (cutS x (some 1) none) := ⟨by rw [len_l, hc, List.length_drop, ← len_l], fun c hc' => h.let_ c (List.mem_of_mem_drop (by rw [hc] at hc'; exact hc'))⟩
  exact (lx_x.app this).wd (by omega) (by have := h.l8; omega)
section
variable {P : Program} {w : World} {K : PySem.W.Frag} {mg : Str → Option Value} {base : Heap} {k : Nat} {kw C CP D CW CM : Addr}
abbrev s__law_program_right : Stmt := top 64
theorem sc__law_program_right : FnScope ["box", "ways", "standings", "by_name", "at", "program", "due", "near", "name", "seats", "cases", "other", "held", "told", "rows", "spot", "item"] ["box", "ways", "standings", "by_name"] (defScope s__law_program_right) := ⟨rfl, rfl, rfl, by decide +kernel, rfl, by decide +kernel, by decide +kernel⟩
def sp_prr (K : PySem.W.Frag) : Sp := fun vs H Q _ => ∃ (G : Hp) (R : List (Addr × HO)) (b wa sp : Addr) (bn : Bool) (N : Nat) (xs : List V) (W : List (Str × Str)) (ss : List Sd) (bx : List V), vs = [.ref b, .ref wa, .ref sp, .bl bn] ∧ Own G H ((b, .lst bx) :: R) ∧ WyAt G wa W ∧ WaysOk W ∧ G sp = some (.lst xs) ∧ DtL K G xs (ss.map (dSd true)) ∧ StOk (knW W) ss ∧ ss.length ≤ 6 ∧ cntS (knW W).length ss ≤ 706 ∧ Box (N + 9) bx ∧
  ∀ (G' H' : Hp) bx', Same G G' → Own G' H' ((b, .lst bx') :: R) → Box N bx' → Q (.bl true) H'
theorem ok_prr {f : Addr} {fd : FuncData} (F : Fun K "_law_program_right" "_law_program_right" s__law_program_right f fd) (B : Btt mg) (C__law_doubled : Cal P w K mg base (k + 1) "_law_doubled" ["box", "standings"] (sp_dbl K)) (C__law_rows_due : Cal P w K mg base (k + 1) "_law_rows_due" ["ways", "standings"] (sp_rdu K)) (C__law_spoil : Cal P w K mg base (k + 1) "_law_spoil" ["told"] sp_spl) (C__law_alone_right : Cal P w K mg base (k + 1) "_law_alone_right" ["rows", "told", "at"] (sp_aln K))
    (C_compiled : Cal P w K mg base (k + 1) "compiled" ["program"] (sp_cmp K CP CM)) (C_compiled_k : CalR P w K mg base (k + 1) "compiled" ["program"] ["program"] (sp_cmp K CP CM)) (I_Program : In P w K mg base k CP "Program" ["self", "ways", "standings"] (sp_pri K CP)) : FnG P w K mg base (k + 2) f fd ["box", "ways", "standings", "by_name"] (sp_prr K) := by
  refine fnG_of F sc__law_program_right (fun vs H Q E h => ?_) (fun cdv A outer s H vs Q E r h => ?_)
  · obtain ⟨_, _, _, _, _, _, _, _, _, _, _, rfl, _⟩ := h
    rfl
  · obtain ⟨G, R, b, wa, sp, bn, N, xs, W, ss, bx, rfl, O, wy, wo, hsp, hx, ok, l6, cn, bo, q⟩ := h
    refine ⟨_, (pss_cons (ps_asg (g_call C__law_doubled r (by rfl) passL (pa_cons (pv 0) (pa_cons (pv 2) pa_nil))) (pg_tupK (K := K) (n := 2) rfl rfl (pgs_cons (pg_name (i := 2) sc__law_program_right.nd rfl (Or.inl rfl)) (pgs_cons (pg_name (i := 4) sc__law_program_right.nd rfl (Or.inl rfl)) pgs_nil))))
       (pss_cons (ps_par (i := 5) (j := 6) rfl sc__law_program_right.nd rfl rfl (by decide) rfl rfl (pa_cons (g_make I_Program r (by rfl) (takes_of rfl rfl rfl rfl) (pa_cons (pv 1) (pa_cons (pv 2) pa_nil))) (pa_cons (pe_callB (cReprK (K := K) rfl r) (by rfl) B.repr (by decide +kernel) (pa_cons (g_call C__law_rows_due r (by rfl) passL (pa_cons (pv 1) (pa_cons (pv 2) pa_nil))) pa_nil)) pa_nil)) (by rfl))
       (pss_cons (ps_setLc (i := 7) (own := [("item", 16)]) rfl sc__law_program_right.nd rfl rfl (sw_true rfl rfl rfl (by decide +kernel)) (pi_sqK (K := K) rfl (pv 2)) (blkOk_by (N := ["box", "ways", "standings", "by_name", "at", "program", "due", "near", "name", "seats", "cases", "other", "held", "told", "rows", "spot", "item"]) (sc := defScope s__law_program_right) (by decide +kernel)) (fun _ _ _ _ _ => (pg_name (i := 16) sc__law_program_right.nd rfl (Or.inl rfl))) (fun _ _ _ _ _ => pts_nil) (fun _ _ _ _ _ => (pv 16)))
       (pss_cons (ps_asg (pe_ix (ixK (K := K) rfl) (pv 7) (pe_un un_neg pe_int) (fun _ _ => rfl)) (pg_tupK (K := K) (n := 3) rfl rfl (pgs_cons (pg_name (i := 8) sc__law_program_right.nd rfl (Or.inl rfl)) (pgs_cons (pg_name (i := 9) sc__law_program_right.nd rfl (Or.inl rfl)) (pgs_cons (pg_name (i := 10) sc__law_program_right.nd rfl (Or.inl rfl)) pgs_nil)))))
       (pss_cons (ps_asg (d_tup (pa_cons (pv 8) (pa_cons (pv 9) (pa_cons (d_lst (pa_cons (d_tup (pa_cons (pe_ix (ixK (K := K) rfl) (pe_ix (ixK (K := K) rfl) (pv 10) (pe_un un_neg pe_int) (fun _ _ => rfl)) pe_int (fun _ _ => rfl)) (pa_cons (pe_op (oAddK (K := K) rfl) pe_str (pe_slice (oSlK (K := K) rfl) (pe_ix (ixK (K := K) rfl) (pe_ix (ixK (K := K) rfl) (pv 10) (pe_un un_neg pe_int) (fun _ _ => rfl)) pe_int (fun _ _ => rfl)) (po_some pe_int) po_none)) (pa_cons (pe_ix (ixK (K := K) rfl) (pe_ix (ixK (K := K) rfl) (pv 10) (pe_un un_neg pe_int) (fun _ _ => rfl)) pe_int (fun _ _ => rfl)) (pa_cons (pe_ix (ixK (K := K) rfl) (pe_ix (ixK (K := K) rfl) (pv 10) (pe_un un_neg pe_int) (fun _ _ => rfl)) pe_int (fun _ _ => rfl)) pa_nil))))) pa_nil)) pa_nil)))) (pg_sub (pv 7) (pe_un un_neg pe_int) sSet))
       (pss_cons (ps_set (i := 11) sc__law_program_right.nd rfl (Or.inl rfl) (g_make I_Program r (by rfl) (takes_of rfl rfl rfl rfl) (pa_cons (pv 1) (pa_cons (pe_callTy (cListK (K := K) rfl) (by rfl) B.list (by decide +kernel) (pa_cons (pv 7) pa_nil)) pa_nil))))
       (pss_cons (ps_set (i := 12) sc__law_program_right.nd rfl (Or.inl rfl) (g_call C_compiled r (by rfl) passL (pa_cons (pv 5) pa_nil)))
       (pss_cons (ps_set (i := 13) sc__law_program_right.nd rfl (Or.inl rfl) (pe_ifExp (pt_truK (K := K) rfl (pv 3)) (g_callR C_compiled_k r (by rfl) passL (pk_cons (pv 5) pk_nil)) (g_call C_compiled r (by rfl) passL (pa_cons (pv 5) pa_nil))))
       (pss_cons (ps_if (pt_cmpR (oNeK (K := K) rfl r) (pe_callB (cReprK (K := K) rfl r) (by rfl) B.repr (by decide +kernel) (pa_cons (pv 13) pa_nil)) (pv 6) (nomark _))
       (pss_one (ps_ret pe_bl))
       pss_nil)
       (pss_cons (ps_expr (g_call C__law_spoil r (by rfl) passL (pa_cons (pv 13) pa_nil)))
       (pss_cons (ps_if (PW.pt (pw_or (pt_cmpR (oNeK (K := K) rfl r) (pe_callB (cReprK (K := K) rfl r) (by rfl) B.repr (by decide +kernel) (pa_cons (g_call C_compiled r (by rfl) passL (pa_cons (pv 11) pa_nil)) pa_nil)) (pe_callB (cReprK (K := K) rfl r) (by rfl) B.repr (by decide +kernel) (pa_cons (g_call C__law_rows_due r (by rfl) passL (pa_cons (pv 1) (pa_cons (pv 7) pa_nil))) pa_nil)) (nomark _)) (pw_or1 (pt_cmpR (oNeK (K := K) rfl r) (pe_callB (cReprK (K := K) rfl r) (by rfl) B.repr (by decide +kernel) (pa_cons (g_call C_compiled r (by rfl) passL (pa_cons (pv 5) pa_nil)) pa_nil)) (pv 6) (nomark _)))))
       (pss_one (ps_ret pe_bl))
       pss_nil)
       (pss_cons (ps_set (i := 14) sc__law_program_right.nd rfl (Or.inl rfl) (g_call C__law_rows_due r (by rfl) passL (pa_cons (pv 1) (pa_cons (pv 2) pa_nil))))
       (pss_cons (ps_for (passes_of rfl) rfl (pi_sqK (K := K) rfl (d_lst (pa_cons (pv 4) (pa_cons (pe_op op_sub (pe_callB (cLenK (K := K) rfl) (by rfl) B.len (by decide +kernel) (pa_cons (pv 2) pa_nil)) pe_int) pa_nil)))) (pg_name (i := 15) sc__law_program_right.nd rfl (Or.inl rfl))
       (pss_one (ps_if (pt_not (pt_truK (K := K) rfl (g_call C__law_alone_right r (by rfl) passL (pa_cons (pv 14) (pa_cons (g_call C_compiled r (by rfl) passL (pa_cons (pv 5) pa_nil)) (pa_cons (pv 15) pa_nil))))))
       (pss_one (ps_ret pe_bl))
       pss_nil)))
       (pss_one (ps_ret (pe_cmpR (oEqK (K := K) rfl r) (pe_callB (cReprK (K := K) rfl r) (by rfl) B.repr (by decide +kernel) (pa_cons (pv 12) pa_nil)) (pv 6) (nomark _))))))))))))))))), ?_⟩
    try dsimp only [cxOf]
    refine x_start (σ' := [some _, some _, some _, some _, none, none, none, none, none, none, none, none, none, none, none, none, none]) rfl ?_
    walk_at "s"
    refine ⟨G, R, b, sp, N, xs, knW W, ss, bx, rfl, O, hsp, hx, ok, l6, bo, fun G1 H1 t1 p1 xs1 a nm' sd b1 s1 et1 ep1 es hx1 ok1 O1 B1 => ?_⟩
    obtain ⟨tw, htw⟩ : ∃ tw : Sd, tw = ⟨nm', sd.st, sd.cs⟩ := ⟨_, rfl⟩
    rw [← htw] at hx1 ok1
    obtain ⟨ss2, hss2⟩ : ∃ ss2, ss2 = ss ++ [tw] := ⟨_, rfl⟩
    have kl5 := knW_len wo
    have tw5 : tw.st.length ≤ 5 := (ok1.sd tw (List.mem_append_right _ (List.mem_singleton_self _))).sl
    have cn2 : cntS (knW W).length ss2 ≤ 4000 := by
      rw [hss2, cntS_snoc]
      have := pow_le5 kl5 tw5
      omega
    have l2 : ss2.length = ss.length + 1 := by rw [hss2, List.length_append]; rfl
    refine x_gT (SqT.of (O1.sub _ _ et1)) rfl ?_
    refine x_gC ?_
    walk_at "n1"
    refine x_gC ?_
    walk_at "n1"
    refine x_gNl ?_
    walk_at "s"
    refine x_make O1 fun yp dx H2 O2 => ?_
    have dt1 : Dt K G1 (.ref p1) (dSt true ss2) := .lst (SqL.of ep1) (by rw [hss2]; exact hx1)
    refine ⟨G1, _, yp, dx, wa, .ref p1, W, ss2, rfl, O2, wy.same s1, wo, dt1, by rw [hss2]; exact ok1, fun G3 H3 s3 O3 pg => ⟨rfl, ?_⟩⟩
    walk_at "s"
    refine ⟨G3, _, wa, .ref p1, W, ss2, rfl, O3, wy.same (s1.trans s3), wo, dt1.mono s3, by rw [hss2]; exact ok1, fun G4 H4 p4 xs4 kS dss s4 O4 pm sS e4 ra du => ?_⟩
    have ok2 : StOk (knW W) ss2 := by rw [hss2]; exact ok1
    have bd2 := due_bd wo ok2 (by omega) pm du cn2
    walk_at "s"
    refine x_reprB (O4.dt (.lst (SqL.of e4) ra.dt)) bd2 (by decide) (by decide) ?_
    obtain ⟨due, hdue⟩ : ∃ due, due = PyData.shown (.list (dss.map .list)) := ⟨_, rfl⟩
    rw [← hdue]
    walk_at "s"
    have s13 := s3.trans s4
    refine x_sqL (SqL.of (O4.sub _ _ (s13 _ _ ep1))) ?_
    have lx1 : xs1.length = ss2.length := by rw [hx1.length, List.length_map, hss2]
    refine lc_mapO (by walk_at "n") walk_list O4 (by omega) (fun _ i y => xs1[i]? = some y) (fun _ _ _ _ _ z => z) (fun G' H' D acc s' O' => SqL.of (O'.sub _ _ ((s13.trans s') _ _ ep1))) ?_ gm_name ?_
    · rintro i x G' H' H2' D acc hi s' O' ⟨rfl, ex⟩ kk
      walk_at "s"
      exact kk _ _ _ (Same.refl _) O' ex
    intro G5 H5 np ys s5 O5 l5 r5
    obtain rfl := ext_map l5 r5
    rw [List.map_append] at hx1
    obtain ⟨ini, xl, rfl, hini, hxl⟩ := dtl_unsnoc hx1
    obtain ⟨tb, v2, v3, rfl, htb, h2, h3⟩ := dt_sd hxl
    obtain ⟨tc, cx, rfl, htc, hcx⟩ := dt_sqL h3
    have tso := ok1.sd tw (List.mem_append_right _ (List.mem_singleton_self _))
    have c1 := tso.c1
    obtain ⟨cl, ecl⟩ : ∃ cl, tw.cs[tw.cs.length - 1]? = some cl := ⟨_, List.getElem?_eq_getElem (by omega)⟩
    obtain ⟨xc, exc, hxc⟩ := dtl_mapGet hcx ecl
    obtain ⟨ca, v1, v4, rfl, hca, h1, h4⟩ := dt_cs hxc
    have lcx : cx.length = tw.cs.length := by rw [hcx.length, List.length_map]
    have s15 := s13.trans s5
    have wdl := (tso.cs cl (List.mem_of_getElem? ecl)).wd
    have en : atI (ini ++ [V.ref tb]) (-1) = some (.ref tb) := atI_last ini _
    have ec1 : atI cx (-1) = some (.ref ca) := atI_neg1 (by rw [lcx]; exact exc)
    have hca' := same_t s15 hca
    have htc' := s15.seq htc
    walk_at "s"
    refine x_ixl (v := .ref tb) (SqL.of O5.at0) en ?_
    refine x_gT (O5.set (same_t s15 htb)) rfl ?_
    refine x_gC ?_
    walk_at "n1"
    refine x_gC ?_
    walk_at "n1"
    refine x_gC ?_
    walk_at "n1"
    refine x_gNl ?_
    walk_at "s"
    refine x_ixl (v := .ref ca) (O5.seq htc') ec1 ?_
    walk_at "s"
    refine x_ixt (v := v1) (O5.set hca') rfl ?_
    walk_at "s"
    refine x_ixl (v := .ref ca) (O5.seq htc') ec1 ?_
    walk_at "s"
    refine x_ixt (v := .str cl.wd) (O5.set hca') rfl ?_
    walk_at "s"
    have w8 := wdl.l8
    refine x_slS (sz20 (by omega)) ?_
    have wn := x_wd1 wdl
    refine x_adds (sz20 (by rw [← len_apS]; have := wn.l8; show (wX ++ cutS cl.wd (some 1) none).length ≤ _; omega)) ?_
    walk_at "s"
    refine x_ixl (v := .ref ca) (O5.seq htc') ec1 ?_
    walk_at "s"
    refine x_ixt (v := .str cl.gl) (O5.set hca') rfl ?_
    walk_at "s"
    refine x_ixl (v := .ref ca) (O5.seq htc') ec1 ?_
    walk_at "s"
    refine x_ixt (v := v4) (O5.set hca') rfl ?_
    walk_at "s"
    refine ⟨by show 4 ≤ sizeLine; decide, x_fix O5 fun p6 G6 H6 s6 O6 e6 => ?_⟩
    walk_at "s"
    refine ⟨by show 1 ≤ sizeLine; decide, x_fix O6 fun p7 G7 H7 s7 O7 e7 => ?_⟩
    walk_at "s"
    refine ⟨by show 3 ≤ sizeLine; decide, x_fix O7 fun p8 G8 H8 s8 O8 e8 => ?_⟩
    walk_at "s"
    refine x_setl (m := ini.length) O8.at0 (by rw [List.length_append, List.length_singleton]; show ixN (ini.length + 1) (-1) = _; unfold ixN; rw [if_neg (by decide), if_pos (by omega)]; exact congrArg some (by omega)) (x_md0 O8 fun H9 O9 => ?_)
    have eset : (ini ++ [V.ref tb]).set ini.length (.ref p8) = ini ++ [V.ref p8] := by
      rw [List.set_append_right _ _ (Nat.le_refl _), Nat.sub_self]
      rfl
    rw [eset] at O9
    have sfn := Same.new (o := .lst (ini ++ [V.ref p8])) O9.no0
    have Oa := O9.frz0
    have ea : upd G8 np (.lst (ini ++ [V.ref p8])) np = some (.lst (ini ++ [V.ref p8])) := upd_same
    generalize upd G8 np (.lst (ini ++ [V.ref p8])) = Ga at sfn Oa ea
    have s5a := s6.trans (s7.trans (s8.trans sfn))
    have s1a := s15.trans s5a
    obtain ⟨c', hc'⟩ : ∃ c' : Cs, c' = ⟨cl.ms, wX ++ cutS cl.wd (some 1) none, cl.gl, cl.sr⟩ := ⟨_, rfl⟩
    obtain ⟨ss3, hss3⟩ : ∃ ss3, ss3 = ss ++ [(⟨tw.nm, tw.st, [c']⟩ : Sd)] := ⟨_, rfl⟩
    have ok3 : StOk (knW W) ss3 := by rw [hss3]; exact st_last ok1 ecl (by rw [hc']) (by rw [hc']; exact wn) (by rw [hc']) (by rw [hc'])
    have cn3 : cntS (knW W).length ss3 ≤ 4000 := by
      rw [hss3, cntS_snoc]
      have := pow_le5 kl5 tw5
      show _ + (knW W).length ^ tw.st.length ≤ _
      omega
    have l3 : ss3.length = ss.length + 1 := by rw [hss3, List.length_append]; rfl
    have s8a := sfn
    have dl3 : DtL K Ga (ini ++ [V.ref p8]) (ss3.map (dSd true)) := by
      rw [hss3, List.map_append]
      refine dtl_snoc (hini.mono s1a) (.tup (SqT.of (sfn _ _ e8)) (.cons (.str _) (.cons (h2.mono s1a) (.cons (.lst (SqL.of ((s8.trans sfn) _ _ e7)) (.cons ?_ .nil)) .nil))))
      rw [hc']
      exact .tup (SqT.of ((s7.trans (s8.trans sfn)) _ _ e6)) (.cons (h1.mono s1a) (.cons (.str _) (.cons (.str _) (.cons (h4.mono s1a) .nil))))
    walk_at "s"
    refine x_listL (SqL.of (Oa.sub _ _ ea)) (x_fix Oa fun pb Gb Hb sb Ob eb => ?_)
    walk_at "s"
    refine x_make Ob fun yq dq Hc Oc => ?_
    have dt3 : Dt K Gb (.ref pb) (dSt true ss3) := .lst (SqL.of eb) (dl3.mono sb)
    have s0b := s1.trans (s1a.trans sb)
    refine ⟨Gb, _, yq, dq, wa, .ref pb, W, ss3, rfl, Oc, wy.same s0b, wo, dt3, ok3, fun Gd Hd1 sd' Od pg3 => ⟨rfl, ?_⟩⟩
    walk_at "s"
    have s3d := s4.trans (s5.trans (s5a.trans (sb.trans sd')))
    refine cmp_use (pg.same s3d) Od (by omega) pm sS du fun Ge He qh Lh se Oe th => ?_
    obtain ⟨Rh, hRh⟩ : ∃ Rh, Rh = (qh, HO.lst (Lh.map fun l => V.ref l.1)) :: (E2 Lh ++ ((b, HO.lst b1) :: R)) := ⟨_, rfl⟩
    rw [← hRh] at Oe
    walk_at "n1"
    have s3e := s3d.trans se
    have blen := due_len ok2 (by rw [pm.length_eq]; exact kl5) du
    have brow := due_rows wo ok2 (by omega) pm du
    have dssl := du.1
    refine x_midS (fun σ H' => ∃ (G' : Hp) (qt : Addr) (Lt : List (Addr × List V)), σ = [some (.ref b), some (.ref wa), some (.ref p1), some (.bl bn), some (.int (a : Nat)), some (.ref yp), some (.str due), some (.ref np), some (.str tw.nm), some v2, some (.ref tc), some (.ref yq), some (.ref qh), some (.ref qt), none, none, none] ∧ Same Ge G' ∧ Own G' H' ((qt, .lst (Lt.map fun l => V.ref l.1)) :: (E2 Lt ++ Rh)) ∧ TL K G' Lt dss) (fun n' hn' => ?_) ?_
    · walk_at "s"
      cases bn with
      | true =>
        walk_at "s"
        refine cmp_use (pg.same s3e) Oe (by omega) pm sS du fun Gf Hf qt Lt sf Of tt => ?_
        walk_at "s"
        exact hn' _ _ ⟨Gf, qt, Lt, rfl, sf, Of, tt⟩
      | false =>
        walk_at "s"
        refine cmp_use (pg.same s3e) Oe (by omega) pm sS du fun Gf Hf qt Lt sf Of tt => ?_
        walk_at "s"
        exact hn' _ _ ⟨Gf, qt, Lt, rfl, sf, Of, tt⟩
    rintro σ' Hf ⟨Gf, qt, Lt, rfl, sf, Of, tt⟩
    walk_at "s"
    refine x_reprB (TL.dt (A := []) tt Of) bd2 (by decide) (by decide) ?_
    rw [← hdue]
    walk_at "s"
    refine x_ne rfl ?_
    rw [decide_eq_true (rfl : V.str due = V.str due)]
    walk_at "s"
    have lLt : Lt.length ≤ 1000 := by rw [tt.1, dssl]; omega
    refine ⟨Gf, Rh, qt, Lt, rfl, Of, lLt, tt.lens blen, fun Gg Hg sg Og => ?_⟩
    walk_at "s"
    have s3g := s3e.trans (sf.trans sg)
    have sdg := se.trans (sf.trans sg)
    have sag := sb.trans (sd'.trans sdg)
    have s0g := s0b.trans (sd'.trans sdg)
    -- the other one, then this one
    refine cmp_own (pg3.same sdg) Og (by omega) fun Gh Hh qo Lo kS' dss3 pm' sS' du3 sh Oh to => ?_
    have bd3 := due_bd wo ok3 (by omega) pm' du3 cn3
    walk_at "s"
    refine x_reprB (TL.dt (A := []) to Oh) bd3 (by decide) (by decide) ?_
    walk_at "s"
    have Oh' : Own Gh Hh Rh := Own.dropA (A := E2 Lo) Oh.tail
    refine ⟨Gh, Rh, wa, .ref np, W, ss3, rfl, Oh', wy.same (s0g.trans sh), wo, .lst (SqL.of ((sag.trans sh) _ _ ea)) (dl3.mono (sag.trans sh)), ok3, fun Gi Hi pi xi kS3 dssi si Oi pmi sSi ei rai dui => ?_⟩
    obtain rfl : kS3 = kS' := sorted_one sSi sS' (pmi.trans pm'.symm)
    obtain rfl : dssi = dss3 := dui.uniq du3
    walk_at "s"
    refine x_reprB (Oi.dt (.lst (SqL.of ei) rai.dt)) bd3 (by decide) (by decide) ?_
    refine x_ne rfl ?_
    rw [decide_eq_true (rfl : V.str (PyData.shown (.list (dssi.map .list))) = V.str (PyData.shown (.list (dssi.map .list))))]
    refine ⟨false, rfl, ite_f ?_⟩
    walk_at "s"
    have s3i := s3g.trans (sh.trans si)
    refine cmp_use (pg.same s3i) Oi (by omega) pm sS du fun Gj Hj qj Lj sj Oj tj => ?_
    walk_at "s"
    refine x_reprB (TL.dt (A := []) tj Oj) bd2 (by decide) (by decide) ?_
    rw [← hdue]
    walk_at "s"
    refine x_ne rfl ?_
    rw [decide_eq_true (rfl : V.str due = V.str due)]
    refine ⟨false, rfl, ite_f ?_⟩
    have Oj' : Own Gj Hj Rh := Own.dropA (A := E2 Lj) Oj.tail
    walk_at "s"
    have s0j := s0g.trans (sh.trans (si.trans sj))
    have s1j := s1a.trans (sag.trans (sh.trans (si.trans sj)))
    refine ⟨Gj, Rh, wa, .ref p1, W, ss2, rfl, Oj', wy.same s0j, wo, dt1.mono s1j, ok2, fun Gk Hk pk xk kSk dssk sk Ok pmk sSk ek rak duk => ?_⟩
    obtain rfl : kSk = kS := sorted_one sSk sS (pmk.trans pm.symm)
    obtain rfl : dssk = dss := duk.uniq du
    walk_at "s"
    have s1k := s1j.trans sk
    refine x_lenl (SqL.of (Ok.sub _ _ (s1k _ _ ep1))) ?_
    walk_at "s"
    refine ⟨by show 2 ≤ sizeLine; decide, x_fix Ok fun pl Gl Hl sl Ol el => ?_⟩
    have s3l := s3i.trans (sj.trans (sk.trans sl))
    have ha : a < ss2.length := by have := (List.getElem?_eq_some_iff.mp es).1; omega
    have elen : (((ini ++ [V.ref tb]).length : Nat) : Int) - 1 = ((ss2.length - 1 : Nat) : Int) := by omega
    rw [elen] at el
    refine x_sqL (SqL.of (Ol.sub _ _ el)) ?_
    refine for_own walk_list Ol (fun i σ' G' L' => ∃ x15 : Option V, Rh = L' ∧ σ' = [some (.ref b), some (.ref wa), some (.ref p1), some (.bl bn), some (.int (a : Nat)), some (.ref yp), some (.str due), some (.ref np), some (.str tw.nm), some v2, some (.ref tc), some (.ref yq), some (.ref qh), some (.ref qt), some (.ref pk), x15, none])
      ⟨_, rfl, rfl⟩ (fun i σ' G' H' L' s' O' _ => SqL.of (O'.sub _ _ (s' _ _ el))) ?_ ?_
    · rintro i x σ' G' H' H2' L' hi s' O' ⟨x15, rfl, rfl⟩ ⟨rfl, ex⟩
      obtain ⟨z, rfl, hz⟩ : ∃ z : Nat, x = .int (z : Nat) ∧ z < ss2.length := by
        match i, hi, ex with
        | 0, _, ex => cases ex; exact ⟨a, rfl, ha⟩
        | 1, _, ex => cases ex; exact ⟨ss2.length - 1, rfl, by omega⟩
        | i + 2, hi, _ => exact absurd hi (by show ¬ i + 2 < 2; omega)
      walk_at "n1"
      walk_at "s"
      refine cmp_use (pg.same (s3l.trans s')) O' (by omega) pm sS du fun Gm Hm qm Lm sm Om tm => ?_
      walk_at "s"
      refine ⟨Gm, Rh, pk, qm, z, Lm, xk, _, rfl, Om, (sl.trans (s'.trans sm)) _ _ ek, rak.same (sl.trans (s'.trans sm)), tm, by rw [tm.1, dssl]; exact hz, by rw [tm.1, dssl]; omega, brow, fun Gn Hn sn On => ?_⟩
      walk_at "s"
      exact fvh (s'.trans (sm.trans sn)) On ⟨_, rfl, rfl⟩
    · rintro σ' G' H' L' s' O' ⟨x15, rfl, rfl⟩
      walk_at "s"
      have the := th.same (sf.trans (sg.trans (sh.trans (si.trans (sj.trans (sk.trans (sl.trans s')))))))
      rw [hRh] at O'
      refine x_reprB (TL.dt (A := []) the O') bd2 (by decide) (by decide) ?_
      rw [← hdue]
      walk_at "s"
      refine x_eq rfl ?_
      rw [decide_eq_true (rfl : V.str due = V.str due)]
      have Oz : Own G' H' ((b, .lst b1) :: R) := Own.dropA (A := E2 Lh) O'.tail
      exact q G' H' b1 (s0j.trans (sk.trans (sl.trans s'))) Oz B1
end
end
section
open PySem PySem.Spec PyProof.Rows L2 G
set_option maxHeartbeats 4000000
/-! ### sizes of many rows -/
def gst (n : Nat) : Nat → Nat × List Nat
  | 0 => (19999, [])
  | i + 1 => ((gst n i).1 - (gst n i).1 / n ^ (5 - i) * n ^ (5 - i), (gst n i).2 ++ List.replicate ((gst n i).1 / n ^ (5 - i)) (5 - i))
def gok (n : Nat) : Bool := (((gst n 6).2.map fun z => n ^ z).sum == 19999) && decide ((gst n 6).2.length ≤ 110) && (gst n 6).2.all fun z => decide (z ≤ 5)
theorem gok_all : gok 3 = true ∧ gok 4 = true ∧ gok 5 = true := by decide +kernel
theorem gst_len : ∀ i, i ≤ 6 → (gst 3 i).2.length ≤ 110 ∧ (gst 4 i).2.length ≤ 110 ∧ (gst 5 i).2.length ≤ 110 := by decide +kernel
theorem gst_ok {n : Nat} (h3 : 3 ≤ n) (h5 : n ≤ 5) : ((gst n 6).2.map fun z => n ^ z).sum = 19999 ∧ (∀ z ∈ (gst n 6).2, z ≤ 5) ∧ ∀ i, i ≤ 6 → (gst n i).2.length ≤ 110 := by
  have hn : n = 3 ∨ n = 4 ∨ n = 5 := by omega
  have key : gok n = true ∧ ∀ i, i ≤ 6 → (gst n i).2.length ≤ 110 := by
    obtain ⟨a, b, c⟩ := gok_all
    rcases hn with rfl | rfl | rfl
    · exact ⟨a, fun i hi => (gst_len i hi).1⟩
    · exact ⟨b, fun i hi => (gst_len i hi).2.1⟩
    · exact ⟨c, fun i hi => (gst_len i hi).2.2⟩
  obtain ⟨g, l⟩ := key
  unfold gok at g
  rw [Bool.and_eq_true, Bool.and_eq_true] at g
  exact ⟨beq_iff_eq.mp g.1.1, fun z hz => of_decide_eq_true (List.all_eq_true.mp g.2 z hz), l⟩
theorem gst_le (n : Nat) : ∀ i, (gst n i).1 ≤ 19999
  | 0 => Nat.le_refl _
  | i + 1 => Nat.le_trans (Nat.sub_le _ _) (gst_le n i)
theorem rep_flat {α : Type} (n : Nat) (x : α) : (List.replicate n [x]).flatten = List.replicate n x := by
  induction n with
  | zero => rfl
  | succ n ih => rw [List.replicate_succ, List.flatten_cons, ih, List.replicate_succ]; rfl
theorem nat_fdiv (a b : Nat) : Int.fdiv (a : Int) (b : Int) = ((a / b : Nat) : Int) := by
  rw [Int.fdiv_eq_ediv_of_nonneg _ (by omega)]
  exact (Int.natCast_ediv a b).symm
def lz (i : Nat) : Str := ⟨#[97 + i]⟩
theorem lz_lx {i : Nat} (h : i < 26) : Lx 1 (lz i) := lx_1 h
/-- the name of a standing of many -/
def nmW (st : Str) (k : Nat) : Str := st ++ lz (k / 26) ++ lz (k % 26)
theorem nmW_lx {st : Str} {k : Nat} (h : Lx 2 st) (hk : k < 676) : Lx 4 (nmW st k) := (h.app (lz_lx (by omega))).app (lz_lx (Nat.mod_lt _ (by decide)))
theorem nmW_inj {st : Str} {j k : Nat} (e : nmW st j = nmW st k) : j = k := by
  have := congrArg (fun x : Str => x.cps.toList) e
  unfold nmW at this
  simp only [tl_app, List.append_assoc] at this
  have h3 := List.append_cancel_left this
  have h4 : [97 + j / 26, 97 + j % 26] = [97 + k / 26, 97 + k % 26] := h3
  have h5 := (List.cons.inj h4).1
  have h6 := (List.cons.inj (List.cons.inj h4).2).1
  omega
/-- a standing of many: its one case -/
def wideC (st : Str) (ps : List Str) (S : List Nat) (k z : Nat) : Cs := ⟨List.replicate z none, lz (k % 26), nmW st ((k * 7 + 1) % S.length), (List.range (S.getD ((k * 7 + 1) % S.length) 0)).map fun h => (ps.take z ++ [wNew]).getD ((k + 3 * h) % (z + 1)) Str.empty⟩
def wideS (st : Str) (ps : List Str) (S : List Nat) (k : Nat) : Sd := ⟨nmW st k, ps.take (S.getD k 0), [wideC st ps S k (S.getD k 0)]⟩
def wideH (st : Str) (ps : List Str) (S : List Nat) (k : Nat) : Hd := (nmW st k, ps.take (S.getD k 0))
def wideSS (st : Str) (ps : List Str) (S : List Nat) : List Sd := (List.range S.length).map (wideS st ps S)
def wideHS (st : Str) (ps : List Str) (S : List Nat) : List Hd := (List.range S.length).map (wideH st ps S)
section
variable {st : Str} {ps : List Str} {S : List Nat} {kn : List Str}
theorem gdn_at {k : Nat} (h : k < S.length) : S[k]? = some (S.getD k 0) := by
  rw [List.getD_eq_getElem?_getD, List.getElem?_eq_getElem h]
  rfl
theorem gdn_le (hz : ∀ z ∈ S, z ≤ 5) (k : Nat) : S.getD k 0 ≤ 5 := by
  rcases Nat.lt_or_ge k S.length with h | h
  · exact hz _ (List.mem_of_getElem? (gdn_at h))
  · rw [List.getD_eq_getElem?_getD, List.getElem?_eq_none h]
    exact Nat.zero_le _
theorem wide_hs (hs : Lx 2 st) (hp : NmL 5 ps) (hl : S.length ≤ 600) (hz : ∀ z ∈ S, z ≤ 5) (h0 : S.getD 0 0 = 0) : HdsOk S.length (wideHS st ps S) := by
  refine ⟨by unfold wideHS; rw [List.length_map, List.length_range], ?_, fun h hh => ?_, fun h e => ?_⟩
  · unfold wideHS
    rw [List.map_map]
    exact List.pairwise_map.mpr (List.Pairwise.imp (fun hne e => hne (nmW_inj e)) List.nodup_range)
  · obtain ⟨k, hk, rfl⟩ := List.mem_map.mp hh
    have hk := List.mem_range.mp hk
    refine ⟨(nmW_lx hs (by omega)).wd (by decide) (by decide), ?_, fun x hx => hp.nm x (List.mem_of_mem_take hx), hp.nd.sublist (List.take_sublist _ _)⟩
    show (ps.take _).length ≤ 5
    rw [List.length_take]
    have := gdn_le hz k
    omega
  · unfold wideHS at e
    rw [List.getElem?_map] at e
    cases e2 : (List.range S.length)[0]? with
    | none => rw [e2] at e; cases e
    | some j =>
      rw [e2] at e
      have hj := (List.getElem?_eq_some_iff.mp e2)
      obtain ⟨hj1, hj2⟩ := hj
      rw [List.getElem_range] at hj2
      cases e
      rw [← hj2]
      show ps.take (S.getD 0 0) = []
      rw [h0]
      rfl
theorem take_len5 (hp : NmL 5 ps) {z : Nat} (h : z ≤ 5) : (ps.take z).length = z := by
  rw [List.length_take, hp.len]
  omega
theorem wide_ok (hs : Lx 2 st) (hp : NmL 5 ps) (h1 : 1 ≤ S.length) (hl : S.length ≤ 600) (hz : ∀ z ∈ S, z ≤ 5) (h0 : S.getD 0 0 = 0) : StOk kn (wideSS st ps S) := by
  refine stOk_of (hs := wideHS st ps S) (wide_hs hs hp hl hz h0) h1 (by omega) (by unfold wideSS wideHS; rw [List.length_map, List.length_map]) fun i s h e1 e2 => ?_
  unfold wideSS at e1
  unfold wideHS at e2
  rw [List.getElem?_map] at e1 e2
  have hi : i < S.length := by
    cases e3 : (List.range S.length)[i]? with
    | none => rw [e3] at e1; cases e1
    | some j => have := (List.getElem?_eq_some_iff.mp e3).1; rwa [List.length_range] at this
  rw [List.getElem?_range hi] at e1 e2
  cases e1
  cases e2
  have z5 := gdn_le hz i
  refine ⟨rfl, rfl, Nat.le_refl _, by show 1 ≤ 130; decide, fun c hc => ?_, fun c e m hm => ?_⟩
  · rw [List.mem_singleton.mp hc]
    have hg : (i * 7 + 1) % S.length < S.length := Nat.mod_lt _ (by omega)
    refine ⟨wideH st ps S ((i * 7 + 1) % S.length), List.mem_map.mpr ⟨_, List.mem_range.mpr hg, rfl⟩, ?_, fun m hm => ?_, (lz_lx (Nat.mod_lt _ (by decide))).wd (by decide) (by decide), rfl, ?_, fun x hx => ?_⟩
    · show (List.replicate _ _).length = (ps.take _).length
      rw [List.length_replicate, take_len5 hp z5]
    · rw [List.eq_of_mem_replicate hm]
      exact mk_none
    · show ((List.range _).map _).length = (ps.take _).length
      rw [List.length_map, List.length_range, take_len5 hp (gdn_le hz _)]
    · obtain ⟨h, _, rfl⟩ := List.mem_map.mp hx
      have hlt : (i + 3 * h) % (S.getD i 0 + 1) < (ps.take (S.getD i 0) ++ [wNew]).length := by
        rw [List.length_append, take_len5 hp z5]
        exact Nat.mod_lt _ (by omega)
      rw [List.getD_eq_getElem?_getD, List.getElem?_eq_getElem hlt]
      rcases List.mem_append.mp (List.getElem_mem hlt) with h' | h'
      · exact .inr h'
      · exact .inl (List.mem_singleton.mp h')
  · cases e
    exact List.eq_of_mem_replicate hm
theorem wide_cnt {n : Nat} (hp : NmL 5 ps) (hz : ∀ z ∈ S, z ≤ 5) : cntS n (wideSS st ps S) = (S.map fun z => n ^ z).sum := by
  unfold cntS wideSS
  rw [List.map_map]
  congr 1
  refine List.ext_getElem? fun i => ?_
  rw [List.getElem?_map, List.getElem?_map]
  by_cases hi : i < S.length
  · rw [List.getElem?_range hi, gdn_at hi]
    show some (n ^ (ps.take (S.getD i 0)).length) = some (n ^ S.getD i 0)
    rw [take_len5 hp (gdn_le hz i)]
  · rw [List.getElem?_eq_none (by rw [List.length_range]; omega), List.getElem?_eq_none (by omega)]
    rfl
end
end
section
open PySem PySem.Spec PyProof.Rows L2 G
set_option maxHeartbeats 4000000
/-- standings whose lists of seats stand -/
def SeatsAt (K : PySem.W.Frag) (G : Hp) (xs : List V) (ss : List Sd) : Prop := ∀ (i : Nat) (x : V) (s : Sd), xs[i]? = some x → ss[i]? = some s → ∃ a b c, x = .ref a ∧ G a = some (.tup [.str s.nm, .ref b, .ref c]) ∧ G b = some (.lst (s.st.map V.str)) ∧ Dt K G (.ref c) (.list (s.cs.map (dCs true)))
theorem SeatsAt.same {K : PySem.W.Frag} {G G' : Hp} {xs : List V} {ss : List Sd} (h : SeatsAt K G xs ss) (s : Same G G') : SeatsAt K G' xs ss := fun i x t e1 e2 => let ⟨a, b, c, e, h1, h2, h3⟩ := h i x t e1 e2; ⟨a, b, c, e, s _ _ h1, s _ _ h2, h3.mono s⟩
theorem SeatsAt.snoc {K : PySem.W.Frag} {G : Hp} {xs : List V} {ss : List Sd} {a b c : Addr} {s : Sd} (h : SeatsAt K G xs ss) (hl : xs.length = ss.length) (h1 : G a = some (.tup [.str s.nm, .ref b, .ref c])) (h2 : G b = some (.lst (s.st.map V.str))) (h3 : Dt K G (.ref c) (.list (s.cs.map (dCs true)))) : SeatsAt K G (xs ++ [.ref a]) (ss ++ [s]) := fun i x t e1 e2 => by
  rcases Nat.lt_trichotomy i xs.length with hi | hi | hi
  · rw [List.getElem?_append_left hi] at e1
    rw [List.getElem?_append_left (by omega)] at e2
    exact h i x t e1 e2
  · subst hi
    rw [List.getElem?_append_right (Nat.le_refl _), Nat.sub_self] at e1
    rw [hl, List.getElem?_append_right (Nat.le_refl _), Nat.sub_self] at e2
    cases e1
    cases e2
    exact ⟨a, b, c, rfl, h1, h2, h3⟩
  · rw [List.getElem?_eq_none (by rw [List.length_append]; simp; omega)] at e1
    cases e1
section
variable {P : Program} {w : World} {K : PySem.W.Frag} {mg : Str → Option Value} {base : Heap} {k : Nat} {kw C CP D CW CM : Addr}
abbrev s__law_wide : Stmt := top 59
theorem sc__law_wide : FnScope ["box", "ways", "more", "room", "left", "sizes", "size", "many", "letters", "seats", "stem", "k", "names", "found", "goal", "sources", "h"] ["box", "ways", "more"] (defScope s__law_wide) := ⟨rfl, rfl, rfl, by decide +kernel, rfl, by decide +kernel, by decide +kernel⟩
def sp_wid (K : PySem.W.Frag) : Sp := fun vs H Q _ => ∃ (G : Hp) (R : List (Addr × HO)) (b wa : Addr) (mo N : Nat) (W : List (Str × Str)) (bx : List V), vs = [.ref b, .ref wa, .int (mo : Nat)] ∧ Own G H ((b, .lst bx) :: R) ∧ WyAt G wa W ∧ WaysOk W ∧ 2 ≤ W.length ∧ mo ≤ 3 ∧ Box (N + 200) bx ∧
  ∀ (G' H' : Hp) (p : Addr) (xs : List V) (st : Str) (ps : List Str) (S : List Nat) bx', Same G G' → G' p = some (.lst xs) → DtL K G' xs ((wideSS st ps S).map (dSd true)) → SeatsAt K G' xs (wideSS st ps S) → Lx 2 st → NmL 5 ps → 1 ≤ S.length → S.length ≤ 600 → (∀ z ∈ S, z ≤ 5) → S.getD 0 0 = 0 → (S.map fun z => (knW W).length ^ z).sum = 20000 + mo → Own G' H' ((b, .lst bx') :: R) → Box N bx' → Q (.ref p) H'
theorem ok_wid {f : Addr} {fd : FuncData} (F : Fun K "_law_wide" "_law_wide" s__law_wide f fd) (B : Btt mg) (C__law_power : Cal P w K mg base k "_law_power" ["one", "many"] sp_pow) (C__law_mixed : Cal P w K mg base k "_law_mixed" ["box", "items"] (sp_mix K)) (C__law_names : Cal P w K mg base k "_law_names" ["box", "many"] sp_nms) (C__law_letters : Cal P w K mg base k "_law_letters" ["box", "many"] sp_ltr) : FnG P w K mg base (k + 1) f fd ["box", "ways", "more"] (sp_wid K) := by
  refine fnG_of F sc__law_wide (fun vs H Q E h => ?_) (fun cdv A outer s H vs Q E r h => ?_)
  · obtain ⟨_, _, _, _, _, _, _, _, rfl, _⟩ := h
    rfl
  · obtain ⟨G, R, b, wa, mo, N, W, bx, rfl, O, wy, wo, w2, m3, bo, q⟩ := h
    refine ⟨_, (pss_cons (ps_par3 (i := 3) (j := 4) (l := 5) rfl sc__law_wide.nd rfl rfl rfl (by decide) (by decide) (by decide) rfl rfl rfl (pa_cons (pe_op (oAddK (K := K) rfl) (pe_callB (cLenK (K := K) rfl) (by rfl) B.len (by decide +kernel) (pa_cons (pv 1) pa_nil)) pe_int) (pa_cons pe_int (pa_cons (d_lst pa_nil) pa_nil))) (by rfl))
       (pss_cons (ps_for (passes_of rfl) rfl (pi_sqK (K := K) rfl (d_lst (pa_cons pe_int (pa_cons pe_int (pa_cons pe_int (pa_cons pe_int (pa_cons pe_int (pa_cons pe_int pa_nil)))))))) (pg_name (i := 6) sc__law_wide.nd rfl (Or.inr rfl))
       (pss_cons (ps_set (i := 7) sc__law_wide.nd rfl (Or.inl rfl) (g_call C__law_power r (by rfl) passL (pa_cons (pv 3) (pa_cons (pv 6) pa_nil))))
       (pss_cons (ps_set (i := 5) sc__law_wide.nd rfl (Or.inl rfl) (pe_op (oAddK (K := K) rfl) (pv 5) (pe_op oMul (d_lst (pa_cons (pv 6) pa_nil)) (pe_op op_fdivN (pv 4) (pv 7)))))
       (pss_one (ps_set (i := 4) sc__law_wide.nd rfl (Or.inl rfl) (pe_op op_sub (pv 4) (pe_op oMul (pe_op op_fdivN (pv 4) (pv 7)) (pv 7))))))))
       (pss_cons (ps_set (i := 5) sc__law_wide.nd rfl (Or.inl rfl) (pe_op (oAddK (K := K) rfl) (pe_op (oAddK (K := K) rfl) (d_lst (pa_cons pe_int pa_nil)) (g_call C__law_mixed r (by rfl) passL (pa_cons (pv 0) (pa_cons (pv 5) pa_nil)))) (pe_op oMul (d_lst (pa_cons pe_int pa_nil)) (pv 2))))
       (pss_cons (ps_asg (d_tup (pa_cons pe_str (pa_cons (g_call C__law_names r (by rfl) passL (pa_cons (pv 0) (pa_cons pe_int pa_nil))) (pa_cons (g_call C__law_letters r (by rfl) passL (pa_cons (pv 0) (pa_cons pe_int pa_nil))) pa_nil)))) (pg_tupK (K := K) (n := 3) rfl rfl (pgs_cons (pg_name (i := 8) sc__law_wide.nd rfl (Or.inr rfl)) (pgs_cons (pg_name (i := 9) sc__law_wide.nd rfl (Or.inr rfl)) (pgs_cons (pg_name (i := 10) sc__law_wide.nd rfl (Or.inr rfl)) pgs_nil)))))
       (pss_cons (ps_setLc (i := 12) (own := [("k", 11)]) rfl sc__law_wide.nd rfl rfl (sw_true rfl rfl rfl (by decide +kernel)) (pi_range1 (by rfl) B.range (pa_cons (pe_callB (cLenK (K := K) rfl) (by rfl) B.len (by decide +kernel) (pa_cons (pv 5) pa_nil)) pa_nil)) (blkOk_by (N := ["box", "ways", "more", "room", "left", "sizes", "size", "many", "letters", "seats", "stem", "k", "names", "found", "goal", "sources", "h"]) (sc := defScope s__law_wide) (by decide +kernel)) (fun _ _ _ _ _ => (pg_name (i := 11) sc__law_wide.nd rfl (Or.inl rfl))) (fun _ _ _ _ _ => pts_nil) (fun _ _ _ _ _ => (pe_op (oAddK (K := K) rfl) (pe_op (oAddK (K := K) rfl) (pv 10) (pe_ix (ixK (K := K) rfl) (pv 8) (pe_op op_fdivN (pv 11) pe_int) (fun _ _ => rfl))) (pe_ix (ixK (K := K) rfl) (pv 8) (pe_op op_modN (pe_callTy cInt (by rfl) B.int (by decide +kernel) (pa_cons (pv 11) pa_nil)) pe_int) (fun _ _ => rfl)))))
       (pss_cons (ps_set (i := 13) sc__law_wide.nd rfl (Or.inl rfl) (d_lst pa_nil))
       (pss_cons (ps_for (passes_of rfl) rfl (pi_enumA (by rfl) B.enumerate (pa_cons (pv 5) pa_nil)) (pg_tupK (K := K) (n := 2) rfl rfl (pgs_cons (pg_name (i := 11) sc__law_wide.nd rfl (Or.inr rfl)) (pgs_cons (pg_name (i := 6) sc__law_wide.nd rfl (Or.inr rfl)) pgs_nil)))
       (pss_cons (ps_set (i := 14) sc__law_wide.nd rfl (Or.inl rfl) (pe_op op_modN (pe_callTy cInt (by rfl) B.int (by decide +kernel) (pa_cons (pe_op (oAddK (K := K) rfl) (pe_op oMul (pv 11) pe_int) pe_int) pa_nil)) (pe_callB (cLenK (K := K) rfl) (by rfl) B.len (by decide +kernel) (pa_cons (pv 5) pa_nil))))
       (pss_cons (ps_setLc (i := 15) (own := [("h", 16)]) rfl sc__law_wide.nd rfl rfl (sw_true rfl rfl rfl (by decide +kernel)) (pi_range1 (by rfl) B.range (pa_cons (pe_ix (ixK (K := K) rfl) (pv 5) (pv 14) (fun _ _ => rfl)) pa_nil)) (blkOk_by (N := ["box", "ways", "more", "room", "left", "sizes", "size", "many", "letters", "seats", "stem", "k", "names", "found", "goal", "sources", "h"]) (sc := defScope s__law_wide) (by decide +kernel)) (fun _ _ _ _ _ => (pg_name (i := 16) sc__law_wide.nd rfl (Or.inl rfl))) (fun _ _ _ _ _ => pts_nil) (fun _ _ _ _ _ => (pe_ix (ixK (K := K) rfl) (pe_op (oAddK (K := K) rfl) (pe_slice (oSlK (K := K) rfl) (pv 9) po_none (po_some (pv 6))) (d_lst (pa_cons pe_str pa_nil))) (pe_op op_modN (pe_callTy cInt (by rfl) B.int (by decide +kernel) (pa_cons (pe_op (oAddK (K := K) rfl) (pv 11) (pe_op oMul pe_int (pv 16))) pa_nil)) (pe_op (oAddK (K := K) rfl) (pv 6) pe_int)) (fun _ _ => rfl))))
       (pss_one (ps_expr (pe_bmK' (K := K) rfl PySem.F.plainAttrs_list PySem.F.slot_list_append PySem.F.type_list_append mApp (pv 13) (pa_cons (d_tup (pa_cons (pe_ix (ixK (K := K) rfl) (pv 12) (pv 11) (fun _ _ => rfl)) (pa_cons (pe_slice (oSlK (K := K) rfl) (pv 9) po_none (po_some (pv 6))) (pa_cons (d_lst (pa_cons (d_tup (pa_cons (pe_op oMul (d_lst (pa_cons pe_non pa_nil)) (pv 6)) (pa_cons (pe_ix (ixK (K := K) rfl) (pv 8) (pe_op op_modN (pe_callTy cInt (by rfl) B.int (by decide +kernel) (pa_cons (pv 11) pa_nil)) pe_int) (fun _ _ => rfl)) (pa_cons (pe_ix (ixK (K := K) rfl) (pv 12) (pv 14) (fun _ _ => rfl)) (pa_cons (pv 15) pa_nil))))) pa_nil)) pa_nil)))) pa_nil)))))))
       (pss_one (ps_ret (pv 13)))))))))), ?_⟩
    try dsimp only [cxOf]
    refine x_start (σ' := [some _, some _, some _, none, none, none, none, none, none, none, none, none, none, none, none, none, none]) rfl ?_
    obtain ⟨L, hw, pr, rfl⟩ := id wy
    have wl4 := wo.l4
    rw [List.length_map] at wl4 w2
    obtain ⟨n, hn⟩ : ∃ n, n = L.length + 1 := ⟨_, rfl⟩
    have kle : (knW (L.map (·.2))).length = n := by unfold knW keysW; rw [List.length_cons, List.length_map, List.length_map, hn]
    obtain ⟨gsum, gle, glen⟩ := gst_ok (n := n) (by omega) (by omega)
    walk_at "s"
    refine x_lenl (SqL.of (O.sub _ _ hw)) ?_
    rw [List.length_map]
    walk_at "s"
    rw [show ((L.length : Nat) : Int) + 1 = ((n : Nat) : Int) by omega]
    refine ⟨by show 0 ≤ sizeLine; decide, x_fix O fun p1 G1 H1 s1 O1 e1 => ?_⟩
    walk_at "s"
    refine ⟨by show 6 ≤ sizeLine; decide, x_fix O1 fun p2 G2 H2 s2 O2 e2 => ?_⟩
    have e2 : G2 p2 = some (.lst ((List.range 6).map fun i => V.int ((5 - i : Nat) : Int))) := e2
    have s02 := s1.trans s2
    refine x_sqL (SqL.of (O2.sub _ _ e2)) ?_
    refine for_own walk_list O2 (fun i σ' G' L' => ∃ (sp : Addr) (x6 x7 : Option V), (b, HO.lst bx) :: R = L' ∧ G' sp = some (.lst ((gst n i).2.map fun z => V.int (z : Nat))) ∧ σ' = [some (.ref b), some (.ref wa), some (.int (mo : Nat)), some (.int (n : Nat)), some (.int ((gst n i).1 : Nat)), some (.ref sp), x6, x7, none, none, none, none, none, none, none, none, none])
      ⟨p1, _, _, rfl, s2 _ _ e1, rfl⟩ (fun i σ' G' H' L' s' O' _ => SqL.of (O'.sub _ _ (s' _ _ e2))) ?_ ?_
    · rintro i x σ' G' H' H2' L' hi s' O' ⟨sp, x6, x7, rfl, hsp, rfl⟩ ⟨rfl, ex⟩
      rw [List.length_map, List.length_range] at hi
      rw [List.getElem?_map, List.getElem?_range hi] at ex
      cases ex
      have pl := pow_le5 (n := n) (m := 5 - i) (by omega) (by omega)
      have pp : 0 < n ^ (5 - i) := Nat.pow_pos (by omega)
      have gi := gst_le n i
      have gli := glen i (by omega)
      have gli1 := glen (i + 1) (by omega)
      have e3 : (gst n (i + 1)).2 = (gst n i).2 ++ List.replicate ((gst n i).1 / n ^ (5 - i)) (5 - i) := rfl
      have e4 : (gst n (i + 1)).1 = (gst n i).1 - (gst n i).1 / n ^ (5 - i) * n ^ (5 - i) := rfl
      have hsub : (gst n i).1 / n ^ (5 - i) * n ^ (5 - i) ≤ (gst n i).1 := Nat.div_mul_le_self _ _
      obtain ⟨ct, hct⟩ : ∃ ct, ct = (gst n i).1 / n ^ (5 - i) := ⟨_, rfl⟩
      rw [← hct] at e3 e4 hsub
      rw [e3, List.length_append, List.length_replicate] at gli1
      walk_at "n1"
      walk_at "s"
      refine ⟨G', _, n, 5 - i, rfl, O', by omega, by omega, fun G5 H5 s5 O5 => ?_⟩
      walk_at "s"
      refine ⟨by show 1 ≤ sizeLine; decide, x_fix O5 fun p6 G6 H6 s6 O6 e6 => ?_⟩
      walk_at "s"
      refine x_rI ⟨by omega, by omega⟩ ?_
      rw [nat_fdiv, ← hct]
      refine x_rep (O6.sub _ _ e6) (by omega) (by omega) (by show 1 ≤ 1000; decide) (x_fix O6 fun p7 G7 H7 s7 O7 e7 => ?_)
      rw [Int.toNat_natCast, rep_flat] at e7
      have s57 := s5.trans (s6.trans s7)
      refine x_addl (O7.sub _ _ (s57 _ _ hsp)) (O7.sub _ _ e7) (sz20 (by rw [List.length_map, List.length_replicate]; omega)) (x_fix O7 fun p8 G8 H8 s8 O8 e8 => ?_)
      walk_at "s"
      refine x_rI ⟨by omega, by omega⟩ ?_
      rw [nat_fdiv, ← hct]
      walk_at "s"
      refine x_mul (.inl ⟨by omega, by omega⟩) ?_
      walk_at "s"
      have ev : (((gst n i).1 : Nat) : Int) - ((ct : Nat) : Int) * ((n ^ (5 - i) : Nat) : Int) = ((gst n (i + 1)).1 : Nat) := by rw [e4, ← Int.natCast_mul]; omega
      rw [ev]
      exact fvh (s'.trans (s57.trans s8)) O8 ⟨p8, _, _, rfl, by rw [e3, List.map_append, List.map_replicate]; exact e8, rfl⟩
    · rintro σ' G3 H3 L' s3 O3 ⟨sp, x6, x7, rfl, hsp, rfl⟩
      rw [List.length_map, List.length_range] at hsp
      obtain ⟨gs, hgs⟩ : ∃ gs, gs = (gst n 6).2 := ⟨_, rfl⟩
      have gl6 := glen 6 (by omega)
      rw [← hgs] at hsp gsum gle gl6
      walk_at "s"
      refine ⟨by show 1 ≤ sizeLine; decide, x_fix O3 fun p4 G4 H4 s4 O4 e4 => ?_⟩
      walk_at "s"
      refine ⟨G4, R, b, sp, gs.map fun z => V.int (z : Nat), N + 80, bx, rfl, O4, SqL.of (s4 _ _ hsp), bo.le (by rw [List.length_map]; omega), by rw [List.length_map]; omega, fun G5 H5 p5 ym b5 s5 pm e5 O5 B5 => ?_⟩
      obtain ⟨zs, rfl, pz⟩ := perm_mapf pm
      have lz' : zs.length = gs.length := pz.length_eq
      refine x_addl (O5.sub _ _ (s5 _ _ e4)) (O5.sub _ _ e5) (sz20 (by rw [List.length_map]; show 1 + zs.length ≤ _; omega)) (x_fix O5 fun p6 G6 H6 s6 O6 e6 => ?_)
      walk_at "s"
      refine ⟨by show 1 ≤ sizeLine; decide, x_fix O6 fun p7 G7 H7 s7 O7 e7 => ?_⟩
      walk_at "s"
      refine x_rep (O7.sub _ _ e7) (by omega) (by omega) (by show 1 ≤ 1000; decide) (x_fix O7 fun p8 G8 H8 s8 O8 e8 => ?_)
      rw [Int.toNat_natCast, rep_flat] at e8
      refine x_addl (O8.sub _ _ ((s7.trans s8) _ _ e6)) (O8.sub _ _ e8) (sz20 (by rw [List.length_append, List.length_map, List.length_replicate]; show 1 + zs.length + mo ≤ _; omega)) (x_fix O8 fun p9 G9 H9 s9 O9 e9 => ?_)
      obtain ⟨S, hS⟩ : ∃ S : List Nat, S = 0 :: zs ++ List.replicate mo 0 := ⟨_, rfl⟩
      have lS : S.length = 1 + zs.length + mo := by rw [hS, List.length_append, List.length_replicate, List.length_cons]; omega
      have e9 : G9 p9 = some (.lst (S.map fun z => V.int (z : Nat))) := by
        rw [hS, List.map_append, List.map_cons, List.map_replicate]
        exact e9
      have hz5 : ∀ z ∈ S, z ≤ 5 := fun z hz => by
        rw [hS] at hz
        rcases List.mem_append.mp hz with h | h
        · rcases List.mem_cons.mp h with rfl | h
          · omega
          · exact gle z (pz.mem_iff.mp h)
        · rw [List.eq_of_mem_replicate h]; omega
      have hS0 : S.getD 0 0 = 0 := by rw [hS]; rfl
      have hsum : (S.map fun z => n ^ z).sum = 20000 + mo := by
        rw [hS, List.map_append, List.map_cons, List.map_replicate, List.sum_append, List.sum_cons, (pz.map _).sum_nat, gsum, List.sum_replicate_nat]
        rw [Nat.pow_zero]
        omega
      have s39 := s4.trans (s5.trans (s6.trans (s7.trans (s8.trans s9))))
      have s09 := s02.trans (s3.trans s39)
      walk_at "s"
      refine ⟨G9, R, b, 5, N + 20, b5, rfl, O9, B5.le (by omega), by decide, fun Ga Ha pa ps ba sa ea nl Oa Ba => ?_⟩
      walk_at "s"
      refine ⟨Ga, R, b, 2, N + 18, ba, rfl, Oa, Ba.le (by omega), by decide, fun Gb Hb st bb sb hst Ob Bb => ?_⟩
      walk_at "s"
      refine ⟨by show 3 ≤ sizeLine; decide, x_fix Ob fun pc Gc Hc sc Oc ec => ?_⟩
      refine x_gT (SqT.of (Oc.sub _ _ ec)) rfl ?_
      refine x_gC ?_
      walk_at "n1"
      refine x_gC ?_
      walk_at "n1"
      refine x_gC ?_
      walk_at "n1"
      refine x_gNl ?_
      have s9c := sa.trans (sb.trans sc)
      walk_at "s"
      refine x_lenl (SqL.of (Oc.sub _ _ (s9c _ _ e9))) ?_
      have hSl : (S.map fun z => V.int (z : Nat)).length = S.length := List.length_map _
      rw [hSl]
      refine x_rg (by omega) (by omega) ?_
      rw [show ((S.length : Nat) : Int).toNat = S.length from Int.toNat_natCast _]
      refine lc_map (by walk_at "n") walk_range Oc (by omega) (fun _ i y => y = .str (nmW st i)) (fun _ _ _ _ _ z => z) (fun _ _ _ _ _ _ => True.intro) ?_ gm_name ?_
      · rintro i x G' H' H2' D acc hi s' O' ⟨rfl, rfl⟩ kk
        walk_at "s"
        rw [Int.zero_add]
        refine x_rI ⟨by decide, by decide⟩ ?_
        rw [show (26 : Int) = ((26 : Nat) : Int) from rfl, nat_fdiv]
        refine x_ixs (by decide) (abc_at (by omega) (by omega)) ?_
        rw [Int.toNat_natCast]
        refine x_adds (sz20 (by rw [hst.1]; show 2 + 1 ≤ _; decide)) ?_
        walk_at "s"
        refine x_rI (by decide) ?_
        rw [Int.fmod_eq_emod_of_nonneg _ (by decide), show ((i : Nat) : Int) % ((26 : Nat) : Int) = ((i % 26 : Nat) : Int) from (Int.natCast_emod i 26).symm]
        refine x_ixs (by decide) (abc_at (by omega) (by omega)) ?_
        rw [Int.toNat_natCast]
        refine x_adds (sz20 (by rw [len_apS, hst.1]; show 2 + 1 + 1 ≤ _; decide)) ?_
        exact kk _ _ _ (Same.refl _) O' rfl
      intro Gd Hd1 pd yd sd' Od ed ld rd
      obtain rfl := eq_of_rg (f := fun i => V.str (nmW st i)) ld rd
      have s9d := s9c.trans sd'
      walk_at "s"
      refine ⟨by show 0 ≤ sizeLine; decide, x_new Od fun fp He Oe => ?_⟩
      walk_at "s"
      refine x_enS Oe (.inl (SqL.of (s9d _ _ e9))) fun J Gdd Wk hG => ?_
      refine for_own Wk Oe (fun i σ' G' L' => ∃ (fa : List V) (x6 x7 x11 x14 x15 : Option V), L' = (fp, .lst fa) :: (b, .lst bb) :: R ∧ fa.length = i ∧ DtL K G' fa (((List.range i).map (wideS st ps S)).map (dSd true)) ∧ SeatsAt K G' fa ((List.range i).map (wideS st ps S)) ∧ σ' = [some (.ref b), some (.ref wa), some (.int (mo : Nat)), some (.int (n : Nat)), some (.int ((gst n ((List.range 6).map fun i => V.int ((5 - i : Nat) : Int)).length).1 : Nat)), some (.ref p9), x6, x7, some (.str (Str.ofString "abcdefghijklmnopqrstuvwxyz")), some (.ref pa), some (.str st), x11, some (.ref pd), some (.ref fp), x14, x15, none])
        ⟨[], _, _, _, _, _, rfl, rfl, .nil, (fun i x s e => by simp at e), rfl⟩ (fun i σ' G' H' L' s' O' _ => hG G' H' L' s' O') ?_ ?_
      · rintro i x σ' Gf Hf Hf' Lf hi sf Of ⟨fa, x6, x7, x11, x14, x15, rfl, lf, df, sfa, rfl⟩ ⟨T5, y1, y2, rfl, hT, rfl, e1', e2'⟩
        rw [hSl] at hi
        cases e1'
        have e2' : (S.map fun z => V.int (z : Nat))[i]? = some y2 := e2'
        rw [List.getElem?_map, gdn_at hi] at e2'
        cases e2'
        obtain ⟨z, hz⟩ : ∃ z, z = S.getD i 0 := ⟨_, rfl⟩
        have z5 : z ≤ 5 := by rw [hz]; exact gdn_le hz5 i
        rw [← hz]
        obtain ⟨Gg, Hg, sg, Og, eg, hHg⟩ := new_pair Of hT
        rw [hHg]
        refine x_gT (SqT.of (Og.sub _ _ eg)) rfl ?_
        refine x_gC ?_
        walk_at "n1"
        refine x_gC ?_
        walk_at "n1"
        refine x_gNl ?_
        have sfg := sf.trans sg
        have hSf := (s9d.trans sfg) _ _ e9
        have hl5 := nl.len
        have hps := (sb.trans (sc.trans (sd'.trans sfg))) _ _ ea
        have hnm := sfg _ _ ed
        walk_at "s"
        refine x_mul (.inr ⟨by decide, by decide⟩) ?_
        walk_at "s"
        refine x_lenl (SqL.of (Og.sub _ _ hSf)) ?_
        rw [hSl]
        refine x_rI (by omega) ?_
        rw [Int.fmod_eq_emod_of_nonneg _ (by omega), show (((i : Nat) : Int) * 7 + 1) % ((S.length : Nat) : Int) = (((i * 7 + 1) % S.length : Nat) : Int) by rw [Int.natCast_emod]; rfl]
        obtain ⟨gj, hgj⟩ : ∃ gj, gj = (i * 7 + 1) % S.length := ⟨_, rfl⟩
        have gjl : gj < S.length := by rw [hgj]; exact Nat.mod_lt _ (by omega)
        rw [← hgj]
        walk_at "s"
        obtain ⟨zg, hzg⟩ : ∃ zg, zg = S.getD gj 0 := ⟨_, rfl⟩
        have zg5 : zg ≤ 5 := by rw [hzg]; exact gdn_le hz5 gj
        refine x_ixl (v := .int (zg : Nat)) (SqL.of (Og.sub _ _ hSf)) (atI_nat (by rw [List.getElem?_map, gdn_at gjl, ← hzg]; rfl)) ?_
        refine x_rg (by omega) (by omega) ?_
        rw [show ((zg : Nat) : Int).toNat = zg from Int.toNat_natCast _]
        refine lc_map (by walk_at "n") walk_range Og (by omega) (fun _ h y => y = .str ((ps.take z ++ [wNew]).getD ((i + 3 * h) % (z + 1)) Str.empty)) (fun _ _ _ _ _ z => z) (fun _ _ _ _ _ _ => True.intro) ?_ gm_name ?_
        · rintro h x G' H' H2' D acc hh s' O' ⟨rfl, rfl⟩ kk
          walk_at "s"
          refine x_slL (SqL.of (O'.sub _ _ (s' _ _ hps))) (x_fix O' fun pm1 G1' H1' s1' O1' e1' => ?_)
          rw [cut_map V.str ps (by omega)] at e1'
          walk_at "s"
          refine ⟨by show 1 ≤ sizeLine; decide, x_fix O1' fun pm2 G2' H2'' s2' O2' e2' => ?_⟩
          refine x_addl (O2'.sub _ _ (s2' _ _ e1')) (O2'.sub _ _ e2') (sz20 (by rw [List.length_map, List.length_take]; show _ + 1 ≤ _; omega)) (x_fix O2' fun pm3 G3' H3' s3' O3' e3' => ?_)
          have e3' : G3' pm3 = some (.lst ((ps.take z ++ [wNew]).map V.str)) := by rw [List.map_append]; exact e3'
          walk_at "s"
          refine x_mul (.inl ⟨by decide, by decide⟩) ?_
          walk_at "s"
          refine x_rI (by omega) ?_
          rw [Int.zero_add, Int.fmod_eq_emod_of_nonneg _ (by omega), show (((i : Nat) : Int) + 3 * ((h : Nat) : Int)) % (((z : Nat) : Int) + 1) = (((i + 3 * h) % (z + 1) : Nat) : Int) by rw [Int.natCast_emod]; rfl]
          have hlt : (i + 3 * h) % (z + 1) < (ps.take z ++ [wNew]).length := by
            rw [List.length_append, take_len5 nl z5]
            exact Nat.mod_lt _ (by omega)
          refine x_ixl (v := .str ((ps.take z ++ [wNew]).getD ((i + 3 * h) % (z + 1)) Str.empty)) (SqL.of (O3'.sub _ _ e3')) (atI_nat (by rw [List.getElem?_map, List.getD_eq_getElem?_getD, List.getElem?_eq_getElem hlt]; rfl)) ?_
          exact kk _ _ _ (s1'.trans (s2'.trans s3')) O3' rfl
        intro Gh Hh ph yh sh Oh eh lh rh
        obtain rfl := eq_of_rg (f := fun h => V.str ((ps.take z ++ [wNew]).getD ((i + 3 * h) % (z + 1)) Str.empty)) lh rh
        walk_at "s"
        refine ⟨ty_l (SqL.of Oh.at0), ?_⟩
        walk_at "s"
        refine x_ixl (v := .str (nmW st i)) (SqL.of (Oh.sub _ _ (sh _ _ hnm))) (atI_nat (by rw [List.getElem?_map, List.getElem?_range hi]; rfl)) ?_
        walk_at "s"
        refine x_slL (SqL.of (Oh.sub _ _ (sh _ _ hps))) (x_fix Oh fun pi Gi Hi si Oi ei => ?_)
        rw [cut_map V.str ps (by omega)] at ei
        walk_at "s"
        refine ⟨by show 1 ≤ sizeLine; decide, x_fix Oi fun pj Gj Hj sj Oj ej => ?_⟩
        walk_at "s"
        refine x_rep (Oj.sub _ _ ej) (by omega) (by omega) (by show 1 ≤ 1000; decide) (x_fix Oj fun pk Gk Hk sk Ok ek => ?_)
        rw [Int.toNat_natCast, rep_flat] at ek
        walk_at "s"
        refine x_rI (by decide) ?_
        rw [Int.fmod_eq_emod_of_nonneg _ (by decide), show ((i : Nat) : Int) % 26 = ((i % 26 : Nat) : Int) from (Int.natCast_emod i 26).symm]
        refine x_ixs (by decide) (abc_at (by omega) (by omega)) ?_
        rw [Int.toNat_natCast]
        walk_at "s"
        have shk := sh.trans (si.trans (sj.trans sk))
        refine x_ixl (v := .str (nmW st gj)) (SqL.of (Ok.sub _ _ (shk _ _ hnm))) (atI_nat (by rw [List.getElem?_map, List.getElem?_range gjl]; rfl)) ?_
        walk_at "s"
        refine ⟨by show 4 ≤ sizeLine; decide, x_fix Ok fun pl Gl Hl sl Ol el => ?_⟩
        walk_at "s"
        refine ⟨by show 1 ≤ sizeLine; decide, x_fix Ol fun pm' Gm Hm sm Om em => ?_⟩
        walk_at "s"
        refine ⟨by show 3 ≤ sizeLine; decide, x_fix Om fun pn Gn Hn sn On en => ?_⟩
        walk_at "s"
        refine x_app On.at0 (lt_line (by omega)) (x_md0 On fun Ho Oo => ?_)
        walk_at "s"
        have sgn := shk.trans (sl.trans (sm.trans sn))
        have skn := sl.trans (sm.trans sn)
        have dcs : Dt K Gn (.ref pm') (.list ([wideC st ps S i (S.getD i 0)].map (dCs true))) := by
          rw [← hz]
          refine .lst (SqL.of (sn _ _ em)) (.cons (.tup (SqT.of ((sm.trans sn) _ _ el)) ?_) .nil)
          unfold wideC
          rw [← hgj, ← hzg]
          refine .cons (.lst (SqL.of (skn _ _ ek)) ?_) (.cons (.str _) (.cons (.str _) (.cons (.lst (SqL.of ((si.trans (sj.trans (sk.trans skn))) _ _ eh)) ?_) .nil)))
          · show DtL K Gn (List.replicate z .non) ((List.replicate z none).map (dMk true))
            refine dtl_map (by rw [List.length_replicate, List.length_replicate]) fun j y c e1 e2 => ?_
            rw [List.eq_of_mem_replicate (List.mem_of_getElem? e1), List.eq_of_mem_replicate (List.mem_of_getElem? e2)]
            exact .non
          · show DtL K Gn ((List.range zg).map fun h => V.str ((ps.take z ++ [wNew]).getD ((i + 3 * h) % (z + 1)) Str.empty)) (((List.range zg).map fun h => (ps.take z ++ [wNew]).getD ((i + 3 * h) % (z + 1)) Str.empty).map .str)
            have := strs_dtl (K := K) (H := Gn) ((List.range zg).map fun h => (ps.take z ++ [wNew]).getD ((i + 3 * h) % (z + 1)) Str.empty)
            rw [List.map_map] at this
            exact this
        have dst : Gn pi = some (.lst ((ps.take (S.getD i 0)).map V.str)) := by
          rw [← hz]
          exact (sj.trans (sk.trans skn)) _ _ ei
        refine fvh (sfg.trans sgn) Oo ⟨_, _, _, _, _, _, rfl, by rw [List.length_append, lf]; rfl, ?_, ?_, rfl⟩
        · rw [List.range_succ, List.map_append, List.map_append]
          exact dtl_snoc (df.mono (sg.trans sgn)) (.tup (SqT.of en) (.cons (.str _) (.cons (.lst (SqL.of dst) (strs_dtl _)) (.cons dcs .nil))))
        · rw [List.range_succ, List.map_append]
          exact (sfa.same (sg.trans sgn)).snoc (by rw [lf, List.length_map, List.length_range]) en dst dcs
      · rintro σ' Gf Hf Lf sf Of ⟨fa, x6, x7, x11, x14, x15, rfl, lf, df, sfa, rfl⟩
        walk_at "s"
        have sn := Same.new (o := .lst fa) Of.no0
        rw [hSl] at df sfa
        exact q _ Hf fp fa st ps S bb (s09.trans (s9d.trans (sf.trans sn))) upd_same (df.mono sn) (sfa.same sn) hst nl (by omega) (by omega) hz5 hS0 (by rw [kle]; exact hsum) Of.frz0 (Bb.le (by omega))
end
end
section
open PySem PySem.Spec PyProof.Rows L2 G
set_option maxHeartbeats 4000000
local macro_rules | `(tactic| walk_at "s1") => `(tactic| with_reducible first | refine x_callW ?_ | refine x_callRW ?_ | refine x_callR ?_)
/-- rows of a standing whose one case asks nothing -/
theorem row_one {kn : List Str} {ss : List Sd} {s : Sd} {c : Cs} {ds : List PyData} (hc : s.cs = [c]) (hm : ∀ m ∈ c.ms, m = none) (h : RowsC kn ss s ds) : ds = (allM kn s.st.length).map fun mk => .tuple (.tuple (mk.map .str) :: dRest ss s.st c) := by
  refine List.ext_getElem (by rw [List.length_map]; exact h.1) fun i h1 h2 => ?_
  rw [List.length_map] at h2
  obtain ⟨j, c', ca, e⟩ := h.2 i _ _ (List.getElem?_eq_getElem h2) (List.getElem?_eq_getElem h1)
  rw [e, List.getElem_map]
  have e2 := ca.at_
  rw [hc] at e2
  cases j with
  | zero => cases e2; rfl
  | succ j => cases e2
theorem canL_strs {r : List Str} (h : ∀ x ∈ r, Wd x) : PyData.canLayAll0 (r.map PyData.str) = true := lay_all fun x hx => by
  simp only [PyData.canLay0, PyData.strOk]
  rw [← Array.all_toList, List.all_eq_true]
  intro c hc
  have := ((h x hx).let_ c hc).2
  exact decide_eq_true (by omega)
theorem x_reprN {K : PySem.W.Frag} {H : Hp} {Q : VK} {n : Nat} (h : n < 1000000) (q : Q (.str (PyData.shown (.int (n : Nat)))) H) : rRepr K [.int (n : Nat)] H Q := by
  refine x_repr (.int _) ?_ (Nat.le_trans (PyData.shown_int_le (by omega)) (by decide)) (by simp only [PyData.depth]; omega) q
  simp only [fits, decide_eq_true_eq]
  rcases Nat.eq_zero_or_pos ((n : Int).natAbs) with e | e
  · rw [e]; decide
  · exact Nat.lt_trans ((Nat.log2_lt (by omega)).mpr (show ((n : Int).natAbs) < 2 ^ 20 by omega)) (by decide)
theorem cmp_try {K : PySem.W.Frag} {CP CM : Addr} {G H : Hp} {X : List (Addr × HO)} {p : Addr} {W : List (Str × Str)} {ss : List Sd} {Q : VK} {E : XK} (pg : Prg K CP G p W ss) (O : Own G H X)
    (k : cntS (knW W).length ss ≤ 20000 → ∀ (G' H' : Hp) (q : Addr) (Ls : List (Addr × List V)) (kS : List Str) (dss : List (List PyData)), kS.Perm (knW W) → sortedS kS = true → DueL kS ss dss → Same G G' → Own G' H' ((q, .lst (Ls.map fun l => V.ref l.1)) :: (E2 Ls ++ X)) → TL K G' Ls dss → Q (.ref q) H')
    (k2 : 20000 < cntS (knW W).length ss → ∀ (d' : Addr) (G' H' : Hp), Same G G' → Own G' H' X → G' d' = some (.xd [("count", .int (cntS (knW W).length ss : Nat))]) → E (.ref CM) (some d') H') : sp_cmp K CP CM [.ref p] H Q E := by
  by_cases hc : cntS (knW W).length ss ≤ 20000
  · exact cmp_own pg O hc (k hc)
  · exact ⟨G, X, p, W, ss, rfl, O, pg, fun h => absurd h hc, k2⟩
theorem x_isiLst {K : PySem.W.Frag} {H : Hp} {Q : VK} {a : Addr} {xs : List V} (h : SqL K H a xs) (q : Q (.bl true) H) : aIsi K [.ref a, .ty "list"] H Q := .inl ⟨_, _, _, _, _, rfl, .ty _, ty_lst h, rfl, q⟩
theorem can_row {ss : List Sd} {s : Sd} {c : Cs} {mk : List Str} (hm : ∀ x ∈ mk, Wd x) (hw : Wd c.wd) : PyData.canLay0 (.tuple (.tuple (mk.map .str) :: dRest ss s.st c)) = true := by
  unfold dRest
  simp only [PyData.canLay0, PyData.canLayAll0, Bool.and_eq_true, Bool.and_true, and_true, true_and]
  refine ⟨canL_strs hm, ?_, lay_all fun x _ => by simp only [PyData.canLay0]⟩
  have := canL_strs (r := [c.wd]) fun x hx => by rw [List.mem_singleton.mp hx]; exact hw
  simp only [List.map_cons, List.map_nil, PyData.canLayAll0, Bool.and_true, PyData.canLay0] at this
  exact this
section
variable {P : Program} {w : World} {K : PySem.W.Frag} {mg : Str → Option Value} {base : Heap} {k : Nat} {kw C CP D CW CM : Addr}
abbrev s__law_wide_right : Stmt := top 60
theorem sc__law_wide_right : FnScope ["box", "ways", "by_name", "more", "standings", "program", "told", "e", "item", "known", "names", "marks", "size", "k", "name", "seats", "cases", "case", "sources", "due", "one"] ["box", "ways", "by_name"] (defScope s__law_wide_right) := ⟨rfl, rfl, rfl, by decide +kernel, rfl, by decide +kernel, by decide +kernel⟩
def sp_wrt (K : PySem.W.Frag) : Sp := fun vs H Q _ => ∃ (G : Hp) (R : List (Addr × HO)) (b wa : Addr) (bn : Bool) (N : Nat) (W : List (Str × Str)) (bx : List V), vs = [.ref b, .ref wa, .bl bn] ∧ Own G H ((b, .lst bx) :: R) ∧ WyAt G wa W ∧ WaysOk W ∧ 2 ≤ W.length ∧ Box (N + 201) bx ∧
  ∀ (G' H' : Hp) bx', Same G G' → Own G' H' ((b, .lst bx') :: R) → Box N bx' → Q (.bl true) H'
theorem ok_wrt {f : Addr} {fd : FuncData} (F : Fun K "_law_wide_right" "_law_wide_right" s__law_wide_right f fd) (B : Btt mg) (C__law_take : Cal P w K mg base (k + 1) "_law_take" ["box", "many"] sp_take) (C__law_wide : Cal P w K mg base (k + 1) "_law_wide" ["box", "ways", "more"] (sp_wid K)) (C__law_all_marks : Cal P w K mg base (k + 1) "_law_all_marks" ["known", "many"] (sp_lam K))
    (C_compiled : Cal P w K mg base (k + 1) "compiled" ["program"] (sp_cmp K CP CM)) (C_compiled_k : CalR P w K mg base (k + 1) "compiled" ["program"] ["program"] (sp_cmp K CP CM)) (I_Program : In P w K mg base k CP "Program" ["self", "ways", "standings"] (sp_pri K CP)) (X_TooMany : XkF P w K mg base (k + 1) "TooMany" "count" CM D) : FnG P w K mg base (k + 2) f fd ["box", "ways", "by_name"] (sp_wrt K) := by
  refine fnG_of F sc__law_wide_right (fun vs H Q E h => ?_) (fun cdv A outer s H vs Q E r h => ?_)
  · obtain ⟨_, _, _, _, _, _, _, _, rfl, _⟩ := h
    rfl
  · obtain ⟨G, R, b, wa, bn, N, W, bx, rfl, O, wy, wo, w2, bo, q⟩ := h
    refine ⟨_, (pss_cons (ps_set (i := 3) sc__law_wide_right.nd rfl (Or.inl rfl) (pe_ix (ixK (K := K) rfl) (d_lst (pa_cons pe_int (pa_cons pe_int (pa_cons pe_int (pa_cons pe_int (pa_cons pe_int (pa_cons pe_int pa_nil))))))) (g_call C__law_take r (by rfl) passL (pa_cons (pv 0) (pa_cons pe_int pa_nil))) (fun _ _ => rfl)))
       (pss_cons (ps_set (i := 4) sc__law_wide_right.nd rfl (Or.inl rfl) (g_call C__law_wide r (by rfl) passL (pa_cons (pv 0) (pa_cons (pv 1) (pa_cons (pv 3) pa_nil)))))
       (pss_cons (ps_set (i := 5) sc__law_wide_right.nd rfl (Or.inl rfl) (g_make I_Program r (by rfl) (takes_of rfl rfl rfl rfl) (pa_cons (pv 1) (pa_cons (pv 4) pa_nil))))
       (pss_cons (ps_try_as (i := 7) rfl rfl sc__law_wide_right.nd rfl rfl ⟨(by rfl), by decide, .inl X_TooMany.at_⟩ (takes_of rfl rfl rfl rfl) (fun W pn xe tk _ =>
       (pss_one (ps_set (i := 6) sc__law_wide_right.nd rfl (Or.inl rfl) (pe_ifExp (pt_truK (K := K) rfl (pv 2)) (g_callRW C_compiled_k r (by rfl) tk (pk_cons (pv 5) pk_nil)) (g_callW C_compiled r (by rfl) tk (pa_cons (pv 5) pa_nil))))))
       (fun a oe cls d pn hz hf =>
       (pss_one (ps_ret (pe_and (pe_cmpR oGt (pv 3) pe_int (nomark _)) (pe_one (pe_cmpR (oEqQ (K := K) rfl (r.q.mark _)) (pe_callB (cReprQ (K := K) rfl (r.q.mark _)) (by rfl) B.repr (by decide +kernel) (pa_cons (pe_xf X_TooMany.xf X_TooMany.ng hz hf (pv 7)) pa_nil)) (pe_callB (cReprQ (K := K) rfl (r.q.mark _)) (by rfl) B.repr (by decide +kernel) (pa_cons (pe_op (oAddK (K := K) rfl) pe_int (pv 3)) pa_nil)) (nomark _))))))))
       (pss_cons (ps_if (PW.pt (pw_or (pt_cmpR oGt (pv 3) pe_int (nomark _)) (pw_or (pt_not (pt_truK (K := K) rfl (pe_callB (cIsiK (K := K) rfl) (by rfl) B.isinstance (by decide +kernel) (pa_cons (pv 6) (pa_cons (pe_bltn (v := .ty "list") (u := .type "list") (by rfl) B.list (by decide +kernel) rfl) pa_nil))))) (pw_or1 (pt_cmpR (oNeK (K := K) rfl r) (pe_callB (cLenK (K := K) rfl) (by rfl) B.len (by decide +kernel) (pa_cons (pv 6) pa_nil)) (pe_callB (cLenK (K := K) rfl) (by rfl) B.len (by decide +kernel) (pa_cons (pv 4) pa_nil)) (nomark _))))))
       (pss_one (ps_ret pe_bl))
       pss_nil)
       (pss_cons (ps_asg (d_tup (pa_cons (pe_callB (cSortedK (K := K) rfl) (by rfl) B.sorted (by decide +kernel) (pa_cons (pe_op (oAddK (K := K) rfl) (pe_lc (own := [("item", 8)]) rfl sc__law_wide_right.nd (pi_sqK (K := K) rfl (pv 1)) (blkOk_by (N := ["box", "ways", "by_name", "more", "standings", "program", "told", "e", "item", "known", "names", "marks", "size", "k", "name", "seats", "cases", "case", "sources", "due", "one"]) (sc := defScope s__law_wide_right) (by decide +kernel)) (fun _ _ _ _ _ => (pg_name (i := 8) sc__law_wide_right.nd rfl (Or.inl rfl))) (fun _ _ _ _ _ => pts_nil) (fun _ _ _ _ _ => (pe_ix (ixK (K := K) rfl) (pv 8) pe_int (fun _ _ => rfl)))) (d_lst (pa_cons pe_str pa_nil))) pa_nil)) (pa_cons (pe_lc (own := [("item", 8)]) rfl sc__law_wide_right.nd (pi_sqK (K := K) rfl (pv 4)) (blkOk_by (N := ["box", "ways", "by_name", "more", "standings", "program", "told", "e", "item", "known", "names", "marks", "size", "k", "name", "seats", "cases", "case", "sources", "due", "one"]) (sc := defScope s__law_wide_right) (by decide +kernel)) (fun _ _ _ _ _ => (pg_name (i := 8) sc__law_wide_right.nd rfl (Or.inl rfl))) (fun _ _ _ _ _ => pts_nil) (fun _ _ _ _ _ => (pe_ix (ixK (K := K) rfl) (pv 8) pe_int (fun _ _ => rfl)))) (pa_cons (d_lst pa_nil) pa_nil)))) (pg_tupK (K := K) (n := 3) rfl rfl (pgs_cons (pg_name (i := 9) sc__law_wide_right.nd rfl (Or.inl rfl)) (pgs_cons (pg_name (i := 10) sc__law_wide_right.nd rfl (Or.inr rfl)) (pgs_cons (pg_name (i := 11) sc__law_wide_right.nd rfl (Or.inl rfl)) pgs_nil)))))
       (pss_cons (ps_for (passes_of rfl) rfl (pi_range1 (by rfl) B.range (pa_cons pe_int pa_nil)) (pg_name (i := 12) sc__law_wide_right.nd rfl (Or.inl rfl))
       (pss_one (ps_expr (pe_bmK' (K := K) rfl PySem.F.plainAttrs_list PySem.F.slot_list_append PySem.F.type_list_append mApp (pv 11) (pa_cons (g_call C__law_all_marks r (by rfl) passL (pa_cons (pv 9) (pa_cons (pv 12) pa_nil))) pa_nil)))))
       (pss_cons (ps_for (passes_of rfl) rfl (pi_enumA (by rfl) B.enumerate (pa_cons (pv 4) pa_nil)) (pg_tupK (K := K) (n := 2) rfl rfl (pgs_cons (pg_name (i := 13) sc__law_wide_right.nd rfl (Or.inl rfl)) (pgs_cons (pg_name (i := 8) sc__law_wide_right.nd rfl (Or.inl rfl)) pgs_nil)))
       (pss_cons (ps_asg (pv 8) (pg_tupK (K := K) (n := 3) rfl rfl (pgs_cons (pg_name (i := 14) sc__law_wide_right.nd rfl (Or.inl rfl)) (pgs_cons (pg_name (i := 15) sc__law_wide_right.nd rfl (Or.inr rfl)) (pgs_cons (pg_name (i := 16) sc__law_wide_right.nd rfl (Or.inl rfl)) pgs_nil)))))
       (pss_cons (ps_set (i := 17) sc__law_wide_right.nd rfl (Or.inr rfl) (pe_ix (ixK (K := K) rfl) (pv 16) pe_int (fun _ _ => rfl)))
       (pss_cons (ps_set (i := 18) sc__law_wide_right.nd rfl (Or.inr rfl) (pe_callTy (cTupleK (K := K) rfl) (by rfl) B.tuple (by decide +kernel) (pa_cons (pe_lc (own := [("one", 20)]) rfl sc__law_wide_right.nd (pi_sqK (K := K) rfl (pe_ix (ixK (K := K) rfl) (pv 17) pe_int (fun _ _ => rfl))) (blkOk_by (N := ["box", "ways", "by_name", "more", "standings", "program", "told", "e", "item", "known", "names", "marks", "size", "k", "name", "seats", "cases", "case", "sources", "due", "one"]) (sc := defScope s__law_wide_right) (by decide +kernel)) (fun _ _ _ _ _ => (pg_name (i := 20) sc__law_wide_right.nd rfl (Or.inl rfl))) (fun _ _ _ _ _ => pts_nil) (fun _ _ _ _ _ => (pe_bmK' (K := K) rfl PySem.F.plainAttrs_list PySem.F.slot_list_index PySem.F.type_list_index (mIndexK (K := K) rfl) (pe_op (oAddK (K := K) rfl) (pv 15) (d_lst (pa_cons pe_str pa_nil))) (pa_cons (pv 20) pa_nil)))) pa_nil)))
       (pss_cons (ps_setLc (i := 19) (own := [("one", 20)]) rfl sc__law_wide_right.nd rfl rfl (sw_true rfl rfl rfl (by decide +kernel)) (pi_sqK (K := K) rfl (pe_ix (ixK (K := K) rfl) (pv 11) (pe_callB (cLenK (K := K) rfl) (by rfl) B.len (by decide +kernel) (pa_cons (pv 15) pa_nil)) (fun _ _ => rfl))) (blkOk_by (N := ["box", "ways", "by_name", "more", "standings", "program", "told", "e", "item", "known", "names", "marks", "size", "k", "name", "seats", "cases", "case", "sources", "due", "one"]) (sc := defScope s__law_wide_right) (by decide +kernel)) (fun _ _ _ _ _ => (pg_name (i := 20) sc__law_wide_right.nd rfl (Or.inl rfl))) (fun _ _ _ _ _ => pts_nil) (fun _ _ _ _ _ => (d_tup (pa_cons (pv 20) (pa_cons (pe_ix (ixK (K := K) rfl) (pv 17) pe_int (fun _ _ => rfl)) (pa_cons (pe_bmK' (K := K) rfl PySem.F.plainAttrs_list PySem.F.slot_list_index PySem.F.type_list_index (mIndexK (K := K) rfl) (pv 10) (pa_cons (pe_ix (ixK (K := K) rfl) (pv 17) pe_int (fun _ _ => rfl)) pa_nil)) (pa_cons (pv 18) pa_nil)))))))
       (pss_one (ps_if (PW.pt (pw_or (pt_not (pt_truK (K := K) rfl (pe_callB (cIsiK (K := K) rfl) (by rfl) B.isinstance (by decide +kernel) (pa_cons (pe_ix (ixK (K := K) rfl) (pv 6) (pv 13) (fun _ _ => rfl)) (pa_cons (pe_bltn (v := .ty "list") (u := .type "list") (by rfl) B.list (by decide +kernel) rfl) pa_nil))))) (pw_or (pt_cmpR (oNeK (K := K) rfl r) (pe_ix (ixK (K := K) rfl) (pv 6) (pv 13) (fun _ _ => rfl)) (pv 19) (nomark _)) (pw_or (pt_cmpR (oNeK (K := K) rfl r) (pe_callB (cReprK (K := K) rfl r) (by rfl) B.repr (by decide +kernel) (pa_cons (pe_ix (ixK (K := K) rfl) (pe_ix (ixK (K := K) rfl) (pv 6) (pv 13) (fun _ _ => rfl)) pe_int (fun _ _ => rfl)) pa_nil)) (pe_callB (cReprK (K := K) rfl r) (by rfl) B.repr (by decide +kernel) (pa_cons (pe_ix (ixK (K := K) rfl) (pv 19) pe_int (fun _ _ => rfl)) pa_nil)) (nomark _)) (pw_or1 (pt_cmpR (oNeK (K := K) rfl r) (pe_callB (cReprK (K := K) rfl r) (by rfl) B.repr (by decide +kernel) (pa_cons (pe_ix (ixK (K := K) rfl) (pe_ix (ixK (K := K) rfl) (pv 6) (pv 13) (fun _ _ => rfl)) (pe_un un_neg pe_int) (fun _ _ => rfl)) pa_nil)) (pe_callB (cReprK (K := K) rfl r) (by rfl) B.repr (by decide +kernel) (pa_cons (pe_ix (ixK (K := K) rfl) (pv 19) (pe_un un_neg pe_int) (fun _ _ => rfl)) pa_nil)) (nomark _)))))))
       (pss_one (ps_ret pe_bl))
       pss_nil)))))))
       (pss_one (ps_ret pe_bl)))))))))), ?_⟩
    try dsimp only [cxOf]
    refine x_start (σ' := [some _, some _, some _, none, none, none, none, none, none, none, none, none, none, none, none, none, none, none, none, none, none]) rfl ?_
    have kl5 := knW_len wo
    walk_at "s"
    refine ⟨by show 6 ≤ sizeLine; decide, x_fix O fun p1 G1 H1 s1 O1 e1 => ?_⟩
    walk_at "s"
    refine ⟨G1, R, b, 6, N + 200, bx, rfl, O1, bo, by decide, by decide, fun H2 r2 b2 r20 r21 O2 B2 => ?_⟩
    obtain ⟨mo, hmo, emo⟩ := pick_nat (ls := [0, 0, 1, 2, 3, 1]) r20 r21
    have m3 : mo ≤ 3 := by
      have : ∀ z ∈ ([0, 0, 1, 2, 3, 1] : List Nat), z ≤ 3 := by decide
      exact this mo hmo
    refine x_ixl (v := .int (mo : Nat)) (SqL.of (O2.sub _ _ e1)) emo ?_
    walk_at "s"
    refine ⟨G1, R, b, wa, mo, N, W, b2, rfl, O2, wy.same s1, wo, w2, m3, B2, fun G3 H3 p3 xs st ps S b3 s3 e3 dx seats hst nl S1 S6 hz5 hS0 hsum O3 B3 => ?_⟩
    obtain ⟨ss, hss⟩ : ∃ ss, ss = wideSS st ps S := ⟨_, rfl⟩
    have ok : StOk (knW W) ss := by rw [hss]; exact wide_ok hst nl S1 S6 hz5 hS0
    have cnt : cntS (knW W).length ss = 20000 + mo := by rw [hss, wide_cnt nl hz5]; exact hsum
    have lss : ss.length = S.length := by rw [hss]; unfold wideSS; rw [List.length_map, List.length_range]
    rw [← hss] at dx seats
    have dt1 : Dt K G3 (.ref p3) (dSt true ss) := .lst (SqL.of e3) dx
    have s03 := s1.trans s3
    walk_at "s"
    refine x_make O3 fun yp dx' H4 O4 => ?_
    refine ⟨G3, _, yp, dx', wa, .ref p3, W, ss, rfl, O4, wy.same s03, wo, dt1, ok, fun G5 H5 s5 O5 pg => ⟨rfl, ?_⟩⟩
    have lxs : xs.length = ss.length := by rw [dx.length, List.length_map]
    have s05 := s03.trans s5
    -- what is due behind the try
    walk_at "n"
    refine x_midS (fun σ H' => mo = 0 ∧ ∃ (G' : Hp) (q : Addr) (Ls : List (Addr × List V)) (kS : List Str) (dss : List (List PyData)), σ = [some (.ref b), some (.ref wa), some (.bl bn), some (.int (mo : Nat)), some (.ref p3), some (.ref yp), some (.ref q), none, none, none, none, none, none, none, none, none, none, none, none, none, none] ∧ kS.Perm (knW W) ∧ sortedS kS = true ∧ DueL kS ss dss ∧ Same G5 G' ∧ Own G' H' ((q, .lst (Ls.map fun l => V.ref l.1)) :: (E2 Ls ++ ((b, .lst b3) :: R))) ∧ TL K G' Ls dss) (fun n' hn' => ?_) ?_
    · walk_at "s"
      have good : cntS (knW W).length ss ≤ 20000 → ∀ (G' H' : Hp) (q : Addr) (Ls : List (Addr × List V)) (kS : List Str) (dss : List (List PyData)), kS.Perm (knW W) → sortedS kS = true → DueL kS ss dss → Same G5 G' → Own G' H' ((q, .lst (Ls.map fun l => V.ref l.1)) :: (E2 Ls ++ ((b, .lst b3) :: R))) → TL K G' Ls dss → n' [some (.ref b), some (.ref wa), some (.bl bn), some (.int (mo : Nat)), some (.ref p3), some (.ref yp), some (.ref q), none, none, none, none, none, none, none, none, none, none, none, none, none, none] H' := fun hc G' H' q Ls kS dss pm sS du s' O' t => hn' _ _ ⟨by omega, G', q, Ls, kS, dss, rfl, pm, sS, du, s', O', t⟩
      cases bn with
      | true =>
        walk_at "s"
        refine cmp_try pg O5 (fun hc G' H' q Ls kS dss pm sS du s' O' t => ?_) (fun hc d' G' H' s' O' e' => ?_)
        · walk_at "s"
          exact good hc G' H' q Ls kS dss pm sS du s' O' t
        · refine ⟨true, X_TooMany.te, fun _ a ha => ?_, fun z => nomatch z⟩
          have hd1 := O'.sub _ _ e'
          walk_at "s"
          rw [decide_eq_true (show (0 : Int) < ((mo : Nat) : Int) by omega)]
          walk_at "s"
          refine ⟨.ref a, rfl, rfl, rfl, d', _, _, rfl, hd1, (by rw [lookup_put, if_pos rfl]), ?_⟩
          walk_at "s"
          refine x_reprN (by omega) ?_
          walk_at "s"
          rw [show (20000 : Int) + ((mo : Nat) : Int) = ((20000 + mo : Nat) : Int) by omega]
          refine x_reprN (by omega) ?_
          refine x_eq rfl ?_
          rw [cnt, decide_eq_true (rfl : V.str (PyData.shown (.int ((20000 + mo : Nat) : Int))) = V.str (PyData.shown (.int ((20000 + mo : Nat) : Int))))]
          exact q G' H' b3 (s05.trans s') O' B3
      | false =>
        walk_at "s"
        refine cmp_try pg O5 (fun hc G' H' q Ls kS dss pm sS du s' O' t => ?_) (fun hc d' G' H' s' O' e' => ?_)
        · walk_at "s"
          exact good hc G' H' q Ls kS dss pm sS du s' O' t
        · refine ⟨true, X_TooMany.te, fun _ a ha => ?_, fun z => nomatch z⟩
          have hd1 := O'.sub _ _ e'
          walk_at "s"
          rw [decide_eq_true (show (0 : Int) < ((mo : Nat) : Int) by omega)]
          walk_at "s"
          refine ⟨.ref a, rfl, rfl, rfl, d', _, _, rfl, hd1, (by rw [lookup_put, if_pos rfl]), ?_⟩
          walk_at "s"
          refine x_reprN (by omega) ?_
          walk_at "s"
          rw [show (20000 : Int) + ((mo : Nat) : Int) = ((20000 + mo : Nat) : Int) by omega]
          refine x_reprN (by omega) ?_
          refine x_eq rfl ?_
          rw [cnt, decide_eq_true (rfl : V.str (PyData.shown (.int ((20000 + mo : Nat) : Int))) = V.str (PyData.shown (.int ((20000 + mo : Nat) : Int))))]
          exact q G' H' b3 (s05.trans s') O' B3
    rintro σ' H6 ⟨rfl, G6, qt, Lt, kS, dss, rfl, pm, sS, du, s6, O6, tt⟩
    have lk : kS.length ≤ 5 := by rw [pm.length_eq]; exact kl5
    obtain ⟨X, hX⟩ : ∃ X, X = (qt, HO.lst (Lt.map fun l => V.ref l.1)) :: (E2 Lt ++ ((b, HO.lst b3) :: R)) := ⟨_, rfl⟩
    have inq : ∀ {G' H' : Hp} {A : List (Addr × HO)}, Own G' H' (A ++ X) → H' qt = some (.lst (Lt.map fun l => V.ref l.1)) := fun O => by
      rw [hX] at O
      exact O.in_
    have inl_ : ∀ {G' H' : Hp} {A : List (Addr × HO)} {l : Addr × List V}, l ∈ Lt → Own G' H' (A ++ X) → H' l.1 = some (.lst l.2) := fun {G' H' A l} hl O => by
      rw [hX] at O
      have O2 : _root_.G.Own G' H' ((A ++ [(qt, HO.lst (Lt.map fun l => V.ref l.1))]) ++ (E2 Lt ++ ((b, HO.lst b3) :: R))) := by rw [List.append_assoc]; exact O
      exact e2_in O2 hl
    have tdt := TL.dt (A := []) tt O6
    have itq : H6 qt = some (.lst (Lt.map fun l => V.ref l.1)) := O6.at0
    rw [← hX] at O6
    have ltl : Lt.length = ss.length := by rw [tt.1, du.1]
    have s36 := s5.trans s6
    walk_at "s"
    refine ite_b (fun c => absurd (of_decide_eq_true c) (by decide)) (fun _ => ?_)
    walk_at "s"
    refine x_isiLst (SqL.of itq) ?_
    walk_at "s"
    refine x_lenl (SqL.of itq) ?_
    rw [List.length_map]
    walk_at "s"
    refine x_lenl (SqL.of (O6.sub _ _ (s36 _ _ e3))) ?_
    refine x_ne rfl ?_
    rw [decide_eq_true (show V.int (Lt.length : Nat) = V.int (xs.length : Nat) by rw [ltl, lxs])]
    refine ⟨false, rfl, ite_f ?_⟩
    walk_at "s"
    obtain ⟨L, hw, pr, rfl⟩ := id wy
    have wl4 := wo.l4
    rw [List.length_map] at wl4
    have s06 := s03.trans s36
    refine x_sqL (SqL.of (O6.sub _ _ (s06 _ _ hw))) ?_
    refine lc_map (by walk_at "n") walk_list O6 (by rw [List.length_map]; omega) (fun _ i y => ((keysW (L.map (·.2))).map V.str)[i]? = some y) (fun _ _ _ _ _ z => z) (fun G' H' D acc s' O' => SqL.of (O'.sub _ _ ((s06.trans s') _ _ hw))) ?_ gm_name ?_
    · rintro i x G' H' H2' D acc hi s' O' ⟨rfl, ex⟩ kk
      obtain ⟨t, rfl, et⟩ := ref_at ex
      have gt := (s06.trans s') _ _ (pr t (List.mem_of_getElem? et))
      walk_at "s"
      refine x_ixt (v := .str t.2.1) (SqT.of (O'.sub _ _ gt)) rfl ?_
      refine kk _ _ _ (Same.refl _) O' ?_
      unfold keysW
      rw [List.getElem?_map, List.getElem?_map, List.getElem?_map, et]
      rfl
    intro G7 H7 p7 ys s7 O7 e7 l7 r7
    obtain rfl := ext_map (by rw [l7]; unfold keysW; rw [List.length_map, List.length_map, List.length_map, List.length_map]) r7
    walk_at "s"
    refine ⟨by show 1 ≤ sizeLine; decide, x_fix O7 fun p8 G8 H8 s8 O8 e8 => ?_⟩
    refine x_addl (O8.sub _ _ (s8 _ _ e7)) (O8.sub _ _ e8) (by unfold keysW; rw [List.length_map, List.length_map, List.length_map, sizeLine_eq]; simp; omega) (x_fix O8 fun p9 G9 H9 s9 O9 e9 => ?_)
    have e9 : G9 p9 = some (.lst ((keysW (L.map (·.2)) ++ [wIs]).map V.str)) := by rw [List.map_append]; exact e9
    walk_at "s"
    refine x_sortedS (SqL.of (O9.sub _ _ e9)) (by unfold keysW; rw [List.length_append, List.length_map, List.length_map]; simp; omega) fun kS2 pm2 sS2 => x_fix O9 fun kp Ga Ha sa Oa ea => ?_
    obtain rfl : kS2 = kS := sorted_one sS2 sS ((pm2.trans List.perm_append_comm).trans pm.symm)
    have s6a := s7.trans (s8.trans (s9.trans sa))
    have s3a := s36.trans s6a
    walk_at "s"
    refine x_sqL (SqL.of (Oa.sub _ _ (s3a _ _ e3))) ?_
    refine lc_map (by walk_at "n") walk_list Oa (by omega) (fun _ i y => ((ss.map (·.nm)).map V.str)[i]? = some y) (fun _ _ _ _ _ z => z) (fun G' H' D acc s' O' => SqL.of (O'.sub _ _ ((s3a.trans s') _ _ e3))) ?_ gm_name ?_
    · rintro i x G' H' H2' D acc hi s' O' ⟨rfl, ex⟩ kk
      obtain ⟨sd, es, hs⟩ := dtl_mapAt dx ex
      obtain ⟨c, v2, v3, rfl, hb, h2, h3⟩ := dt_sd hs
      walk_at "s"
      refine x_ixt (v := .str sd.nm) (O'.set (same_t (s3a.trans s') hb)) rfl ?_
      exact kk _ _ _ (Same.refl _) O' (by rw [List.getElem?_map, List.getElem?_map, es]; rfl)
    intro Gb Hb np yb sb Ob eb lb rb
    obtain rfl := ext_map (by rw [lb, lxs, List.length_map, List.length_map]) rb
    walk_at "s"
    refine ⟨by show 0 ≤ sizeLine; decide, x_new Ob fun mp Hc Oc => ?_⟩
    walk_at "s"
    refine ⟨by show 3 ≤ sizeLine; decide, x_fix Oc fun pd Gd Hd1 sd' Od ed => ?_⟩
    refine x_gT (SqT.of (Od.sub _ _ ed)) rfl ?_
    refine x_gC ?_
    walk_at "n1"
    refine x_gC ?_
    walk_at "n1"
    refine x_gC ?_
    walk_at "n1"
    refine x_gNl ?_
    walk_at "s"
    refine x_rg (by decide) (by decide) ?_
    have sad := sb.trans sd'
    refine for_own walk_range Od (fun i σ' G' L' => ∃ (ms : List V) (x12 : Option V), L' = (mp, .lst ms) :: X ∧ ms.length = i ∧ (∀ (j : Nat) (y : V), ms[j]? = some y → ∃ (p : Addr) (As : List (Addr × List Str)), y = .ref p ∧ G' p = some (.lst (As.map fun q => V.ref q.1)) ∧ Tps G' As ∧ As.map (·.2) = allM kS2 j) ∧ σ' = [some (.ref b), some (.ref wa), some (.bl bn), some (.int ((0 : Nat) : Int)), some (.ref p3), some (.ref yp), some (.ref qt), none, none, some (.ref kp), some (.ref np), some (.ref mp), x12, none, none, none, none, none, none, none, none])
      ⟨[], none, rfl, rfl, (fun j y e => by simp at e), rfl⟩ (fun _ _ _ _ _ _ _ _ => True.intro) ?_ ?_
    · rintro i x σ' G' H' H2' L' hi s' O' ⟨ms, x12, rfl, lm, hm, rfl⟩ ⟨rfl, rfl⟩
      have hi6 : i < 6 := hi
      walk_at "n1"
      walk_at "s"
      refine ⟨ty_l (SqL.of O'.at0), ?_⟩
      walk_at "s"
      rw [Int.zero_add]
      refine ⟨G', _, kp, kS2, i, rfl, O', SqL.of ((sad.trans s') _ _ ea), lk, by omega, fun Ge He qe As se Oe ee tA eA => ?_⟩
      walk_at "s"
      refine x_app Oe.at0 (lt_line (by omega)) (x_md0 Oe fun Hf Of => ?_)
      walk_at "s"
      refine fvh (s'.trans se) Of ⟨_, _, rfl, by rw [List.length_append, lm]; rfl, fun j y e => ?_, rfl⟩
      rcases Nat.lt_trichotomy j ms.length with h | h | h
      · rw [List.getElem?_append_left h] at e
        obtain ⟨p, As', h1, h2, h3, h4⟩ := hm j y e
        exact ⟨p, As', h1, se _ _ h2, h3.same se, h4⟩
      · subst h
        rw [List.getElem?_append_right (Nat.le_refl _), Nat.sub_self] at e
        cases e
        exact ⟨qe, As, rfl, ee, tA, by rw [lm]; exact eA⟩
      · rw [List.getElem?_eq_none (by rw [List.length_append]; simp; omega)] at e
        cases e
    · rintro σ' Ge He Le se Oe ⟨ms, x12, rfl, lm, hm, rfl⟩
      have lm : ms.length = 6 := lm
      have sfm := Same.new (o := .lst ms) Oe.no0
      have Of := Oe.frz0
      have ef : upd Ge mp (.lst ms) mp = some (.lst ms) := upd_same
      have hm2 : ∀ (j : Nat) (y : V), ms[j]? = some y → ∃ (p : Addr) (As : List (Addr × List Str)), y = .ref p ∧ upd Ge mp (.lst ms) p = some (.lst (As.map fun q => V.ref q.1)) ∧ Tps (upd Ge mp (.lst ms)) As ∧ As.map (·.2) = allM kS2 j := fun j y e => let ⟨p, As, h1, h2, h3, h4⟩ := hm j y e; ⟨p, As, h1, sfm _ _ h2, h3.same sfm, h4⟩
      generalize upd Ge mp (.lst ms) = Gf at sfm Of ef hm2
      have saf := sad.trans (se.trans sfm)
      have s3f := s3a.trans saf
      have sbf := sd'.trans (se.trans sfm)
      have s6f := s6a.trans saf
      walk_at "s"
      refine x_enS Of (.inl (SqL.of (s3f _ _ e3))) fun J Gdd Wk hG => ?_
      refine for_own Wk Of (fun i σ' G' L' => ∃ (x8 x12 x13 x14 x15 x16 x17 x18 x19 : Option V), X = L' ∧ σ' = [some (.ref b), some (.ref wa), some (.bl bn), some (.int ((0 : Nat) : Int)), some (.ref p3), some (.ref yp), some (.ref qt), none, x8, some (.ref kp), some (.ref np), some (.ref mp), x12, x13, x14, x15, x16, x17, x18, x19, none])
        ⟨_, _, _, _, _, _, _, _, _, rfl, rfl⟩ (fun i σ' G' H' L' s' O' _ => hG G' H' L' s' O') ?_ ?_
      · rintro i x σ' Gg Hg Hg' Lg hi sg Og ⟨x8, x12, x13, x14, x15, x16, x17, x18, x19, rfl, rfl⟩ ⟨T5, y1, y2, rfl, hT, rfl, e1', e2'⟩
        cases e1'
        have e2' : xs[i]? = some y2 := e2'
        obtain ⟨sd, es, hs⟩ := dtl_mapAt dx e2'
        have so := ok.sd sd (List.mem_of_getElem? es)
        have sl5 := so.sl
        obtain ⟨ta, b2, b3', rfl, hta, hb2, hb3⟩ := seats i _ sd e2' es
        obtain ⟨c, hc1⟩ : ∃ c, sd.cs = [c] ∧ ∀ m ∈ c.ms, m = none := by
          rw [hss] at es
          unfold wideSS at es
          rw [List.getElem?_map] at es
          cases e : (List.range S.length)[i]? with
          | none => rw [e] at es; cases es
          | some j =>
            rw [e] at es
            cases es
            exact ⟨_, rfl, fun m hm => List.eq_of_mem_replicate hm⟩
        obtain ⟨hcs, hnone⟩ := hc1
        have co := so.cs c (by rw [hcs]; exact List.mem_singleton_self _)
        obtain ⟨ds, eds⟩ : ∃ ds, dss[i]? = some ds := ⟨_, List.getElem?_eq_getElem (by rw [du.1]; exact (List.getElem?_eq_some_iff.mp es).1)⟩
        have hrow := row_one hcs hnone (du.2 i ds sd eds es)
        obtain ⟨l, el⟩ : ∃ l, Lt[i]? = some l := ⟨_, List.getElem?_eq_getElem (by rw [ltl]; exact (List.getElem?_eq_some_iff.mp es).1)⟩
        have dl := tt.2 i l ds el eds
        rw [hcs] at hb3
        obtain ⟨bc, cx, ebc, hbc, hcx⟩ := dt_lst hb3
        cases ebc
        obtain _ | ⟨dc, t0⟩ := hcx
        cases t0
        rename_i xc
        obtain ⟨ca, v1, v4, rfl, hca, h1, h4⟩ := dt_cs dc
        obtain ⟨b4, rfl, hb4⟩ := dt_strsL (show Dt K G3 v4 (.list (c.sr.map .str)) from h4)
        have l5c : c.sr.length ≤ 5 := by rw [co.sl]; exact roomS_le (fun s hs => (ok.sd s hs).sl) _
        obtain ⟨Gh, Hh, sh, Oh, eh, hHh⟩ := new_pair Og hT
        rw [hHh]
        have s3h := s3f.trans (sg.trans sh)
        have sfh := sg.trans sh
        refine x_gT (SqT.of (Oh.sub _ _ eh)) rfl ?_
        refine x_gC ?_
        walk_at "n1"
        refine x_gC ?_
        walk_at "n1"
        refine x_gNl ?_
        walk_at "s"
        refine x_gT (SqT.of (Oh.sub _ _ (s3h _ _ hta))) rfl ?_
        refine x_gC ?_
        walk_at "n1"
        refine x_gC ?_
        walk_at "n1"
        refine x_gC ?_
        walk_at "n1"
        refine x_gNl ?_
        walk_at "s"
        refine x_ixl (v := .ref ca) (Oh.seq (s3h.seq hbc)) rfl ?_
        walk_at "s"
        refine x_ixt (v := .ref b4) (Oh.set (same_t s3h hca)) rfl ?_
        refine x_sqL (Oh.seq (s3h.seq hb4)) ?_
        refine lc_map (by walk_at "n") walk_list Oh (by rw [List.length_map]; omega) (fun _ u y => ∀ x, c.sr[u]? = some x → y = .int (ixOf (sd.st ++ [wNew]) x : Nat)) (fun _ _ _ _ _ z => z) (fun G' H' D acc s' O' => O'.seq ((s3h.trans s').seq hb4)) ?_ gm_name ?_
        · rintro u x G' H' H2' D acc hu s' O' ⟨rfl, ex⟩ kk
          obtain ⟨z, rfl, ez⟩ := txt_at ex
          walk_at "s"
          refine ⟨by show 1 ≤ sizeLine; decide, x_fix O' fun pn1 G1' H1' s1' O1' e1'' => ?_⟩
          refine x_addl (O1'.sub _ _ ((s3h.trans (s'.trans s1')) _ _ hb2)) (O1'.sub _ _ e1'') (sz20 (by rw [List.length_map]; show sd.st.length + 1 ≤ _; omega)) (x_fix O1' fun pn2 G2' H2'' s2' O2' e2'' => ?_)
          have e2'' : G2' pn2 = some (.lst ((sd.st ++ [wNew]).map V.str)) := by rw [List.map_append]; exact e2''
          refine ⟨ty_l (SqL.of (O2'.sub _ _ e2'')), ?_⟩
          walk_at "s"
          have mz : z ∈ sd.st ++ [wNew] := (co.sr z (List.mem_of_getElem? ez)).elim (fun e => List.mem_append_right _ (by rw [e]; exact List.mem_singleton_self _)) (fun e => List.mem_append_left _ e)
          refine x_indexS (SqL.of (O2'.sub _ _ e2'')) mz ?_
          refine kk _ _ _ (s1'.trans s2') O2' fun x e => ?_
          rw [ez] at e
          cases e
          rfl
        intro Gi Hi pi yi si Oi ei li ri
        walk_at "s"
        refine x_tupleL (SqL.of (Oi.sub _ _ ei)) (x_fix Oi fun tp Gj Hj sj Oj ej => ?_)
        have s3j := s3h.trans (si.trans sj)
        have sfj := sfh.trans (si.trans sj)
        have dsrc : Dt K Gj (.ref tp) (.tuple (c.sr.map fun x => .int (ixOf (sd.st ++ [wNew]) x : Nat))) := by
          refine .tup (SqT.of ej) (dtl_map (by rw [li, List.length_map]) fun u y x e1 e2 => ?_)
          rw [ri u y e1 x e2]
          exact .int _
        walk_at "s"
        refine x_lenl (SqL.of (Oj.sub _ _ (s3j _ _ hb2))) ?_
        rw [List.length_map]
        obtain ⟨ym, eym⟩ : ∃ y, ms[sd.st.length]? = some y := ⟨_, List.getElem?_eq_getElem (by omega)⟩
        obtain ⟨qm, As, rfl, hqm, tA, eA⟩ := hm2 _ _ eym
        refine x_ixl (v := .ref qm) (SqL.of (Oj.sub _ _ (sfj _ _ ef))) (atI_nat eym) ?_
        have lA : As.length ≤ 3125 := by rw [← List.length_map (f := (·.2)) (as := As), eA]; exact allM_le lk sl5
        refine x_sqL (SqL.of (Oj.sub _ _ (sfj _ _ hqm))) ?_
        refine lc_map (by walk_at "n") walk_list Oj (by rw [List.length_map]; omega) (fun G' u y => ∀ mk, (As.map (·.2))[u]? = some mk → Dt K G' y (.tuple (.tuple (mk.map .str) :: dRest ss sd.st c))) (fun _ _ _ _ s z mk e => (z mk e).mono s) (fun G' H' D acc s' O' => SqL.of (O'.sub _ _ ((sfj.trans s') _ _ hqm))) ?_ gm_name ?_
        · rintro u x G' H' H2' D acc hu s' O' ⟨rfl, ex⟩ kk
          obtain ⟨t, rfl, et⟩ := ref_at ex
          have gt := (sfj.trans s') _ _ (tA t (List.mem_of_getElem? et))
          walk_at "s"
          refine x_ixt (v := .str c.wd) (O'.set (same_t (s3j.trans s') hca)) rfl ?_
          walk_at "s"
          have hnp := (sbf.trans (sfj.trans s')) _ _ eb
          refine ⟨ty_l (SqL.of (O'.sub _ _ hnp)), ?_⟩
          walk_at "s"
          refine x_ixt (v := .str c.gl) (O'.set (same_t (s3j.trans s') hca)) rfl ?_
          walk_at "s"
          refine x_indexS (SqL.of (O'.sub _ _ hnp)) co.gl ?_
          walk_at "s"
          refine ⟨by show 4 ≤ sizeLine; decide, x_fix O' fun pr Gr Hr sr Or er => ?_⟩
          refine kk _ _ _ sr Or fun mk e => ?_
          rw [List.getElem?_map, et] at e
          cases e
          exact .tup (SqT.of er) (.cons (.tup (SqT.of (sr _ _ gt)) (strs_dtl _)) (.cons (.str _) (.cons (.int _) (.cons (dsrc.mono (s'.trans sr)) .nil))))
        intro Gk Hk pk yk sk Ok ek lk' rk
        rw [List.length_map] at lk'
        have ddue : DtL K Gk yk ds := by
          rw [hrow, ← eA]
          exact dtl_map (by rw [lk', List.length_map]) fun u y mk e1 e2 => rk u y e1 mk e2
        have dle : yk.length = ds.length := ddue.length
        have dpos : 0 < ds.length := by
          rw [hrow, List.length_map, allM_len]
          refine Nat.pow_pos ?_
          rw [pm.length_eq]
          unfold knW
          rw [List.length_cons]
          omega
        have hwd : ∀ mk ∈ allM kS2 sd.st.length, ∀ x ∈ mk, Wd x := fun mk hmk x hx => kn_wd wo x (pm.mem_iff.mp ((allM_mem hmk).2 x hx))
        have canr : ∀ d ∈ ds, PyData.canLay0 d = true ∧ d.depth ≤ 10 := fun d hd => by
          have bd := rows_bd wo ok (by omega) pm (List.mem_of_getElem? es) (du.2 i ds sd eds es) d hd
          rw [hrow] at hd
          obtain ⟨mk, hmk, rfl⟩ := List.mem_map.mp hd
          exact ⟨can_row (hwd mk hmk) co.wd, Nat.le_trans bd.dep (by decide)⟩
        have can : PyData.canLay0 (.list ds) = true := by
          simp only [PyData.canLay0]
          have := lay_all (f := id) (xs := ds) fun d hd => (canr d hd).1
          rwa [List.map_id] at this
        have shp : SeqAt.shaped (.list ds) = true := by
          unfold SeqAt.shaped
          rw [can, Bool.true_and]
          refine decide_eq_true ?_
          simp only [PyData.depth]
          have := depth_all (f := id) (n := 10) (xs := ds) fun d hd => (canr d hd).2
          rw [List.map_id] at this
          omega
        have s6k := s6f.trans (sfj.trans sk)
        have ltk : l.2.length = ds.length := dl.length
        have el2 := inl_ (A := []) (List.mem_of_getElem? el) Ok
        have dtl : Dt K Hk (.ref l.1) (.list ds) := .lst (SqL.of el2) (dl.mono fun a o e => Ok.sub a o (s6k a o e))
        have eq2 := inq (A := []) Ok
        have eqi : (Lt.map fun l => V.ref l.1)[i]? = some (.ref l.1) := by rw [List.getElem?_map, el]; rfl
        have ekH := Ok.sub _ _ ek
        have bdr := rows_bd wo ok (by omega) pm (List.mem_of_getElem? es) (du.2 i ds sd eds es)
        walk_at "s"
        refine x_ixl (v := .ref l.1) (SqL.of eq2) (atI_nat eqi) ?_
        walk_at "s"
        refine x_isiLst (SqL.of el2) ?_
        walk_at "s"
        refine x_ixl (v := .ref l.1) (SqL.of eq2) (atI_nat eqi) ?_
        walk_at "s"
        refine x_ned dtl (Ok.dt (.lst (SqL.of ek) ddue)) shp shp ?_
        rw [SeqAt.eqv_refl _ can]
        refine ⟨false, rfl, ite_f ?_⟩
        walk_at "s"
        refine x_ixl (v := .ref l.1) (SqL.of eq2) (atI_nat eqi) ?_
        walk_at "s"
        obtain ⟨w0, ew0⟩ : ∃ w0, l.2[0]? = some w0 := ⟨_, List.getElem?_eq_getElem (by omega)⟩
        obtain ⟨d0, ed0, hd0⟩ := dtl_at dl ew0
        obtain ⟨u0, eu0, hu0⟩ := ddue.get 0 ed0
        refine x_ixl (v := w0) (SqL.of el2) (by show atI _ ((0 : Nat) : Int) = _; exact atI_nat ew0) ?_
        walk_at "s"
        refine x_reprB (hd0.mono fun a o e => Ok.sub a o (s6k a o e)) (bdr d0 (List.mem_of_getElem? ed0)) (by decide) (by decide) ?_
        walk_at "s"
        refine x_ixl (v := u0) (SqL.of ekH) (by show atI _ ((0 : Nat) : Int) = _; exact atI_nat eu0) ?_
        walk_at "s"
        refine x_reprB (Ok.dt hu0) (bdr d0 (List.mem_of_getElem? ed0)) (by decide) (by decide) ?_
        refine x_ne rfl ?_
        rw [decide_eq_true (rfl : V.str (PyData.shown d0) = V.str (PyData.shown d0))]
        refine ⟨false, rfl, ite_f ?_⟩
        walk_at "s"
        refine x_ixl (v := .ref l.1) (SqL.of eq2) (atI_nat eqi) ?_
        walk_at "s"
        obtain ⟨w9, ew9⟩ : ∃ w9, l.2[l.2.length - 1]? = some w9 := ⟨_, List.getElem?_eq_getElem (by omega)⟩
        obtain ⟨d9, ed9, hd9⟩ := dtl_at dl ew9
        obtain ⟨u9, eu9, hu9⟩ := ddue.get _ ed9
        rw [ltk, ← dle] at eu9
        refine x_ixl (v := w9) (SqL.of el2) (atI_neg1 ew9) ?_
        walk_at "s"
        refine x_reprB (hd9.mono fun a o e => Ok.sub a o (s6k a o e)) (bdr d9 (List.mem_of_getElem? ed9)) (by decide) (by decide) ?_
        walk_at "s"
        refine x_ixl (v := u9) (SqL.of ekH) (atI_neg1 eu9) ?_
        walk_at "s"
        refine x_reprB (Ok.dt hu9) (bdr d9 (List.mem_of_getElem? ed9)) (by decide) (by decide) ?_
        refine x_ne rfl ?_
        rw [decide_eq_true (rfl : V.str (PyData.shown d9) = V.str (PyData.shown d9))]
        refine ⟨false, rfl, ite_f ?_⟩
        walk_at "s"
        exact fvh (sg.trans (sh.trans (si.trans (sj.trans sk)))) Ok ⟨_, _, _, _, _, _, _, _, _, rfl, rfl⟩
      · rintro σ' Gg Hg Lg sg Og ⟨x8, x12, x13, x14, x15, x16, x17, x18, x19, rfl, rfl⟩
        walk_at "s"
        rw [hX] at Og
        exact q Gg Hg b3 (s03.trans (s3f.trans sg)) (Own.dropA (A := E2 Lt) Og.tail) B3
end
end
section
open PySem PySem.Spec PyProof.Rows L2 G
set_option maxHeartbeats 4000000
section
variable {P : Program} {w : World} {K : PySem.W.Frag} {mg : Str → Option Value} {base : Heap} {k : Nat} {kw C CP D CW CM : Addr}
abbrev s__law_cell_right : Stmt := top 65
theorem sc__law_cell_right : FnScope ["box", "first", "size", "way", "by_name", "ways", "names", "wide", "standings", "item"] ["box", "first"] (defScope s__law_cell_right) := ⟨rfl, rfl, rfl, by decide +kernel, rfl, by decide +kernel, by decide +kernel⟩
def sp_crr (K : PySem.W.Frag) : Sp := fun vs H Q _ => ∃ (G : Hp) (R : List (Addr × HO)) (b : Addr) (fi : Bool) (bx : List V), vs = [.ref b, .bl fi] ∧ Own G H ((b, .lst bx) :: R) ∧ Box 1000000000 bx ∧ ∀ (G' H' : Hp), Same G G' → Own G' H' R → Q (.bl true) H'
theorem waysAB : WaysOk [(Str.ofString "ab", Str.ofString "a"), (Str.ofString "a", Str.ofString "ab")] := by
  have nA : Nm (Str.ofString "a") := ⟨by decide +kernel, by decide +kernel, by
    have e : ∀ c ∈ (Str.ofString "a").cps.toList, 97 ≤ c ∧ c ≤ 122 := by decide +kernel
    exact e, by decide +kernel⟩
  have nB : Nm (Str.ofString "ab") := ⟨by decide +kernel, by decide +kernel, by
    have e : ∀ c ∈ (Str.ofString "ab").cps.toList, 97 ≤ c ∧ c ≤ 122 := by decide +kernel
    exact e, by decide +kernel⟩
  have k2 : ∀ x ∈ keysW [(Str.ofString "ab", Str.ofString "a"), (Str.ofString "a", Str.ofString "ab")], x = Str.ofString "ab" ∨ x = Str.ofString "a" := fun x hx => by
    unfold keysW at hx
    simp only [List.map_cons, List.map_nil, List.mem_cons, List.not_mem_nil, or_false] at hx
    exact hx
  have b1 : bS [(Str.ofString "ab", Str.ofString "a"), (Str.ofString "a", Str.ofString "ab")] (Str.ofString "ab") = Str.ofString "a" := by decide +kernel
  have b2 : bS [(Str.ofString "ab", Str.ofString "a"), (Str.ofString "a", Str.ofString "ab")] (Str.ofString "a") = Str.ofString "ab" := by decide +kernel
  refine ⟨by decide, by decide, fun p hp => ?_, by decide +kernel, fun x hx => ?_, fun x hx => ?_⟩
  · simp only [List.mem_cons, List.not_mem_nil, or_false] at hp
    rcases hp with rfl | rfl
    · exact nB
    · exact nA
  · rcases k2 x hx with rfl | rfl
    · rw [b1]; unfold keysW; simp
    · rw [b2]; unfold keysW; simp
  · rcases k2 x hx with rfl | rfl
    · rw [b1, b2]
    · rw [b2, b1]
theorem ok_crr {f : Addr} {fd : FuncData} (F : Fun K "_law_cell_right" "_law_cell_right" s__law_cell_right f fd) (B : Btt mg) (C__law_take : Cal P w K mg base k "_law_take" ["box", "many"] sp_take) (C__law_ways : Cal P w K mg base k "_law_ways" ["box"] sp_wys) (C__law_wide_right : Cal P w K mg base k "_law_wide_right" ["box", "ways", "by_name"] (sp_wrt K)) (C__law_holder : Cal P w K mg base k "_law_holder" ["box", "names"] (sp_hol K))
    (C__law_standings : Cal P w K mg base k "_law_standings" ["box", "names", "many"] (sp_sts K)) (C__law_program_right : Cal P w K mg base k "_law_program_right" ["box", "ways", "standings", "by_name"] (sp_prr K)) (C__law_cut : Cal P w K mg base k "_law_cut" ["ways", "standings"] (sp_cut K)) : FnG P w K mg base (k + 1) f fd ["box", "first"] (sp_crr K) := by
  refine fnG_of F sc__law_cell_right (fun vs H Q E h => ?_) (fun cdv A outer s H vs Q E r h => ?_)
  · obtain ⟨_, _, _, _, _, rfl, _⟩ := h
    rfl
  · obtain ⟨G, R, b, fi, bx, rfl, O, bo, q⟩ := h
    refine ⟨_, (pss_cons (ps_par3 (i := 2) (j := 3) (l := 4) rfl sc__law_cell_right.nd rfl rfl rfl (by decide) (by decide) (by decide) rfl rfl rfl (pa_cons (g_call C__law_take r (by rfl) passL (pa_cons (pv 0) (pa_cons pe_int pa_nil))) (pa_cons (g_call C__law_take r (by rfl) passL (pa_cons (pv 0) (pa_cons pe_int pa_nil))) (pa_cons (pe_cmpR (oEqK (K := K) rfl r) (g_call C__law_take r (by rfl) passL (pa_cons (pv 0) (pa_cons pe_int pa_nil))) pe_int (nomark _)) pa_nil))) (by rfl))
       (pss_cons (ps_set (i := 5) sc__law_cell_right.nd rfl (Or.inl rfl) (g_call C__law_ways r (by rfl) passL (pa_cons (pv 0) pa_nil)))
       (pss_cons (ps_setLc (i := 6) (own := [("item", 9)]) rfl sc__law_cell_right.nd rfl rfl (sw_true rfl rfl rfl (by decide +kernel)) (pi_sqK (K := K) rfl (pv 5)) (blkOk_by (N := ["box", "first", "size", "way", "by_name", "ways", "names", "wide", "standings", "item"]) (sc := defScope s__law_cell_right) (by decide +kernel)) (fun _ _ _ _ _ => (pg_name (i := 9) sc__law_cell_right.nd rfl (Or.inl rfl))) (fun _ _ _ _ _ => pts_nil) (fun _ _ _ _ _ => (pe_ix (ixK (K := K) rfl) (pv 9) pe_int (fun _ _ => rfl))))
       (pss_cons (ps_if (PW.pt (pw_and (pt_truK (K := K) rfl (pv 1)) (pw_and1 (pt_cmpR oGt (pv 2) pe_int (nomark _)))))
       (pss_cons (ps_set (i := 7) sc__law_cell_right.nd rfl (Or.inl rfl) (pe_ifExp (pt_cmpR oGt (pe_callB (cLenK (K := K) rfl) (by rfl) B.len (by decide +kernel) (pa_cons (pv 5) pa_nil)) pe_int (nomark _)) (pv 5) (d_lst (pa_cons (d_tup (pa_cons pe_str (pa_cons pe_str pa_nil))) (pa_cons (d_tup (pa_cons pe_str (pa_cons pe_str pa_nil))) pa_nil)))))
       (pss_one (ps_ret (g_call C__law_wide_right r (by rfl) passL (pa_cons (pv 0) (pa_cons (pv 7) (pa_cons (pv 4) pa_nil)))))))
       pss_nil)
       (pss_cons (ps_set (i := 8) sc__law_cell_right.nd rfl (Or.inl rfl) (pe_ifExp (pt_cmpR (oEqK (K := K) rfl r) (pv 3) pe_int (nomark _)) (g_call C__law_holder r (by rfl) passL (pa_cons (pv 0) (pa_cons (pv 6) pa_nil))) (g_call C__law_standings r (by rfl) passL (pa_cons (pv 0) (pa_cons (pv 6) (pa_cons (pe_ix (ixK (K := K) rfl) (d_lst (pa_cons pe_int (pa_cons pe_int (pa_cons pe_int (pa_cons pe_int (pa_cons pe_int (pa_cons pe_int (pa_cons pe_int (pa_cons pe_int pa_nil))))))))) (pv 2) (fun _ _ => rfl)) pa_nil))))))
       (pss_one (ps_ret (g_call C__law_program_right r (by rfl) passL (pa_cons (pv 0) (pa_cons (pv 5) (pa_cons (g_call C__law_cut r (by rfl) passL (pa_cons (pv 5) (pa_cons (pv 8) pa_nil))) (pa_cons (pv 4) pa_nil)))))))))))), ?_⟩
    try dsimp only [cxOf]
    refine x_start (σ' := [some _, some _, none, none, none, none, none, none, none, none]) rfl ?_
    have bo := bo.le (show 5000 ≤ 1000000000 by decide)
    walk_at "s"
    refine ⟨G, R, b, 8, 4999, bx, rfl, O, bo, by decide, by decide, fun H1 r1 b1 r10 r11 O1 B1 => ?_⟩
    walk_at "s"
    refine ⟨G, R, b, 3, 4998, b1, rfl, O1, B1, by decide, by decide, fun H2 r2 b2 r20 r21 O2 B2 => ?_⟩
    walk_at "s"
    refine ⟨G, R, b, 2, 4997, b2, rfl, O2, B2, by decide, by decide, fun H3 r3 b3 r30 r31 O3 B3 => ?_⟩
    walk_at "s"
    refine x_eq rfl ?_
    obtain ⟨bn, hbn⟩ : ∃ bn, bn = decide (V.int r3 = V.int 1) := ⟨_, rfl⟩
    rw [← hbn]
    walk_at "s"
    refine ⟨G, R, b, 4900, b3, rfl, O3, B3.le (by decide), fun G4 H4 p4 W b4 s4 wy wo O4 B4 => ?_⟩
    walk_at "s"
    obtain ⟨L, hw, pr, rfl⟩ := id wy
    have wl4 := wo.l4
    have wl1 := wo.l1
    rw [List.length_map] at wl4 wl1
    refine x_sqL (SqL.of (O4.sub _ _ hw)) ?_
    refine lc_map (by walk_at "n") walk_list O4 (by rw [List.length_map]; omega) (fun _ i y => ((keysW (L.map (·.2))).map V.str)[i]? = some y) (fun _ _ _ _ _ z => z) (fun G' H' D acc s' O' => SqL.of (O'.sub _ _ (s' _ _ hw))) ?_ gm_name ?_
    · rintro i x G' H' H2' D acc hi s' O' ⟨rfl, ex⟩ kk
      obtain ⟨t, rfl, et⟩ := ref_at ex
      have gt := s' _ _ (pr t (List.mem_of_getElem? et))
      walk_at "s"
      refine x_ixt (v := .str t.2.1) (SqT.of (O'.sub _ _ gt)) rfl ?_
      refine kk _ _ _ (Same.refl _) O' ?_
      unfold keysW
      rw [List.getElem?_map, List.getElem?_map, List.getElem?_map, et]
      rfl
    intro G5 H5 p5 ys s5 O5 e5 l5 r5
    obtain rfl := ext_map (by rw [l5]; unfold keysW; rw [List.length_map, List.length_map, List.length_map, List.length_map]) r5
    obtain ⟨ns, hns⟩ : ∃ ns, ns = keysW (L.map (·.2)) := ⟨_, rfl⟩
    rw [← hns] at e5
    have nl : NmL ns.length ns := ⟨rfl, fun x hx => by
      rw [hns] at hx
      obtain ⟨p, hp, rfl⟩ := List.mem_map.mp hx
      exact wo.nm p hp, by rw [hns]; exact wo.nd⟩
    have ln4 : ns.length ≤ 4 := by rw [hns]; unfold keysW; rw [List.length_map, List.length_map]; exact wl4
    have kne : knW (L.map (·.2)) = wIs :: ns := by rw [hns]; rfl
    have s05 := s4.trans s5
    -- many rows
    have wide : ∀ (G' H' : Hp) (p : Addr) (W : List (Str × Str)), Same G5 G' → Own G' H' ((b, .lst b4) :: R) → WyAt G' p W → WaysOk W → 2 ≤ W.length → sp_wrt K [.ref b, .ref p, .bl bn] H' Q (fun _ _ _ => False) := fun G' H' p W s' O' wy' wo' w2 => ⟨G', R, b, p, bn, 0, W, b4, rfl, O', wy', wo', w2, B4.le (by decide), fun G2 H2' bx2 s2 O2' B2' => q G2 H2' (s05.trans (s'.trans s2)) O2'.tail⟩
    -- the others
    have rest : ∀ (G' H' : Hp) (p : Addr) (xs : List V) (ss : List Sd) (b' : List V), Same G5 G' → Own G' H' ((b, .lst b') :: R) → G' p = some (.lst xs) → DtL K G' xs (ss.map (dSd true)) → StOk (wIs :: ns) ss → ss.length ≤ 6 → Box 1000 b' → sp_cut K [.ref p4, .ref p] H' (fun x H2 => tCons (tVar 4) tNil [some (.ref b), some (.bl fi), some (.int r1), some (.int r2), some (.bl bn), some (.ref p4), some (.ref p5), none, some (.ref p), none] H2 fun xs H2 => sp_prr K (.ref b :: .ref p4 :: x :: xs) H2 Q (fun _ _ _ => False)) (fun _ _ _ => False) := fun G' H' p xs ss b' s' O' e' dx ok l6 B' => by
      refine ⟨G', _, p4, .ref p, _, ss, rfl, O', wy.same (s5.trans s'), wo, .lst (SqL.of e') dx, by rw [kne]; exact ok, l6, fun G2 H2' p2 xs2 ss2 s2 O2' e2 dx2 ok2 l2 cn => ?_⟩
      walk_at "s"
      exact ⟨G2, R, b, p4, p2, bn, 900, xs2, _, ss2, b', rfl, O2', wy.same (s5.trans (s'.trans s2)), wo, e2, dx2, ok2, by omega, cn, B'.le (by decide), fun G3 H3' bx3 s3 O3' B3' => q G3 H3' (s05.trans (s'.trans (s2.trans s3))) O3'.tail⟩
    refine x_midS (fun σ H' => σ = [some (.ref b), some (.bl fi), some (.int r1), some (.int r2), some (.bl bn), some (.ref p4), some (.ref p5), none, none, none] ∧ H' = H5) (fun n' hn' => ?_) ?_
    · walk_at "s"
      cases fi with
      | false =>
        walk_at "s"
        exact hn' _ _ ⟨rfl, rfl⟩
      | true =>
        walk_at "s"
        refine ite_b (fun _ => ?_) (fun _ => ?_)
        · walk_at "s"
          refine x_lenl (SqL.of (O5.sub _ _ (s5 _ _ hw))) ?_
          rw [List.length_map]
          walk_at "s"
          refine ite_b (fun c => ?_) (fun c => ?_)
          · have c := of_decide_eq_true c
            walk_at "s"
            exact wide G5 H5 p4 _ (Same.refl _) O5 (wy.same s5) wo (by rw [List.length_map]; omega)
          · walk_at "s"
            refine ⟨by show 2 ≤ sizeLine; decide, x_fix O5 fun q1 G6 H6 s6 O6 e6 => ?_⟩
            walk_at "s"
            refine ⟨by show 2 ≤ sizeLine; decide, x_fix O6 fun q2 G7 H7 s7 O7 e7 => ?_⟩
            walk_at "s"
            refine ⟨by show 2 ≤ sizeLine; decide, x_fix O7 fun q3 G8 H8 s8 O8 e8 => ?_⟩
            walk_at "s"
            refine wide G8 H8 q3 _ (s6.trans (s7.trans s8)) O8 ⟨[(q1, Str.ofString "ab", Str.ofString "a"), (q2, Str.ofString "a", Str.ofString "ab")], e8, fun q hq => ?_, rfl⟩ waysAB (by show 2 ≤ 2; decide)
            simp only [List.mem_cons, List.not_mem_nil, or_false] at hq
            rcases hq with rfl | rfl
            · exact (s7.trans s8) _ _ e6
            · exact s8 _ _ e7
        · walk_at "s"
          exact hn' _ _ ⟨rfl, rfl⟩
    rintro σ' H' ⟨rfl, rfl⟩
    walk_at "s"
    refine x_eq rfl ?_
    walk_at "s"
    refine ite_b (fun _ => ?_) (fun _ => ?_)
    · walk_at "s"
      refine ⟨G5, R, b, p5, ns.length, 4000, ns, b4, rfl, O5, e5, nl, ln4, B4.le (by decide), fun G6 H6 p6 xs ss b6 s6 e6 dx ok l6 O6 B6 => ?_⟩
      walk_at "s"
      exact rest G6 H6 p6 xs ss b6 s6 O6 e6 dx ok l6 (B6.le (by decide))
    · walk_at "s"
      refine ⟨by show 8 ≤ sizeLine; decide, x_fix O5 fun q1 G6 H6 s6 O6 e6 => ?_⟩
      walk_at "s"
      obtain ⟨n, hn, en⟩ := pick_nat (ls := [2, 1, 3, 4, 5, 6, 2, 3]) r10 r11
      have hn : 1 ≤ n ∧ n ≤ 6 := by
        have : ∀ n ∈ ([2, 1, 3, 4, 5, 6, 2, 3] : List Nat), 1 ≤ n ∧ n ≤ 6 := by decide
        exact this n hn
      refine x_ixl (v := .int (n : Nat)) (SqL.of (O6.sub _ _ e6)) en ?_
      refine ⟨G6, R, b, p5, ns.length, n, 1500, ns, b4, rfl, O6, s6 _ _ e5, nl, ln4, hn.1, hn.2, B4.le (by decide), fun G7 H7 p7 xs ss b7 s7 e7 dx ok l6 O7 B7 => ?_⟩
      walk_at "s"
      exact rest G7 H7 p7 xs ss b7 (s6.trans s7) O7 e7 dx ok l6 (B7.le (by decide))
abbrev s_law : Stmt := top 66
theorem sc_law : FnScope ["script", "k"] ["script"] (defScope s_law) := ⟨rfl, rfl, rfl, by decide +kernel, rfl, by decide +kernel, by decide +kernel⟩
def sp_law (K : PySem.W.Frag) : Sp := fun vs H Q _ => ∃ (G : Hp) (a : Addr) (is : List Int), vs = [.ref a] ∧ Own G H [] ∧ SqL K G a (is.map V.int) ∧ is.length ≤ 63 ∧ ∀ H', Q (.bl true) H'
theorem ok_law {f : Addr} {fd : FuncData} (F : Fun K "law" "law" s_law f fd) (B : Btt mg) (C__law_cell : Cal P w K mg base k "_law_cell" ["script", "k"] (sp_cell K)) (C__law_box : Cal P w K mg base k "_law_box" ["great"] sp_box) (C__law_cell_right : Cal P w K mg base k "_law_cell_right" ["box", "first"] (sp_crr K)) : FnG P w K mg base (k + 1) f fd ["script"] (sp_law K) := by
  refine fnG_of F sc_law (fun vs H Q E h => ?_) (fun cdv A outer s H vs Q E r h => ?_)
  · obtain ⟨_, _, _, rfl, _⟩ := h
    rfl
  · obtain ⟨G, a, is, rfl, O, ha, hl, q⟩ := h
    refine ⟨_, (pss_cons (ps_for (passes_of rfl) rfl (pi_range1 (by rfl) B.range (pa_cons (pe_callB (cMax2 rfl) (by rfl) B.max (by decide +kernel) (pa_cons pe_int (pa_cons (pe_callB (cMin2 rfl) (by rfl) B.min (by decide +kernel) (pa_cons pe_int (pa_cons (pe_callB (cLenK (K := K) rfl) (by rfl) B.len (by decide +kernel) (pa_cons (pv 0) pa_nil)) pa_nil))) pa_nil))) pa_nil)) (pg_name (i := 1) sc_law.nd rfl (Or.inl rfl))
       (pss_one (ps_if (pt_not (pt_truK (K := K) rfl (g_call C__law_cell_right r (by rfl) passL (pa_cons (g_call C__law_box r (by rfl) passL (pa_cons (g_call C__law_cell r (by rfl) passL (pa_cons (pv 0) (pa_cons (pv 1) pa_nil))) pa_nil)) (pa_cons (pe_cmpR (oEqK (K := K) rfl r) (pv 1) pe_int (nomark _)) pa_nil)))))
       (pss_one (ps_ret pe_bl))
       pss_nil)))
       (pss_one (ps_ret pe_bl))), ?_⟩
    try dsimp only [cxOf]
    refine x_start (σ' := [some _, none]) rfl ?_
    walk_at "s"
    refine x_lenl (O.seq ha) ?_
    rw [List.length_map]
    walk_at "s"
    refine ⟨_, _, rfl, ?_⟩
    walk_at "s"
    refine ⟨_, _, rfl, ?_⟩
    walk_at "s"
    generalize hz : (if (if (is.length : Int) < 6 then (is.length : Int) else 6) > 3 then (if (is.length : Int) < 6 then (is.length : Int) else 6) else 3) = z
    have z0 : 0 ≤ z ∧ z ≤ 8 := by
      rw [← hz]
      split <;> split <;> omega
    refine x_rg (by omega) (by omega) ?_
    refine for_own walk_range O (fun i σ G' L' => ∃ (x1 : Option V), [] = L' ∧ σ = [some (.ref a), x1]) ⟨none, rfl, rfl⟩ (fun _ _ _ _ _ _ _ _ => True.intro) ?_ ?_
    · rintro i x σ G' H' H2' L' hi s' O' ⟨x1, rfl, rfl⟩ ⟨rfl, rfl⟩
      walk_at "n1"
      walk_at "s"
      rw [Int.zero_add]
      refine ⟨G', _, a, is, i, rfl, O', s'.seq ha, hl, by omega, fun G4 H4 v s4 O4 => ?_⟩
      walk_at "s"
      refine ⟨G4, _, v, rfl, O4, fun H5 p bx O5 B5 => ?_⟩
      walk_at "s"
      refine x_eq rfl ?_
      walk_at "s"
      refine ⟨G4, [], p, _, bx, rfl, O5, B5, fun G7 H7 s7 O7 => ?_⟩
      walk_at "s"
      exact fvh (s'.trans (s4.trans s7)) O7 ⟨_, rfl, rfl⟩
    · rintro σ G' H' L' s' O' ⟨x1, rfl, rfl⟩
      walk_at "s"
      exact q H'
end
end
end M04
set_option maxHeartbeats 4000000
namespace M04
open PySem PySem.Spec PyProof.Rows L2 G
theorem fn_never {P : Program} {w : World} {K : PySem.W.Frag} {mg : Str → Option Value} {base : Heap} {k : Nat} {f : Addr} {fd : FuncData} {ps : List Str} : FnG P w K mg base k f fd ps (fun _ _ _ _ => False) := ⟨fun _ _ _ _ h => h.elim, fun _ _ _ _ _ _ _ _ _ _ _ _ _ h => h.elim⟩
set_option linter.unusedVariables false
theorem all_mk {l : PySem.W.OpenLaw} {w : World} {K : PySem.W.Frag} {h : Heap} {mg : Str → Option Value} {fz fa CP D CM f_1 f_2 f_3 f_4 f_5 f_6 f_7 f_8 f_9 f_10 f_11 f_12 f_13 f_14 f_15 f_16 f_17 f_18 f_19 f_20 f_21 f_22 f_23 f_24 f_25 f_26 f_27 f_28 f_29 f_30 f_31 f_32 f_33 f_34 f_35 f_36 f_37 f_38 f_39 f_40 f_41 f_42 f_43 f_44 fm1 fe1 : Addr} (X : K.In h) (G : h.Ns mainGlobals mg) (hfa : mg "law" = some (.ref fz))
    {od_1 an_1 od_2 an_2 od_3 an_3 od_4 an_4 od_5 an_5 od_6 an_6 od_7 an_7 od_8 an_8 od_9 an_9 od_10 an_10 od_11 an_11 od_12 an_12 od_13 an_13 od_14 an_14 od_15 an_15 od_16 an_16 od_17 an_17 od_18 an_18 od_19 an_19 od_20 an_20 od_21 an_21 od_22 an_22 od_23 an_23 od_24 an_24 od_25 an_25 od_26 an_26 od_27 an_27 od_28 an_28 od_29 an_29 od_30 an_30 od_31 an_31 od_32 an_32 od_33 an_33 od_34 an_34 od_35 an_35 od_36 an_36 od_37 an_37 od_38 an_38 od_39 an_39 od_40 an_40 od_41 an_41 od_42 an_42 od_43 an_43 od_44 an_44 odm1 anm1 ode1 ane1 odF : Option Addr} {sl_1 sl_2 sl_3 sl_4 sl_5 sl_6 sl_7 sl_8 sl_9 sl_10 sl_11 sl_12 sl_13 sl_14 sl_15 sl_16 sl_17 sl_18 sl_19 sl_20 sl_21 sl_22 sl_23 sl_24 sl_25 sl_26 sl_27 sl_28 sl_29 sl_30 sl_31 sl_32 sl_33 sl_34 sl_35 sl_36 sl_37 sl_38 sl_39 sl_40 sl_41 sl_42 sl_43 sl_44 slm1 sle1 slF : Array (Option Value)} {oc_1 kV_1 dc_1 pm_1 cd_1 ct_1 oc_2 kV_2 dc_2 pm_2 cd_2 ct_2 oc_3 kV_3 dc_3 pm_3 cd_3 ct_3 oc_4 kV_4 dc_4 pm_4 cd_4 ct_4 oc_5 kV_5 dc_5 pm_5 cd_5 ct_5 oc_6 kV_6 dc_6 pm_6 cd_6 ct_6 oc_7 kV_7 dc_7 pm_7 cd_7 ct_7 oc_8 kV_8 dc_8 pm_8 cd_8 ct_8 oc_9 kV_9 dc_9 pm_9 cd_9 ct_9 oc_10 kV_10 dc_10 pm_10 cd_10 ct_10 oc_11 kV_11 dc_11 pm_11 cd_11 ct_11 oc_12 kV_12 dc_12 pm_12 cd_12 ct_12 oc_13 kV_13 dc_13 pm_13 cd_13 ct_13 oc_14 kV_14 dc_14 pm_14 cd_14 ct_14 oc_15 kV_15 dc_15 pm_15 cd_15 ct_15 oc_16 kV_16 dc_16 pm_16 cd_16 ct_16 oc_17 kV_17 dc_17 pm_17 cd_17 ct_17 oc_18 kV_18 dc_18 pm_18 cd_18 ct_18 oc_19 kV_19 dc_19 pm_19 cd_19 ct_19 oc_20 kV_20 dc_20 pm_20 cd_20 ct_20 oc_21 kV_21 dc_21 pm_21 cd_21 ct_21 oc_22 kV_22 dc_22 pm_22 cd_22 ct_22 oc_23 kV_23 dc_23 pm_23 cd_23 ct_23 oc_24 kV_24 dc_24 pm_24 cd_24 ct_24 oc_25 kV_25 dc_25 pm_25 cd_25 ct_25 oc_26 kV_26 dc_26 pm_26 cd_26 ct_26 oc_27 kV_27 dc_27 pm_27 cd_27 ct_27 oc_28 kV_28 dc_28 pm_28 cd_28 ct_28 oc_29 kV_29 dc_29 pm_29 cd_29 ct_29 oc_30 kV_30 dc_30 pm_30 cd_30 ct_30 oc_31 kV_31 dc_31 pm_31 cd_31 ct_31 oc_32 kV_32 dc_32 pm_32 cd_32 ct_32 oc_33 kV_33 dc_33 pm_33 cd_33 ct_33 oc_34 kV_34 dc_34 pm_34 cd_34 ct_34 oc_35 kV_35 dc_35 pm_35 cd_35 ct_35 oc_36 kV_36 dc_36 pm_36 cd_36 ct_36 oc_37 kV_37 dc_37 pm_37 cd_37 ct_37 oc_38 kV_38 dc_38 pm_38 cd_38 ct_38 oc_39 kV_39 dc_39 pm_39 cd_39 ct_39 oc_40 kV_40 dc_40 pm_40 cd_40 ct_40 oc_41 kV_41 dc_41 pm_41 cd_41 ct_41 oc_42 kV_42 dc_42 pm_42 cd_42 ct_42 oc_43 kV_43 dc_43 pm_43 cd_43 ct_43 oc_44 kV_44 dc_44 pm_44 cd_44 ct_44 ocm1 kVm1 dcm1 pmm1 cdm1 ctm1 oce1 kVe1 dce1 pme1 cde1 cte1 : Value} {tB tY tZ tS tD tU tV tW tX e0 e1 e2 e3 e4 e5 e6 e7 e8 e9 e10 e11 e12 e13 e14 : Tok} {nF : Nat}
    {nme1 qe1 : Str} {Ne1 : Addr} {bse1 : List Value} {sne1 : List Str} {sube1 : List Value} {abe1 : Bool} {cole1 : Option Bool} {dde1 : Option Addr} {g0e1 g1e1 g2e1 g3e1 g5e1 : Option Value}
    (a_1 : PySem.W.nsIn K mainGlobals "is_list" = some (some (.ref f_1))) (l_1 : K.lookup f_1 = some ⟨oc_1, od_1, .func (PySem.W.fnOf "is_list" "is_list" (defArgs s_is_list) (defBody s_is_list) (defScope s_is_list) .none kV_1 dc_1 pm_1 an_1 cd_1 ct_1), sl_1⟩) (c_1 : PySem.W.codeIn K cd_1 "is_list" = true) (k_1 : PySem.W.keepIn K (.ref f_1) = true)
    (a_2 : PySem.W.nsIn K mainGlobals "is_row" = some (some (.ref f_2))) (l_2 : K.lookup f_2 = some ⟨oc_2, od_2, .func (PySem.W.fnOf "is_row" "is_row" (defArgs s_is_row) (defBody s_is_row) (defScope s_is_row) .none kV_2 dc_2 pm_2 an_2 cd_2 ct_2), sl_2⟩) (c_2 : PySem.W.codeIn K cd_2 "is_row" = true) (k_2 : PySem.W.keepIn K (.ref f_2) = true)
    (a_3 : PySem.W.nsIn K mainGlobals "is_word" = some (some (.ref f_3))) (l_3 : K.lookup f_3 = some ⟨oc_3, od_3, .func (PySem.W.fnOf "is_word" "is_word" (defArgs s_is_word) (defBody s_is_word) (defScope s_is_word) .none kV_3 dc_3 pm_3 an_3 cd_3 ct_3), sl_3⟩) (c_3 : PySem.W.codeIn K cd_3 "is_word" = true) (k_3 : PySem.W.keepIn K (.ref f_3) = true)
    (a_4 : PySem.W.nsIn K mainGlobals "is_name" = some (some (.ref f_4))) (l_4 : K.lookup f_4 = some ⟨oc_4, od_4, .func (PySem.W.fnOf "is_name" "is_name" (defArgs s_is_name) (defBody s_is_name) (defScope s_is_name) .none kV_4 dc_4 pm_4 an_4 cd_4 ct_4), sl_4⟩) (c_4 : PySem.W.codeIn K cd_4 "is_name" = true) (k_4 : PySem.W.keepIn K (.ref f_4) = true)
    (a_5 : PySem.W.nsIn K mainGlobals "are_different" = some (some (.ref f_5))) (l_5 : K.lookup f_5 = some ⟨oc_5, od_5, .func (PySem.W.fnOf "are_different" "are_different" (defArgs s_are_different) (defBody s_are_different) (defScope s_are_different) .none kV_5 dc_5 pm_5 an_5 cd_5 ct_5), sl_5⟩) (c_5 : PySem.W.codeIn K cd_5 "are_different" = true) (k_5 : PySem.W.keepIn K (.ref f_5) = true)
    (a_6 : PySem.W.nsIn K mainGlobals "are_ways" = some (some (.ref f_6))) (l_6 : K.lookup f_6 = some ⟨oc_6, od_6, .func (PySem.W.fnOf "are_ways" "are_ways" (defArgs s_are_ways) (defBody s_are_ways) (defScope s_are_ways) .none kV_6 dc_6 pm_6 an_6 cd_6 ct_6), sl_6⟩) (c_6 : PySem.W.codeIn K cd_6 "are_ways" = true) (k_6 : PySem.W.keepIn K (.ref f_6) = true)
    (a_7 : PySem.W.nsIn K mainGlobals "are_marks" = some (some (.ref f_7))) (l_7 : K.lookup f_7 = some ⟨oc_7, od_7, .func (PySem.W.fnOf "are_marks" "are_marks" (defArgs s_are_marks) (defBody s_are_marks) (defScope s_are_marks) .none kV_7 dc_7 pm_7 an_7 cd_7 ct_7), sl_7⟩) (c_7 : PySem.W.codeIn K cd_7 "are_marks" = true) (k_7 : PySem.W.keepIn K (.ref f_7) = true)
    (a_8 : PySem.W.nsIn K mainGlobals "are_seats" = some (some (.ref f_8))) (l_8 : K.lookup f_8 = some ⟨oc_8, od_8, .func (PySem.W.fnOf "are_seats" "are_seats" (defArgs s_are_seats) (defBody s_are_seats) (defScope s_are_seats) .none kV_8 dc_8 pm_8 an_8 cd_8 ct_8), sl_8⟩) (c_8 : PySem.W.codeIn K cd_8 "are_seats" = true) (k_8 : PySem.W.keepIn K (.ref f_8) = true)
    (a_9 : PySem.W.nsIn K mainGlobals "is_case" = some (some (.ref f_9))) (l_9 : K.lookup f_9 = some ⟨oc_9, od_9, .func (PySem.W.fnOf "is_case" "is_case" (defArgs s_is_case) (defBody s_is_case) (defScope s_is_case) .none kV_9 dc_9 pm_9 an_9 cd_9 ct_9), sl_9⟩) (c_9 : PySem.W.codeIn K cd_9 "is_case" = true) (k_9 : PySem.W.keepIn K (.ref f_9) = true)
    (a_10 : PySem.W.nsIn K mainGlobals "are_cases" = some (some (.ref f_10))) (l_10 : K.lookup f_10 = some ⟨oc_10, od_10, .func (PySem.W.fnOf "are_cases" "are_cases" (defArgs s_are_cases) (defBody s_are_cases) (defScope s_are_cases) .none kV_10 dc_10 pm_10 an_10 cd_10 ct_10), sl_10⟩) (c_10 : PySem.W.codeIn K cd_10 "are_cases" = true) (k_10 : PySem.W.keepIn K (.ref f_10) = true)
    (a_11 : PySem.W.nsIn K mainGlobals "are_standings" = some (some (.ref f_11))) (l_11 : K.lookup f_11 = some ⟨oc_11, od_11, .func (PySem.W.fnOf "are_standings" "are_standings" (defArgs s_are_standings) (defBody s_are_standings) (defScope s_are_standings) .none kV_11 dc_11 pm_11 an_11 cd_11 ct_11), sl_11⟩) (c_11 : PySem.W.codeIn K cd_11 "are_standings" = true) (k_11 : PySem.W.keepIn K (.ref f_11) = true)
    (a_12 : PySem.W.nsIn K mainGlobals "tuples_of" = some (some (.ref f_12))) (l_12 : K.lookup f_12 = some ⟨oc_12, od_12, .func (PySem.W.fnOf "tuples_of" "tuples_of" (defArgs s_tuples_of) (defBody s_tuples_of) (defScope s_tuples_of) .none kV_12 dc_12 pm_12 an_12 cd_12 ct_12), sl_12⟩) (c_12 : PySem.W.codeIn K cd_12 "tuples_of" = true) (k_12 : PySem.W.keepIn K (.ref f_12) = true)
    (a_13 : PySem.W.nsIn K mainGlobals "steps_of" = some (some (.ref f_13))) (l_13 : K.lookup f_13 = some ⟨oc_13, od_13, .func (PySem.W.fnOf "steps_of" "steps_of" (defArgs s_steps_of) (defBody s_steps_of) (defScope s_steps_of) .none kV_13 dc_13 pm_13 an_13 cd_13 ct_13), sl_13⟩) (c_13 : PySem.W.codeIn K cd_13 "steps_of" = true) (k_13 : PySem.W.keepIn K (.ref f_13) = true)
    (a_14 : PySem.W.nsIn K mainGlobals "meets" = some (some (.ref f_14))) (l_14 : K.lookup f_14 = some ⟨oc_14, od_14, .func (PySem.W.fnOf "meets" "meets" (defArgs s_meets) (defBody s_meets) (defScope s_meets) .none kV_14 dc_14 pm_14 an_14 cd_14 ct_14), sl_14⟩) (c_14 : PySem.W.codeIn K cd_14 "meets" = true) (k_14 : PySem.W.keepIn K (.ref f_14) = true)
    (a_15 : PySem.W.nsIn K mainGlobals "step" = some (some (.ref f_15))) (l_15 : K.lookup f_15 = some ⟨oc_15, od_15, .func (PySem.W.fnOf "step" "step" (defArgs s_step) (defBody s_step) (defScope s_step) .none kV_15 dc_15 pm_15 an_15 cd_15 ct_15), sl_15⟩) (c_15 : PySem.W.codeIn K cd_15 "step" = true) (k_15 : PySem.W.keepIn K (.ref f_15) = true)
    (a_16 : PySem.W.nsIn K mainGlobals "all_marks" = some (some (.ref f_16))) (l_16 : K.lookup f_16 = some ⟨oc_16, od_16, .func (PySem.W.fnOf "all_marks" "all_marks" (defArgs s_all_marks) (defBody s_all_marks) (defScope s_all_marks) .none kV_16 dc_16 pm_16 an_16 cd_16 ct_16), sl_16⟩) (c_16 : PySem.W.codeIn K cd_16 "all_marks" = true) (k_16 : PySem.W.keepIn K (.ref f_16) = true)
    (a_17 : PySem.W.nsIn K mainGlobals "compiled" = some (some (.ref f_17))) (l_17 : K.lookup f_17 = some ⟨oc_17, od_17, .func (PySem.W.fnOf "compiled" "compiled" (defArgs s_compiled) (defBody s_compiled) (defScope s_compiled) .none kV_17 dc_17 pm_17 an_17 cd_17 ct_17), sl_17⟩) (c_17 : PySem.W.codeIn K cd_17 "compiled" = true) (k_17 : PySem.W.keepIn K (.ref f_17) = true)
    (a_18 : PySem.W.nsIn K mainGlobals "_law_cell" = some (some (.ref f_18))) (l_18 : K.lookup f_18 = some ⟨oc_18, od_18, .func (PySem.W.fnOf "_law_cell" "_law_cell" (defArgs s__law_cell) (defBody s__law_cell) (defScope s__law_cell) .none kV_18 dc_18 pm_18 an_18 cd_18 ct_18), sl_18⟩) (c_18 : PySem.W.codeIn K cd_18 "_law_cell" = true) (k_18 : PySem.W.keepIn K (.ref f_18) = true)
    (a_19 : PySem.W.nsIn K mainGlobals "_law_box" = some (some (.ref f_19))) (l_19 : K.lookup f_19 = some ⟨oc_19, od_19, .func (PySem.W.fnOf "_law_box" "_law_box" (defArgs s__law_box) (defBody s__law_box) (defScope s__law_box) .none kV_19 dc_19 pm_19 an_19 cd_19 ct_19), sl_19⟩) (c_19 : PySem.W.codeIn K cd_19 "_law_box" = true) (k_19 : PySem.W.keepIn K (.ref f_19) = true)
    (a_20 : PySem.W.nsIn K mainGlobals "_law_take" = some (some (.ref f_20))) (l_20 : K.lookup f_20 = some ⟨oc_20, od_20, .func (PySem.W.fnOf "_law_take" "_law_take" (defArgs s__law_take) (defBody s__law_take) (defScope s__law_take) .none kV_20 dc_20 pm_20 an_20 cd_20 ct_20), sl_20⟩) (c_20 : PySem.W.codeIn K cd_20 "_law_take" = true) (k_20 : PySem.W.keepIn K (.ref f_20) = true)
    (a_21 : PySem.W.nsIn K mainGlobals "_law_mixed" = some (some (.ref f_21))) (l_21 : K.lookup f_21 = some ⟨oc_21, od_21, .func (PySem.W.fnOf "_law_mixed" "_law_mixed" (defArgs s__law_mixed) (defBody s__law_mixed) (defScope s__law_mixed) .none kV_21 dc_21 pm_21 an_21 cd_21 ct_21), sl_21⟩) (c_21 : PySem.W.codeIn K cd_21 "_law_mixed" = true) (k_21 : PySem.W.keepIn K (.ref f_21) = true)
    (a_22 : PySem.W.nsIn K mainGlobals "_law_letters" = some (some (.ref f_22))) (l_22 : K.lookup f_22 = some ⟨oc_22, od_22, .func (PySem.W.fnOf "_law_letters" "_law_letters" (defArgs s__law_letters) (defBody s__law_letters) (defScope s__law_letters) .none kV_22 dc_22 pm_22 an_22 cd_22 ct_22), sl_22⟩) (c_22 : PySem.W.codeIn K cd_22 "_law_letters" = true) (k_22 : PySem.W.keepIn K (.ref f_22) = true)
    (a_23 : PySem.W.nsIn K mainGlobals "_law_taboo" = some (some (.ref f_23))) (l_23 : K.lookup f_23 = some ⟨oc_23, od_23, .func (PySem.W.fnOf "_law_taboo" "_law_taboo" (defArgs s__law_taboo) (defBody s__law_taboo) (defScope s__law_taboo) .none kV_23 dc_23 pm_23 an_23 cd_23 ct_23), sl_23⟩) (c_23 : PySem.W.codeIn K cd_23 "_law_taboo" = true) (k_23 : PySem.W.keepIn K (.ref f_23) = true)
    (a_24 : PySem.W.nsIn K mainGlobals "_law_names" = some (some (.ref f_24))) (l_24 : K.lookup f_24 = some ⟨oc_24, od_24, .func (PySem.W.fnOf "_law_names" "_law_names" (defArgs s__law_names) (defBody s__law_names) (defScope s__law_names) .none kV_24 dc_24 pm_24 an_24 cd_24 ct_24), sl_24⟩) (c_24 : PySem.W.codeIn K cd_24 "_law_names" = true) (k_24 : PySem.W.keepIn K (.ref f_24) = true)
    (a_25 : PySem.W.nsIn K mainGlobals "_law_word" = some (some (.ref f_25))) (l_25 : K.lookup f_25 = some ⟨oc_25, od_25, .func (PySem.W.fnOf "_law_word" "_law_word" (defArgs s__law_word) (defBody s__law_word) (defScope s__law_word) .none kV_25 dc_25 pm_25 an_25 cd_25 ct_25), sl_25⟩) (c_25 : PySem.W.codeIn K cd_25 "_law_word" = true) (k_25 : PySem.W.keepIn K (.ref f_25) = true)
    (a_26 : PySem.W.nsIn K mainGlobals "_law_ways" = some (some (.ref f_26))) (l_26 : K.lookup f_26 = some ⟨oc_26, od_26, .func (PySem.W.fnOf "_law_ways" "_law_ways" (defArgs s__law_ways) (defBody s__law_ways) (defScope s__law_ways) .none kV_26 dc_26 pm_26 an_26 cd_26 ct_26), sl_26⟩) (c_26 : PySem.W.codeIn K cd_26 "_law_ways" = true) (k_26 : PySem.W.keepIn K (.ref f_26) = true)
    (a_27 : PySem.W.nsIn K mainGlobals "_law_marks" = some (some (.ref f_27))) (l_27 : K.lookup f_27 = some ⟨oc_27, od_27, .func (PySem.W.fnOf "_law_marks" "_law_marks" (defArgs s__law_marks) (defBody s__law_marks) (defScope s__law_marks) .none kV_27 dc_27 pm_27 an_27 cd_27 ct_27), sl_27⟩) (c_27 : PySem.W.codeIn K cd_27 "_law_marks" = true) (k_27 : PySem.W.keepIn K (.ref f_27) = true)
    (a_28 : PySem.W.nsIn K mainGlobals "_law_case" = some (some (.ref f_28))) (l_28 : K.lookup f_28 = some ⟨oc_28, od_28, .func (PySem.W.fnOf "_law_case" "_law_case" (defArgs s__law_case) (defBody s__law_case) (defScope s__law_case) .none kV_28 dc_28 pm_28 an_28 cd_28 ct_28), sl_28⟩) (c_28 : PySem.W.codeIn K cd_28 "_law_case" = true) (k_28 : PySem.W.keepIn K (.ref f_28) = true)
    (a_29 : PySem.W.nsIn K mainGlobals "_law_heads" = some (some (.ref f_29))) (l_29 : K.lookup f_29 = some ⟨oc_29, od_29, .func (PySem.W.fnOf "_law_heads" "_law_heads" (defArgs s__law_heads) (defBody s__law_heads) (defScope s__law_heads) .none kV_29 dc_29 pm_29 an_29 cd_29 ct_29), sl_29⟩) (c_29 : PySem.W.codeIn K cd_29 "_law_heads" = true) (k_29 : PySem.W.keepIn K (.ref f_29) = true)
    (a_30 : PySem.W.nsIn K mainGlobals "_law_standings" = some (some (.ref f_30))) (l_30 : K.lookup f_30 = some ⟨oc_30, od_30, .func (PySem.W.fnOf "_law_standings" "_law_standings" (defArgs s__law_standings) (defBody s__law_standings) (defScope s__law_standings) .none kV_30 dc_30 pm_30 an_30 cd_30 ct_30), sl_30⟩) (c_30 : PySem.W.codeIn K cd_30 "_law_standings" = true) (k_30 : PySem.W.keepIn K (.ref f_30) = true)
    (a_31 : PySem.W.nsIn K mainGlobals "_law_holder" = some (some (.ref f_31))) (l_31 : K.lookup f_31 = some ⟨oc_31, od_31, .func (PySem.W.fnOf "_law_holder" "_law_holder" (defArgs s__law_holder) (defBody s__law_holder) (defScope s__law_holder) .none kV_31 dc_31 pm_31 an_31 cd_31 ct_31), sl_31⟩) (c_31 : PySem.W.codeIn K cd_31 "_law_holder" = true) (k_31 : PySem.W.keepIn K (.ref f_31) = true)
    (a_32 : PySem.W.nsIn K mainGlobals "_law_power" = some (some (.ref f_32))) (l_32 : K.lookup f_32 = some ⟨oc_32, od_32, .func (PySem.W.fnOf "_law_power" "_law_power" (defArgs s__law_power) (defBody s__law_power) (defScope s__law_power) .none kV_32 dc_32 pm_32 an_32 cd_32 ct_32), sl_32⟩) (c_32 : PySem.W.codeIn K cd_32 "_law_power" = true) (k_32 : PySem.W.keepIn K (.ref f_32) = true)
    (a_33 : PySem.W.nsIn K mainGlobals "_law_all_marks" = some (some (.ref f_33))) (l_33 : K.lookup f_33 = some ⟨oc_33, od_33, .func (PySem.W.fnOf "_law_all_marks" "_law_all_marks" (defArgs s__law_all_marks) (defBody s__law_all_marks) (defScope s__law_all_marks) .none kV_33 dc_33 pm_33 an_33 cd_33 ct_33), sl_33⟩) (c_33 : PySem.W.codeIn K cd_33 "_law_all_marks" = true) (k_33 : PySem.W.keepIn K (.ref f_33) = true)
    (a_34 : PySem.W.nsIn K mainGlobals "_law_counts" = some (some (.ref f_34))) (l_34 : K.lookup f_34 = some ⟨oc_34, od_34, .func (PySem.W.fnOf "_law_counts" "_law_counts" (defArgs s__law_counts) (defBody s__law_counts) (defScope s__law_counts) .none kV_34 dc_34 pm_34 an_34 cd_34 ct_34), sl_34⟩) (c_34 : PySem.W.codeIn K cd_34 "_law_counts" = true) (k_34 : PySem.W.keepIn K (.ref f_34) = true)
    (a_35 : PySem.W.nsIn K mainGlobals "_law_rows_due" = some (some (.ref f_35))) (l_35 : K.lookup f_35 = some ⟨oc_35, od_35, .func (PySem.W.fnOf "_law_rows_due" "_law_rows_due" (defArgs s__law_rows_due) (defBody s__law_rows_due) (defScope s__law_rows_due) .none kV_35 dc_35 pm_35 an_35 cd_35 ct_35), sl_35⟩) (c_35 : PySem.W.codeIn K cd_35 "_law_rows_due" = true) (k_35 : PySem.W.keepIn K (.ref f_35) = true)
    (a_36 : PySem.W.nsIn K mainGlobals "_law_cut" = some (some (.ref f_36))) (l_36 : K.lookup f_36 = some ⟨oc_36, od_36, .func (PySem.W.fnOf "_law_cut" "_law_cut" (defArgs s__law_cut) (defBody s__law_cut) (defScope s__law_cut) .none kV_36 dc_36 pm_36 an_36 cd_36 ct_36), sl_36⟩) (c_36 : PySem.W.codeIn K cd_36 "_law_cut" = true) (k_36 : PySem.W.keepIn K (.ref f_36) = true)
    (a_37 : PySem.W.nsIn K mainGlobals "_law_spoil" = some (some (.ref f_37))) (l_37 : K.lookup f_37 = some ⟨oc_37, od_37, .func (PySem.W.fnOf "_law_spoil" "_law_spoil" (defArgs s__law_spoil) (defBody s__law_spoil) (defScope s__law_spoil) .none kV_37 dc_37 pm_37 an_37 cd_37 ct_37), sl_37⟩) (c_37 : PySem.W.codeIn K cd_37 "_law_spoil" = true) (k_37 : PySem.W.keepIn K (.ref f_37) = true)
    (a_38 : PySem.W.nsIn K mainGlobals "_law_alone_right" = some (some (.ref f_38))) (l_38 : K.lookup f_38 = some ⟨oc_38, od_38, .func (PySem.W.fnOf "_law_alone_right" "_law_alone_right" (defArgs s__law_alone_right) (defBody s__law_alone_right) (defScope s__law_alone_right) .none kV_38 dc_38 pm_38 an_38 cd_38 ct_38), sl_38⟩) (c_38 : PySem.W.codeIn K cd_38 "_law_alone_right" = true) (k_38 : PySem.W.keepIn K (.ref f_38) = true)
    (a_39 : PySem.W.nsIn K mainGlobals "_law_doubled" = some (some (.ref f_39))) (l_39 : K.lookup f_39 = some ⟨oc_39, od_39, .func (PySem.W.fnOf "_law_doubled" "_law_doubled" (defArgs s__law_doubled) (defBody s__law_doubled) (defScope s__law_doubled) .none kV_39 dc_39 pm_39 an_39 cd_39 ct_39), sl_39⟩) (c_39 : PySem.W.codeIn K cd_39 "_law_doubled" = true) (k_39 : PySem.W.keepIn K (.ref f_39) = true)
    (a_40 : PySem.W.nsIn K mainGlobals "_law_program_right" = some (some (.ref f_40))) (l_40 : K.lookup f_40 = some ⟨oc_40, od_40, .func (PySem.W.fnOf "_law_program_right" "_law_program_right" (defArgs s__law_program_right) (defBody s__law_program_right) (defScope s__law_program_right) .none kV_40 dc_40 pm_40 an_40 cd_40 ct_40), sl_40⟩) (c_40 : PySem.W.codeIn K cd_40 "_law_program_right" = true) (k_40 : PySem.W.keepIn K (.ref f_40) = true)
    (a_41 : PySem.W.nsIn K mainGlobals "_law_wide" = some (some (.ref f_41))) (l_41 : K.lookup f_41 = some ⟨oc_41, od_41, .func (PySem.W.fnOf "_law_wide" "_law_wide" (defArgs s__law_wide) (defBody s__law_wide) (defScope s__law_wide) .none kV_41 dc_41 pm_41 an_41 cd_41 ct_41), sl_41⟩) (c_41 : PySem.W.codeIn K cd_41 "_law_wide" = true) (k_41 : PySem.W.keepIn K (.ref f_41) = true)
    (a_42 : PySem.W.nsIn K mainGlobals "_law_wide_right" = some (some (.ref f_42))) (l_42 : K.lookup f_42 = some ⟨oc_42, od_42, .func (PySem.W.fnOf "_law_wide_right" "_law_wide_right" (defArgs s__law_wide_right) (defBody s__law_wide_right) (defScope s__law_wide_right) .none kV_42 dc_42 pm_42 an_42 cd_42 ct_42), sl_42⟩) (c_42 : PySem.W.codeIn K cd_42 "_law_wide_right" = true) (k_42 : PySem.W.keepIn K (.ref f_42) = true)
    (a_43 : PySem.W.nsIn K mainGlobals "_law_cell_right" = some (some (.ref f_43))) (l_43 : K.lookup f_43 = some ⟨oc_43, od_43, .func (PySem.W.fnOf "_law_cell_right" "_law_cell_right" (defArgs s__law_cell_right) (defBody s__law_cell_right) (defScope s__law_cell_right) .none kV_43 dc_43 pm_43 an_43 cd_43 ct_43), sl_43⟩) (c_43 : PySem.W.codeIn K cd_43 "_law_cell_right" = true) (k_43 : PySem.W.keepIn K (.ref f_43) = true)
    (a_44 : PySem.W.nsIn K mainGlobals "law" = some (some (.ref f_44))) (l_44 : K.lookup f_44 = some ⟨oc_44, od_44, .func (PySem.W.fnOf "law" "law" (defArgs s_law) (defBody s_law) (defScope s_law) .none kV_44 dc_44 pm_44 an_44 cd_44 ct_44), sl_44⟩) (c_44 : PySem.W.codeIn K cd_44 "law" = true) (k_44 : PySem.W.keepIn K (.ref f_44) = true)
    (am1 : PySem.W.findIn K (.ref CP) "__init__" = some (some (.ref fm1))) (lm1 : K.lookup fm1 = some ⟨ocm1, odm1, .func (PySem.W.fnOf "__init__" "Program.__init__" (defArgs s_Program___init__) (defBody s_Program___init__) (defScope s_Program___init__) .none kVm1 dcm1 pmm1 anm1 cdm1 ctm1), slm1⟩) (cm1 : PySem.W.codeIn K cdm1 "Program.__init__" = true) (km1 : PySem.W.keepIn K (.ref fm1) = true)
    (im1 : PySem.W.isFn K (.ref fm1) = true)
    (ae1 : PySem.W.findIn K (.ref CM) "__init__" = some (some (.ref fe1))) (le1 : K.lookup fe1 = some ⟨oce1, ode1, .func (PySem.W.fnOf "__init__" "TooMany.__init__" (defArgs s_TooMany___init__) (defBody s_TooMany___init__) (defScope s_TooMany___init__) .none kVe1 dce1 pme1 ane1 cde1 cte1), sle1⟩) (ce1 : PySem.W.codeIn K cde1 "TooMany.__init__" = true) (ke1 : PySem.W.keepIn K (.ref fe1) = true)
    (te1 : PySem.W.typeIn K (.ref fe1) = some (.type "function"))
    (ne1 : PySem.W.nsIn K mainGlobals "TooMany" = some (some (.ref CM)))
    (xe1 : K.lookup CM = some (excClassObj nme1 qe1 CM Ne1 bse1 [.ref D, .type "ValueError", .type "Exception", .type "BaseException", .type "object"] true sne1 sube1 abe1 cole1 dde1 g0e1 g1e1 g2e1 g3e1 g5e1 "ValueError.__new__"))
    (se1 : PySem.W.findIn K (.ref CM) "__setattr__" = some (some (.builtin "object.__setattr__")))
    (pe1 : PySem.W.subIn K (.ref CM) (.type "BaseException") = some true)
    (ye1 : PySem.W.typeIn K (.ref CM) = some (.type "type"))
    (he1 : PySem.W.keepIn K (.ref CM) = true)
    (gae1 : PySem.W.findIn K (.ref CM) "__getattribute__" = some (some (.builtin "BaseException.__getattribute__")))
    (gge1 : PySem.W.findIn K (.ref CM) "__getattr__" = some none)
    (hde1 : PySem.W.hasDictIn K CM = true)
    (nge1 : PySem.W.findIn K (.ref CM) "count" = some none)
    (cle1 : (PySem.W.clsIn K CM).isSome = true)
    (cae1 : PySem.W.findIn K (.ref CM) "__class__" = some (some (.builtin "object.__class__")))
    (moe1 : PySem.W.mroIn K CM (.type "object") = some true)
    (sse1 : PySem.W.subIn K (.ref CM) (.ref CM) = some true)
    (kfe1 : PySem.W.kitOne K (.ref CM) (.ref D) = some true)
    (z_len : PySem.W.nsIn K mainGlobals "len" = some none)
    (z_range : PySem.W.nsIn K mainGlobals "range" = some none)
    (z_abs : PySem.W.nsIn K mainGlobals "abs" = some none)
    (z_int : PySem.W.nsIn K mainGlobals "int" = some none)
    (z_str : PySem.W.nsIn K mainGlobals "str" = some none)
    (z_bool : PySem.W.nsIn K mainGlobals "bool" = some none)
    (z_list : PySem.W.nsIn K mainGlobals "list" = some none)
    (z_tuple : PySem.W.nsIn K mainGlobals "tuple" = some none)
    (z_dict : PySem.W.nsIn K mainGlobals "dict" = some none)
    (z_sum : PySem.W.nsIn K mainGlobals "sum" = some none)
    (z_all : PySem.W.nsIn K mainGlobals "all" = some none)
    (z_any : PySem.W.nsIn K mainGlobals "any" = some none)
    (z_max : PySem.W.nsIn K mainGlobals "max" = some none)
    (z_min : PySem.W.nsIn K mainGlobals "min" = some none)
    (z_sorted : PySem.W.nsIn K mainGlobals "sorted" = some none)
    (z_repr : PySem.W.nsIn K mainGlobals "repr" = some none)
    (z_isinstance : PySem.W.nsIn K mainGlobals "isinstance" = some none)
    (z_enumerate : PySem.W.nsIn K mainGlobals "enumerate" = some none)
    (z_zip : PySem.W.nsIn K mainGlobals "zip" = some none)
    (z_set : PySem.W.nsIn K mainGlobals "set" = some none)
    (aD : PySem.W.nsIn K mainGlobals "ForgetError" = some (some (.ref D)))
    (aCP : PySem.W.nsIn K mainGlobals "Program" = some (some (.ref CP)))
    (pg : PySem.W.plainGet K CP Str.empty = true)
    (hdC : PySem.W.hasDictIn K CP = true)
    (po : PySem.W.plainOver K CP = true)
    (saC : PySem.W.findIn K (.ref CP) "__setattr__" = some (some (.builtin "object.__setattr__")))
    (mkC : PySem.W.makesIn K CP = true)
    (kpC : PySem.W.keepIn K (.ref CP) = true)
    (spg : PySem.W.specialIn K (.builtin "object.__class__") "__get__" = some (some (.builtin "getset_descriptor.__get__")))
    (tak : PySem.W.takesIn K (.builtin "object.__class__") = some true)
    (rdD : PySem.W.readsIn K D (.type "type") = true)
    (gaD : PySem.W.specialIn K (.ref D) "__getattribute__" = some (some (.builtin "type.__getattribute__")))
    (inD : PySem.W.findCls K (.ref D) (.type "type") "__init__" = some (.val (.builtin "ValueError.__init__")))
    (g_LETTERS : PySem.W.nsIn K mainGlobals "LETTERS" = some (some (.str "abcdefghijklmnopqrstuvwxyz" tB)))
    (g_SAME : PySem.W.nsIn K mainGlobals "SAME" = some (some (.str "is" tY)))
    (g_NEW : PySem.W.nsIn K mainGlobals "NEW" = some (some (.str "new" tZ)))
    (g_MOST_LETTERS : PySem.W.nsIn K mainGlobals "MOST_LETTERS" = some (some (.int 8 tS)))
    (g_MOST_WAYS : PySem.W.nsIn K mainGlobals "MOST_WAYS" = some (some (.int 4 tD)))
    (g_MOST_STANDINGS : PySem.W.nsIn K mainGlobals "MOST_STANDINGS" = some (some (.int 20000 tU)))
    (g_MOST_SEATS : PySem.W.nsIn K mainGlobals "MOST_SEATS" = some (some (.int 5 tV)))
    (g_MOST_CASES : PySem.W.nsIn K mainGlobals "MOST_CASES" = some (some (.int 130 tW)))
    (g_MOST_ROWS : PySem.W.nsIn K mainGlobals "MOST_ROWS" = some (some (.int 20000 tX)))
    (pF : PySem.W.nsIn K mainGlobals "KEPT_WORDS" = some (some (.ref fa)))
    (uF : K.lookup fa = some ⟨.type "tuple", odF, .seq #[.str "is" e0, .str "new" e1, .str "if" e2, .str "say" e3, .str "go" e4, .str "first" e5, .str "last" e6, .str "stands" e7, .str "seen" e8, .str "odd" e9, .str "just" e10, .str "both" e11, .str "either" e12, .str "not" e13, .str "none" e14] nF, slF⟩)
    (no_ways : PySem.W.findIn K (.ref CP) "ways" = some none)
    (no_standings : PySem.W.findIn K (.ref CP) "standings" = some none)
    (no_rooms : PySem.W.findIn K (.ref CP) "rooms" = some none)
    (no_most : PySem.W.findIn K (.ref CP) "most" = some none)
    (no_steps : PySem.W.findIn K (.ref CP) "steps" = some none)
    : ∃ fd : FuncData, (∀ (s : Shared) (v : Value), BindsTo s fd ⟨[v], []⟩ [("script", v)]) ∧ ∀ base : Heap, K.In base → base.Ns mainGlobals mg → FnG l.prog w K mg base 13 fz fd ["script"] (sp_law K) := by
  have e := hfa.symm.trans (PySem.W.mg_of X G a_44)
  cases e
  have B0 : Bt mg := ⟨PySem.W.mg_none_of X G z_len, PySem.W.mg_none_of X G z_range, PySem.W.mg_none_of X G z_abs, PySem.W.mg_none_of X G z_int, PySem.W.mg_none_of X G z_str, PySem.W.mg_none_of X G z_bool, PySem.W.mg_none_of X G z_list, PySem.W.mg_none_of X G z_tuple, PySem.W.mg_none_of X G z_dict, PySem.W.mg_none_of X G z_sum, PySem.W.mg_none_of X G z_all, PySem.W.mg_none_of X G z_any, PySem.W.mg_none_of X G z_max, PySem.W.mg_none_of X G z_min, PySem.W.mg_none_of X G z_sorted, PySem.W.mg_none_of X G z_repr, PySem.W.mg_none_of X G z_isinstance, PySem.W.mg_none_of X G z_enumerate, PySem.W.mg_none_of X G z_zip⟩
  have B : Btt mg := { B0 with set := PySem.W.mg_none_of X G z_set }
  have T : Tc K mg fa CP D := ⟨⟨_, PySem.W.mg_of X G g_LETTERS, ⟨_, rfl⟩⟩, ⟨_, PySem.W.mg_of X G g_MOST_LETTERS, ⟨_, rfl⟩⟩, ⟨_, PySem.W.mg_of X G g_MOST_WAYS, ⟨_, rfl⟩⟩, ⟨_, PySem.W.mg_of X G pF, rfl⟩, ⟨_, PySem.W.mg_of X G aCP, rfl⟩, ⟨_, PySem.W.mg_of X G g_MOST_STANDINGS, ⟨_, rfl⟩⟩, ⟨_, PySem.W.mg_of X G g_MOST_SEATS, ⟨_, rfl⟩⟩, ⟨_, PySem.W.mg_of X G g_MOST_CASES, ⟨_, rfl⟩⟩, ⟨_, PySem.W.mg_of X G g_MOST_ROWS, ⟨_, rfl⟩⟩, ⟨_, PySem.W.mg_of X G g_SAME, ⟨_, rfl⟩⟩, ⟨_, PySem.W.mg_of X G g_NEW, ⟨_, rfl⟩⟩, ⟨_, PySem.W.mg_of X G aD, rfl⟩,
    fun _ => .inr ⟨_, _, _, uF, rfl, rfl, (show 15 ≤ sizeLine by decide), (.cons ⟨_, rfl⟩ (.cons ⟨_, rfl⟩ (.cons ⟨_, rfl⟩ (.cons ⟨_, rfl⟩ (.cons ⟨_, rfl⟩ (.cons ⟨_, rfl⟩ (.cons ⟨_, rfl⟩ (.cons ⟨_, rfl⟩ (.cons ⟨_, rfl⟩ (.cons ⟨_, rfl⟩ (.cons ⟨_, rfl⟩ (.cons ⟨_, rfl⟩ (.cons ⟨_, rfl⟩ (.cons ⟨_, rfl⟩ (.cons ⟨_, rfl⟩ .nil)))))))))))))))⟩⟩
  have Z0 : Dp K CP := ⟨⟨pg, hdC, po, saC⟩, no_ways, no_standings, no_rooms, no_most, no_steps⟩
  have PAR : Par K mg "ForgetError" D := ⟨PySem.W.mg_of X G aD, ⟨rdD, gaD⟩, inD⟩
  have F_1 := fun_mk (st := s_is_list) l_1 c_1 k_1
  have b_1 := F_1.binds (ps := ["value"]) fun _ _ _ _ _ _ us hl => match us, hl with | [_], _ => rfl
  have F_2 := fun_mk (st := s_is_row) l_2 c_2 k_2
  have b_2 := F_2.binds (ps := ["value", "many"]) fun _ _ _ _ _ _ us hl => match us, hl with | [_, _], _ => rfl
  have F_3 := fun_mk (st := s_is_word) l_3 c_3 k_3
  have b_3 := F_3.binds (ps := ["value"]) fun _ _ _ _ _ _ us hl => match us, hl with | [_], _ => rfl
  have F_4 := fun_mk (st := s_is_name) l_4 c_4 k_4
  have b_4 := F_4.binds (ps := ["value"]) fun _ _ _ _ _ _ us hl => match us, hl with | [_], _ => rfl
  have F_5 := fun_mk (st := s_are_different) l_5 c_5 k_5
  have b_5 := F_5.binds (ps := ["items"]) fun _ _ _ _ _ _ us hl => match us, hl with | [_], _ => rfl
  have F_6 := fun_mk (st := s_are_ways) l_6 c_6 k_6
  have b_6 := F_6.binds (ps := ["value"]) fun _ _ _ _ _ _ us hl => match us, hl with | [_], _ => rfl
  have F_7 := fun_mk (st := s_are_marks) l_7 c_7 k_7
  have b_7 := F_7.binds (ps := ["known", "value"]) fun _ _ _ _ _ _ us hl => match us, hl with | [_, _], _ => rfl
  have F_8 := fun_mk (st := s_are_seats) l_8 c_8 k_8
  have b_8 := F_8.binds (ps := ["value"]) fun _ _ _ _ _ _ us hl => match us, hl with | [_], _ => rfl
  have F_9 := fun_mk (st := s_is_case) l_9 c_9 k_9
  have b_9 := F_9.binds (ps := ["known", "seats", "rooms", "value"]) fun _ _ _ _ _ _ us hl => match us, hl with | [_, _, _, _], _ => rfl
  have F_10 := fun_mk (st := s_are_cases) l_10 c_10 k_10
  have b_10 := F_10.binds (ps := ["known", "seats", "rooms", "value"]) fun _ _ _ _ _ _ us hl => match us, hl with | [_, _, _, _], _ => rfl
  have F_11 := fun_mk (st := s_are_standings) l_11 c_11 k_11
  have b_11 := F_11.binds (ps := ["ways", "value"]) fun _ _ _ _ _ _ us hl => match us, hl with | [_, _], _ => rfl
  have F_12 := fun_mk (st := s_tuples_of) l_12 c_12 k_12
  have b_12 := F_12.binds (ps := ["value"]) fun _ _ _ _ _ _ us hl => match us, hl with | [_], _ => rfl
  have F_13 := fun_mk (st := s_steps_of) l_13 c_13 k_13
  have b_13 := F_13.binds (ps := ["standings"]) fun _ _ _ _ _ _ us hl => match us, hl with | [_], _ => rfl
  have F_14 := fun_mk (st := s_meets) l_14 c_14 k_14
  have b_14 := F_14.binds (ps := ["wanted", "marks"]) fun _ _ _ _ _ _ us hl => match us, hl with | [_, _], _ => rfl
  have F_15 := fun_mk (st := s_step) l_15 c_15 k_15
  have b_15 := F_15.binds (ps := ["program", "at", "marks"]) fun _ _ _ _ _ _ us hl => match us, hl with | [_, _, _], _ => rfl
  have F_16 := fun_mk (st := s_all_marks) l_16 c_16 k_16
  have b_16 := F_16.binds (ps := ["known", "many"]) fun _ _ _ _ _ _ us hl => match us, hl with | [_, _], _ => rfl
  have F_17 := fun_mk (st := s_compiled) l_17 c_17 k_17
  have b_17 := F_17.binds (ps := ["program"]) fun _ _ _ _ _ _ us hl => match us, hl with | [_], _ => rfl
  have F_18 := fun_mk (st := s__law_cell) l_18 c_18 k_18
  have b_18 := F_18.binds (ps := ["script", "k"]) fun _ _ _ _ _ _ us hl => match us, hl with | [_, _], _ => rfl
  have F_19 := fun_mk (st := s__law_box) l_19 c_19 k_19
  have b_19 := F_19.binds (ps := ["great"]) fun _ _ _ _ _ _ us hl => match us, hl with | [_], _ => rfl
  have F_20 := fun_mk (st := s__law_take) l_20 c_20 k_20
  have b_20 := F_20.binds (ps := ["box", "many"]) fun _ _ _ _ _ _ us hl => match us, hl with | [_, _], _ => rfl
  have F_21 := fun_mk (st := s__law_mixed) l_21 c_21 k_21
  have b_21 := F_21.binds (ps := ["box", "items"]) fun _ _ _ _ _ _ us hl => match us, hl with | [_, _], _ => rfl
  have F_22 := fun_mk (st := s__law_letters) l_22 c_22 k_22
  have b_22 := F_22.binds (ps := ["box", "many"]) fun _ _ _ _ _ _ us hl => match us, hl with | [_, _], _ => rfl
  have F_23 := fun_mk (st := s__law_taboo) l_23 c_23 k_23
  have b_23 := F_23.binds (ps := ([] : List Str)) fun _ _ _ _ _ _ us hl => match us, hl with | [], _ => rfl
  have F_24 := fun_mk (st := s__law_names) l_24 c_24 k_24
  have b_24 := F_24.binds (ps := ["box", "many"]) fun _ _ _ _ _ _ us hl => match us, hl with | [_, _], _ => rfl
  have F_25 := fun_mk (st := s__law_word) l_25 c_25 k_25
  have b_25 := F_25.binds (ps := ["box"]) fun _ _ _ _ _ _ us hl => match us, hl with | [_], _ => rfl
  have F_26 := fun_mk (st := s__law_ways) l_26 c_26 k_26
  have b_26 := F_26.binds (ps := ["box"]) fun _ _ _ _ _ _ us hl => match us, hl with | [_], _ => rfl
  have F_27 := fun_mk (st := s__law_marks) l_27 c_27 k_27
  have b_27 := F_27.binds (ps := ["box", "names"]) fun _ _ _ _ _ _ us hl => match us, hl with | [_, _], _ => rfl
  have F_28 := fun_mk (st := s__law_case) l_28 c_28 k_28
  have b_28 := F_28.binds (ps := ["box", "names", "seats", "goal", "last"]) fun _ _ _ _ _ _ us hl => match us, hl with | [_, _, _, _, _], _ => rfl
  have F_29 := fun_mk (st := s__law_heads) l_29 c_29 k_29
  have b_29 := F_29.binds (ps := ["box", "many"]) fun _ _ _ _ _ _ us hl => match us, hl with | [_, _], _ => rfl
  have F_30 := fun_mk (st := s__law_standings) l_30 c_30 k_30
  have b_30 := F_30.binds (ps := ["box", "names", "many"]) fun _ _ _ _ _ _ us hl => match us, hl with | [_, _, _], _ => rfl
  have F_31 := fun_mk (st := s__law_holder) l_31 c_31 k_31
  have b_31 := F_31.binds (ps := ["box", "names"]) fun _ _ _ _ _ _ us hl => match us, hl with | [_, _], _ => rfl
  have F_32 := fun_mk (st := s__law_power) l_32 c_32 k_32
  have b_32 := F_32.binds (ps := ["one", "many"]) fun _ _ _ _ _ _ us hl => match us, hl with | [_, _], _ => rfl
  have F_33 := fun_mk (st := s__law_all_marks) l_33 c_33 k_33
  have b_33 := F_33.binds (ps := ["known", "many"]) fun _ _ _ _ _ _ us hl => match us, hl with | [_, _], _ => rfl
  have F_34 := fun_mk (st := s__law_counts) l_34 c_34 k_34
  have b_34 := F_34.binds (ps := ["seats", "case", "marks"]) fun _ _ _ _ _ _ us hl => match us, hl with | [_, _, _], _ => rfl
  have F_35 := fun_mk (st := s__law_rows_due) l_35 c_35 k_35
  have b_35 := F_35.binds (ps := ["ways", "standings"]) fun _ _ _ _ _ _ us hl => match us, hl with | [_, _], _ => rfl
  have F_36 := fun_mk (st := s__law_cut) l_36 c_36 k_36
  have b_36 := F_36.binds (ps := ["ways", "standings"]) fun _ _ _ _ _ _ us hl => match us, hl with | [_, _], _ => rfl
  have F_37 := fun_mk (st := s__law_spoil) l_37 c_37 k_37
  have b_37 := F_37.binds (ps := ["told"]) fun _ _ _ _ _ _ us hl => match us, hl with | [_], _ => rfl
  have F_38 := fun_mk (st := s__law_alone_right) l_38 c_38 k_38
  have b_38 := F_38.binds (ps := ["rows", "told", "at"]) fun _ _ _ _ _ _ us hl => match us, hl with | [_, _, _], _ => rfl
  have F_39 := fun_mk (st := s__law_doubled) l_39 c_39 k_39
  have b_39 := F_39.binds (ps := ["box", "standings"]) fun _ _ _ _ _ _ us hl => match us, hl with | [_, _], _ => rfl
  have F_40 := fun_mk (st := s__law_program_right) l_40 c_40 k_40
  have b_40 := F_40.binds (ps := ["box", "ways", "standings", "by_name"]) fun _ _ _ _ _ _ us hl => match us, hl with | [_, _, _, _], _ => rfl
  have F_41 := fun_mk (st := s__law_wide) l_41 c_41 k_41
  have b_41 := F_41.binds (ps := ["box", "ways", "more"]) fun _ _ _ _ _ _ us hl => match us, hl with | [_, _, _], _ => rfl
  have F_42 := fun_mk (st := s__law_wide_right) l_42 c_42 k_42
  have b_42 := F_42.binds (ps := ["box", "ways", "by_name"]) fun _ _ _ _ _ _ us hl => match us, hl with | [_, _, _], _ => rfl
  have F_43 := fun_mk (st := s__law_cell_right) l_43 c_43 k_43
  have b_43 := F_43.binds (ps := ["box", "first"]) fun _ _ _ _ _ _ us hl => match us, hl with | [_, _], _ => rfl
  have F_44 := fun_mk (st := s_law) l_44 c_44 k_44
  have b_44 := F_44.binds (ps := ["script"]) fun _ _ _ _ _ _ us hl => match us, hl with | [_], _ => rfl
  have Fm1 := fun_mk (st := s_Program___init__) lm1 cm1 km1
  have bm1 := Fm1.binds (ps := ["self", "ways", "standings"]) fun _ _ _ _ _ _ us hl => match us, hl with | [_, _, _], _ => rfl
  have Fe1 := fun_mk (st := s_TooMany___init__) le1 ce1 ke1
  have be1 := Fe1.binds (ps := ["self", "count"]) fun _ _ _ _ _ _ us hl => match us, hl with | [_, _], _ => rfl
  refine ⟨PySem.W.fnOf "law" "law" (defArgs s_law) (defBody s_law) (defScope s_law) .none kV_44 dc_44 pm_44 an_44 cd_44 ct_44, fun s v => .of_eq rfl, fun base _ _ => ?_⟩
  have Oe1 : OexC K CM := ⟨⟨_, _, _, _, _, _, _, _, _, _, _, _, _, _, _, xe1, rfl⟩, se1, pe1, ye1, he1⟩
  have X_TooMany : XkF l.prog w K mg base 1 "TooMany" "count" CM D := ⟨PySem.W.mg_of X G ne1, ⟨fe1, _, ok_xi_TooMany (k := 0) Fe1 PAR Oe1 nge1, Oe1, ae1, te1, be1, PySem.W.mg_of X G ne1⟩, ⟨gae1, gge1, pe1, hde1⟩, nge1, ⟨cle1, gae1, gge1, pe1, cae1, spg, tak, moe1⟩, PySem.W.exm_ref pe1 hde1 ye1 sse1, kfe1⟩
  have G_1D : Cal l.prog w K mg base 1 "is_list" ["value"] (sp_isD K) := ⟨f_1, _, ok_isD (k := 0) F_1 B, PySem.W.mg_of X G a_1, k_1, b_1⟩
  have G_1 : Cal l.prog w K mg base 1 "is_list" ["value"] (sp_isl K) := ⟨f_1, _, ok_isl (k := 0) F_1 B, PySem.W.mg_of X G a_1, k_1, b_1⟩
  have G_2 : Cal l.prog w K mg base 1 "is_row" ["value", "many"] (sp_row K) := ⟨f_2, _, ok_row (k := 0) F_2 B, PySem.W.mg_of X G a_2, k_2, b_2⟩
  have G_3 : Cal l.prog w K mg base 1 "is_word" ["value"] sp_word := ⟨f_3, _, ok_word (k := 0) F_3 B T, PySem.W.mg_of X G a_3, k_3, b_3⟩
  have G_4 : Cal l.prog w K mg base 2 "is_name" ["value"] sp_name := ⟨f_4, _, ok_name (k := 1) F_4 B T (G_3.up (by decide)), PySem.W.mg_of X G a_4, k_4, b_4⟩
  have G_5 : Cal l.prog w K mg base 1 "are_different" ["items"] (sp_difS K) := ⟨f_5, _, ok_difS (k := 0) F_5 B, PySem.W.mg_of X G a_5, k_5, b_5⟩
  have G_6 : Cal l.prog w K mg base 3 "are_ways" ["value"] (sp_aw K) := ⟨f_6, _, ok_aw (k := 2) F_6 B T (G_1.up (by decide)) (G_2.up (by decide)) (G_4.up (by decide)), PySem.W.mg_of X G a_6, k_6, b_6⟩
  have G_7 : Cal l.prog w K mg base 2 "are_marks" ["known", "value"] (sp_amk K) := ⟨f_7, _, ok_amk (k := 1) F_7 B (G_1D.up (by decide)) (G_5.up (by decide)), PySem.W.mg_of X G a_7, k_7, b_7⟩
  have G_8 : Cal l.prog w K mg base 3 "are_seats" ["value"] (sp_ase K) := ⟨f_8, _, ok_ase (k := 2) F_8 B T (G_1D.up (by decide)) (G_4.up (by decide)) (G_5.up (by decide)), PySem.W.mg_of X G a_8, k_8, b_8⟩
  have G_9 : Cal l.prog w K mg base 3 "is_case" ["known", "seats", "rooms", "value"] (sp_isc K) := ⟨f_9, _, ok_isc (k := 2) F_9 B T (G_2.up (by decide)) (G_1D.up (by decide)) (G_7.up (by decide)) (G_3.up (by decide)), PySem.W.mg_of X G a_9, k_9, b_9⟩
  have G_10 : Cal l.prog w K mg base 4 "are_cases" ["known", "seats", "rooms", "value"] (sp_acs K) := ⟨f_10, _, ok_acs (k := 3) F_10 B T (G_1D.up (by decide)) (G_9.up (by decide)), PySem.W.mg_of X G a_10, k_10, b_10⟩
  have G_11 : Cal l.prog w K mg base 5 "are_standings" ["ways", "value"] (sp_ast K) := ⟨f_11, _, ok_ast (k := 4) F_11 B T (G_1D.up (by decide)) (G_2.up (by decide)) (G_3.up (by decide)) (G_8.up (by decide)) (G_10.up (by decide)), PySem.W.mg_of X G a_11, k_11, b_11⟩
  have GTX : Cal l.prog w K mg base 0 "tuples_of" ["value"] sp_tpX := ⟨f_12, _, (fn_never (k := 0) (f := f_12) : FnG l.prog w K mg base 0 f_12 _ ["value"] _), PySem.W.mg_of X G a_12, k_12, b_12⟩
  have GT0 : Cal l.prog w K mg base 2 "tuples_of" ["value"] (sp_tpl K 0) := ⟨f_12, _, ok_tp0 (k := 1) F_12 B (G_1D.up (by decide)) (GTX.up (by decide)), PySem.W.mg_of X G a_12, k_12, b_12⟩
  have GT1 : Cal l.prog w K mg base 3 "tuples_of" ["value"] (sp_tpl K 1) := ⟨f_12, _, ok_tpS (n := 0) (k := 2) F_12 B (G_1D.up (by decide)) (GT0.up (by decide)), PySem.W.mg_of X G a_12, k_12, b_12⟩
  have GT2 : Cal l.prog w K mg base 4 "tuples_of" ["value"] (sp_tpl K 2) := ⟨f_12, _, ok_tpS (n := 1) (k := 3) F_12 B (G_1D.up (by decide)) (GT1.up (by decide)), PySem.W.mg_of X G a_12, k_12, b_12⟩
  have GT3 : Cal l.prog w K mg base 5 "tuples_of" ["value"] (sp_tpl K 3) := ⟨f_12, _, ok_tpS (n := 2) (k := 4) F_12 B (G_1D.up (by decide)) (GT2.up (by decide)), PySem.W.mg_of X G a_12, k_12, b_12⟩
  have GT4 : Cal l.prog w K mg base 6 "tuples_of" ["value"] (sp_tpl K 4) := ⟨f_12, _, ok_tpS (n := 3) (k := 5) F_12 B (G_1D.up (by decide)) (GT3.up (by decide)), PySem.W.mg_of X G a_12, k_12, b_12⟩
  have GT5 : Cal l.prog w K mg base 7 "tuples_of" ["value"] (sp_tpl K 5) := ⟨f_12, _, ok_tpS (n := 4) (k := 6) F_12 B (G_1D.up (by decide)) (GT4.up (by decide)), PySem.W.mg_of X G a_12, k_12, b_12⟩
  have G_12 : Cal l.prog w K mg base 8 "tuples_of" ["value"] (sp_tpl K 6) := ⟨f_12, _, ok_tpS (n := 5) (k := 7) F_12 B (G_1D.up (by decide)) (GT5.up (by decide)), PySem.W.mg_of X G a_12, k_12, b_12⟩
  have G_13 : Cal l.prog w K mg base 1 "steps_of" ["standings"] (sp_sto K) := ⟨f_13, _, ok_sto (k := 0) F_13 B T, PySem.W.mg_of X G a_13, k_13, b_13⟩
  have G_14 : Cal l.prog w K mg base 1 "meets" ["wanted", "marks"] (sp_mts K) := ⟨f_14, _, ok_mts (k := 0) F_14 B, PySem.W.mg_of X G a_14, k_14, b_14⟩
  have G_15 : Cal l.prog w K mg base 2 "step" ["program", "at", "marks"] (sp_stp K CP) := ⟨f_15, _, ok_stp (k := 1) F_15 B Z0 (G_14.up (by decide)), PySem.W.mg_of X G a_15, k_15, b_15⟩
  have G_16 : Cal l.prog w K mg base 1 "all_marks" ["known", "many"] (sp_alm K) := ⟨f_16, _, ok_alm (k := 0) F_16 B, PySem.W.mg_of X G a_16, k_16, b_16⟩
  have G_17 : Cal l.prog w K mg base 4 "compiled" ["program"] (sp_cmp K CP CM) := ⟨f_17, _, ok_cmp (k := 2) F_17 B T Z0 (G_15.up (by decide)) (G_16.up (by decide)) (X_TooMany.up (by decide)), PySem.W.mg_of X G a_17, k_17, b_17⟩
  have CR_compiled : CalR l.prog w K mg base 4 "compiled" ["program"] ["program"] (sp_cmp K CP CM) := ⟨f_17, _, ok_cmp (k := 2) F_17 B T Z0 (G_15.up (by decide)) (G_16.up (by decide)) (X_TooMany.up (by decide)), PySem.W.mg_of X G a_17, k_17, fun s us _ hl => match us, hl with | [_], _ => .of_eq rfl⟩
  have Mk_Program : Mk K CP fm1 := ⟨mkC, am1, im1, kpC⟩
  have I_Program : In l.prog w K mg base 9 CP "Program" ["self", "ways", "standings"] (sp_pri K CP) := ⟨fm1, _, ok_pri (k := 8) Fm1 B Z0 (G_6.up (by decide)) (G_11.up (by decide)) (G_12.up (by decide)) (G_13.up (by decide)), Mk_Program, bm1, PySem.W.mg_of X G aCP⟩
  have G_18 : Cal l.prog w K mg base 1 "_law_cell" ["script", "k"] (sp_cell K) := ⟨f_18, _, ok_cell (k := 0) F_18 B.toBt, PySem.W.mg_of X G a_18, k_18, b_18⟩
  have G_19 : Cal l.prog w K mg base 1 "_law_box" ["great"] sp_box := ⟨f_19, _, ok_box (k := 0) F_19 B.toBt, PySem.W.mg_of X G a_19, k_19, b_19⟩
  have G_20 : Cal l.prog w K mg base 1 "_law_take" ["box", "many"] sp_take := ⟨f_20, _, ok_take (k := 0) F_20 B.toBt, PySem.W.mg_of X G a_20, k_20, b_20⟩
  have G_21 : Cal l.prog w K mg base 2 "_law_mixed" ["box", "items"] (sp_mix K) := ⟨f_21, _, ok_mix (k := 1) F_21 B (G_20.up (by decide)), PySem.W.mg_of X G a_21, k_21, b_21⟩
  have G_22 : Cal l.prog w K mg base 2 "_law_letters" ["box", "many"] sp_ltr := ⟨f_22, _, ok_ltr (k := 1) F_22 B (G_20.up (by decide)), PySem.W.mg_of X G a_22, k_22, b_22⟩
  have G_23 : Cal l.prog w K mg base 1 "_law_taboo" ([] : List Str) sp_tab := ⟨f_23, _, ok_tab (k := 0) F_23 B, PySem.W.mg_of X G a_23, k_23, b_23⟩
  have G_24 : Cal l.prog w K mg base 3 "_law_names" ["box", "many"] sp_nms := ⟨f_24, _, ok_nms (k := 2) F_24 B (G_20.up (by decide)) (G_22.up (by decide)) (G_23.up (by decide)) (G_21.up (by decide)), PySem.W.mg_of X G a_24, k_24, b_24⟩
  have G_25 : Cal l.prog w K mg base 3 "_law_word" ["box"] sp_wrd := ⟨f_25, _, ok_wrd (k := 2) F_25 B (G_20.up (by decide)) (G_22.up (by decide)) (G_23.up (by decide)), PySem.W.mg_of X G a_25, k_25, b_25⟩
  have G_26 : Cal l.prog w K mg base 4 "_law_ways" ["box"] sp_wys := ⟨f_26, _, ok_wys (k := 3) F_26 B (G_20.up (by decide)) (G_24.up (by decide)), PySem.W.mg_of X G a_26, k_26, b_26⟩
  have G_27 : Cal l.prog w K mg base 3 "_law_marks" ["box", "names"] (sp_mks K) := ⟨f_27, _, ok_mks (k := 2) F_27 B (G_20.up (by decide)) (G_21.up (by decide)), PySem.W.mg_of X G a_27, k_27, b_27⟩
  have G_28 : Cal l.prog w K mg base 4 "_law_case" ["box", "names", "seats", "goal", "last"] (sp_cas K) := ⟨f_28, _, ok_cas (k := 3) F_28 B (G_20.up (by decide)) (G_27.up (by decide)) (G_25.up (by decide)), PySem.W.mg_of X G a_28, k_28, b_28⟩
  have G_29 : Cal l.prog w K mg base 4 "_law_heads" ["box", "many"] (sp_hds K) := ⟨f_29, _, ok_hds (k := 3) F_29 B (G_20.up (by decide)) (G_22.up (by decide)) (G_24.up (by decide)) (G_23.up (by decide)) (G_21.up (by decide)), PySem.W.mg_of X G a_29, k_29, b_29⟩
  have G_30 : Cal l.prog w K mg base 5 "_law_standings" ["box", "names", "many"] (sp_sts K) := ⟨f_30, _, ok_sts (k := 4) F_30 B (G_20.up (by decide)) (G_29.up (by decide)) (G_28.up (by decide)), PySem.W.mg_of X G a_30, k_30, b_30⟩
  have G_31 : Cal l.prog w K mg base 4 "_law_holder" ["box", "names"] (sp_hol K) := ⟨f_31, _, ok_hol (k := 3) F_31 B (G_20.up (by decide)) (G_24.up (by decide)) (G_27.up (by decide)) (G_21.up (by decide)), PySem.W.mg_of X G a_31, k_31, b_31⟩
  have G_32 : Cal l.prog w K mg base 1 "_law_power" ["one", "many"] sp_pow := ⟨f_32, _, ok_pow (k := 0) F_32 B, PySem.W.mg_of X G a_32, k_32, b_32⟩
  have G_33 : Cal l.prog w K mg base 1 "_law_all_marks" ["known", "many"] (sp_lam K) := ⟨f_33, _, ok_lam (k := 0) F_33 B, PySem.W.mg_of X G a_33, k_33, b_33⟩
  have G_34 : Cal l.prog w K mg base 1 "_law_counts" ["seats", "case", "marks"] (sp_cnt K) := ⟨f_34, _, ok_cnt (k := 0) F_34 B, PySem.W.mg_of X G a_34, k_34, b_34⟩
  have G_35 : Cal l.prog w K mg base 2 "_law_rows_due" ["ways", "standings"] (sp_rdu K) := ⟨f_35, _, ok_rdu (k := 1) F_35 B (G_33.up (by decide)) (G_34.up (by decide)), PySem.W.mg_of X G a_35, k_35, b_35⟩
  have G_36 : Cal l.prog w K mg base 2 "_law_cut" ["ways", "standings"] (sp_cut K) := ⟨f_36, _, ok_cut (k := 1) F_36 B (G_32.up (by decide)), PySem.W.mg_of X G a_36, k_36, b_36⟩
  have G_37 : Cal l.prog w K mg base 1 "_law_spoil" ["told"] sp_spl := ⟨f_37, _, ok_spl (k := 0) F_37 B, PySem.W.mg_of X G a_37, k_37, b_37⟩
  have G_38 : Cal l.prog w K mg base 1 "_law_alone_right" ["rows", "told", "at"] (sp_aln K) := ⟨f_38, _, ok_aln (k := 0) F_38 B, PySem.W.mg_of X G a_38, k_38, b_38⟩
  have G_39 : Cal l.prog w K mg base 3 "_law_doubled" ["box", "standings"] (sp_dbl K) := ⟨f_39, _, ok_dbl (k := 2) F_39 B (G_20.up (by decide)) (G_21.up (by decide)), PySem.W.mg_of X G a_39, k_39, b_39⟩
  have G_40 : Cal l.prog w K mg base 11 "_law_program_right" ["box", "ways", "standings", "by_name"] (sp_prr K) := ⟨f_40, _, ok_prr (k := 9) F_40 B (G_39.up (by decide)) (G_35.up (by decide)) (G_37.up (by decide)) (G_38.up (by decide)) (G_17.up (by decide)) (CR_compiled.up (by decide)) (I_Program.up (by decide)), PySem.W.mg_of X G a_40, k_40, b_40⟩
  have G_41 : Cal l.prog w K mg base 4 "_law_wide" ["box", "ways", "more"] (sp_wid K) := ⟨f_41, _, ok_wid (k := 3) F_41 B (G_32.up (by decide)) (G_21.up (by decide)) (G_24.up (by decide)) (G_22.up (by decide)), PySem.W.mg_of X G a_41, k_41, b_41⟩
  have G_42 : Cal l.prog w K mg base 11 "_law_wide_right" ["box", "ways", "by_name"] (sp_wrt K) := ⟨f_42, _, ok_wrt (k := 9) F_42 B (G_20.up (by decide)) (G_41.up (by decide)) (G_33.up (by decide)) (G_17.up (by decide)) (CR_compiled.up (by decide)) (I_Program.up (by decide)) (X_TooMany.up (by decide)), PySem.W.mg_of X G a_42, k_42, b_42⟩
  have G_43 : Cal l.prog w K mg base 12 "_law_cell_right" ["box", "first"] (sp_crr K) := ⟨f_43, _, ok_crr (k := 11) F_43 B (G_20.up (by decide)) (G_26.up (by decide)) (G_42.up (by decide)) (G_31.up (by decide)) (G_30.up (by decide)) (G_40.up (by decide)) (G_36.up (by decide)), PySem.W.mg_of X G a_43, k_43, b_43⟩
  exact ok_law (k := 12) F_44 B (G_18.up (by decide)) (G_19.up (by decide)) (G_43.up (by decide))
end M04
open PySem PySem.W PyProof.Rows in
set_option maxRecDepth 100000 in
set_option maxHeartbeats 0 in
theorem PySem.Challenge.cw_mayforget_k26_rows_by_own_cases_holds : PySem.Challenge.rw_mayforget_k26_rows_by_own_cases.Holds := by
  w_on; o_law; k_head; (case hw => w_witness2)
  k_fill
  refine G.walk (l := PySem.Challenge.rw_mayforget_k26_rows_by_own_cases) (n := 63) (k := 13) (arg := "script") (sp := M04.sp_law) rfl (by decide) rfl ⟨rfl, by decide, by decide⟩ (fun w h Y => PySem.W.kIn_of Y) ?F ?K
  case K => exact fun _ H a ns hl _ hS => ⟨H, a, ns, rfl, ⟨fun _ _ e => e, fun _ h => (nomatch h), List.nodup_nil⟩, hS, hl, fun _ => rfl⟩
  case F =>
    intro w mg fa h Y KX G hmg
    refine' M04.all_mk KX G hmg ?a_1 ?l_1 ?c_1 ?k_1 ?a_2 ?l_2 ?c_2 ?k_2 ?a_3 ?l_3 ?c_3 ?k_3 ?a_4 ?l_4 ?c_4 ?k_4 ?a_5 ?l_5 ?c_5 ?k_5 ?a_6 ?l_6 ?c_6 ?k_6 ?a_7 ?l_7 ?c_7 ?k_7 ?a_8 ?l_8 ?c_8 ?k_8 ?a_9 ?l_9 ?c_9 ?k_9 ?a_10 ?l_10 ?c_10 ?k_10 ?a_11 ?l_11 ?c_11 ?k_11 ?a_12 ?l_12 ?c_12 ?k_12 ?a_13 ?l_13 ?c_13 ?k_13 ?a_14 ?l_14 ?c_14 ?k_14 ?a_15 ?l_15 ?c_15 ?k_15 ?a_16 ?l_16 ?c_16 ?k_16 ?a_17 ?l_17 ?c_17 ?k_17 ?a_18 ?l_18 ?c_18 ?k_18 ?a_19 ?l_19 ?c_19 ?k_19 ?a_20 ?l_20 ?c_20 ?k_20 ?a_21 ?l_21 ?c_21 ?k_21 ?a_22 ?l_22 ?c_22 ?k_22 ?a_23 ?l_23 ?c_23 ?k_23 ?a_24 ?l_24 ?c_24 ?k_24 ?a_25 ?l_25 ?c_25 ?k_25 ?a_26 ?l_26 ?c_26 ?k_26 ?a_27 ?l_27 ?c_27 ?k_27 ?a_28 ?l_28 ?c_28 ?k_28 ?a_29 ?l_29 ?c_29 ?k_29 ?a_30 ?l_30 ?c_30 ?k_30 ?a_31 ?l_31 ?c_31 ?k_31 ?a_32 ?l_32 ?c_32 ?k_32 ?a_33 ?l_33 ?c_33 ?k_33 ?a_34 ?l_34 ?c_34 ?k_34 ?a_35 ?l_35 ?c_35 ?k_35 ?a_36 ?l_36 ?c_36 ?k_36 ?a_37 ?l_37 ?c_37 ?k_37 ?a_38 ?l_38 ?c_38 ?k_38 ?a_39 ?l_39 ?c_39 ?k_39 ?a_40 ?l_40 ?c_40 ?k_40 ?a_41 ?l_41 ?c_41 ?k_41 ?a_42 ?l_42 ?c_42 ?k_42 ?a_43 ?l_43 ?c_43 ?k_43 ?a_44 ?l_44 ?c_44 ?k_44 ?am1 ?lm1 ?cm1 ?km1 ?im1 ?ae1 ?le1 ?ce1 ?ke1 ?te1 ?ne1 ?xe1 ?se1 ?pe1 ?ye1 ?he1 ?gae1 ?gge1 ?hde1 ?nge1 ?cle1 ?cae1 ?moe1 ?sse1 ?kfe1 ?z_len ?z_range ?z_abs ?z_int ?z_str ?z_bool ?z_list ?z_tuple ?z_dict ?z_sum ?z_all ?z_any ?z_max ?z_min ?z_sorted ?z_repr ?z_isinstance ?z_enumerate ?z_zip ?z_set ?aD ?aCP ?pg ?hdC ?po ?saC ?mkC ?kpC ?spg ?tak ?rdD ?gaD ?inD ?g_LETTERS ?g_SAME ?g_NEW ?g_MOST_LETTERS ?g_MOST_WAYS ?g_MOST_STANDINGS ?g_MOST_SEATS ?g_MOST_CASES ?g_MOST_ROWS ?pF ?uF ?no_ways ?no_standings ?no_rooms ?no_most ?no_steps
    (case aCP => first | k_is | rfl)
    (case aD => first | k_is | rfl)
    (case pF => first | k_is | rfl)
    (case ne1 => first | k_is | rfl)
    (case a_1 => first | k_is | rfl)
    (case l_1 => first | k_is | rfl)
    (case c_1 => first | k_is | rfl)
    (case k_1 => first | k_is | rfl)
    (case a_2 => first | k_is | rfl)
    (case l_2 => first | k_is | rfl)
    (case c_2 => first | k_is | rfl)
    (case k_2 => first | k_is | rfl)
    (case a_3 => first | k_is | rfl)
    (case l_3 => first | k_is | rfl)
    (case c_3 => first | k_is | rfl)
    (case k_3 => first | k_is | rfl)
    (case a_4 => first | k_is | rfl)
    (case l_4 => first | k_is | rfl)
    (case c_4 => first | k_is | rfl)
    (case k_4 => first | k_is | rfl)
    (case a_5 => first | k_is | rfl)
    (case l_5 => first | k_is | rfl)
    (case c_5 => first | k_is | rfl)
    (case k_5 => first | k_is | rfl)
    (case a_6 => first | k_is | rfl)
    (case l_6 => first | k_is | rfl)
    (case c_6 => first | k_is | rfl)
    (case k_6 => first | k_is | rfl)
    (case a_7 => first | k_is | rfl)
    (case l_7 => first | k_is | rfl)
    (case c_7 => first | k_is | rfl)
    (case k_7 => first | k_is | rfl)
    (case a_8 => first | k_is | rfl)
    (case l_8 => first | k_is | rfl)
    (case c_8 => first | k_is | rfl)
    (case k_8 => first | k_is | rfl)
    (case a_9 => first | k_is | rfl)
    (case l_9 => first | k_is | rfl)
    (case c_9 => first | k_is | rfl)
    (case k_9 => first | k_is | rfl)
    (case a_10 => first | k_is | rfl)
    (case l_10 => first | k_is | rfl)
    (case c_10 => first | k_is | rfl)
    (case k_10 => first | k_is | rfl)
    (case a_11 => first | k_is | rfl)
    (case l_11 => first | k_is | rfl)
    (case c_11 => first | k_is | rfl)
    (case k_11 => first | k_is | rfl)
    (case a_12 => first | k_is | rfl)
    (case l_12 => first | k_is | rfl)
    (case c_12 => first | k_is | rfl)
    (case k_12 => first | k_is | rfl)
    (case a_13 => first | k_is | rfl)
    (case l_13 => first | k_is | rfl)
    (case c_13 => first | k_is | rfl)
    (case k_13 => first | k_is | rfl)
    (case a_14 => first | k_is | rfl)
    (case l_14 => first | k_is | rfl)
    (case c_14 => first | k_is | rfl)
    (case k_14 => first | k_is | rfl)
    (case a_15 => first | k_is | rfl)
    (case l_15 => first | k_is | rfl)
    (case c_15 => first | k_is | rfl)
    (case k_15 => first | k_is | rfl)
    (case a_16 => first | k_is | rfl)
    (case l_16 => first | k_is | rfl)
    (case c_16 => first | k_is | rfl)
    (case k_16 => first | k_is | rfl)
    (case a_17 => first | k_is | rfl)
    (case l_17 => first | k_is | rfl)
    (case c_17 => first | k_is | rfl)
    (case k_17 => first | k_is | rfl)
    (case a_18 => first | k_is | rfl)
    (case l_18 => first | k_is | rfl)
    (case c_18 => first | k_is | rfl)
    (case k_18 => first | k_is | rfl)
    (case a_19 => first | k_is | rfl)
    (case l_19 => first | k_is | rfl)
    (case c_19 => first | k_is | rfl)
    (case k_19 => first | k_is | rfl)
    (case a_20 => first | k_is | rfl)
    (case l_20 => first | k_is | rfl)
    (case c_20 => first | k_is | rfl)
    (case k_20 => first | k_is | rfl)
    (case a_21 => first | k_is | rfl)
    (case l_21 => first | k_is | rfl)
    (case c_21 => first | k_is | rfl)
    (case k_21 => first | k_is | rfl)
    (case a_22 => first | k_is | rfl)
    (case l_22 => first | k_is | rfl)
    (case c_22 => first | k_is | rfl)
    (case k_22 => first | k_is | rfl)
    (case a_23 => first | k_is | rfl)
    (case l_23 => first | k_is | rfl)
    (case c_23 => first | k_is | rfl)
    (case k_23 => first | k_is | rfl)
    (case a_24 => first | k_is | rfl)
    (case l_24 => first | k_is | rfl)
    (case c_24 => first | k_is | rfl)
    (case k_24 => first | k_is | rfl)
    (case a_25 => first | k_is | rfl)
    (case l_25 => first | k_is | rfl)
    (case c_25 => first | k_is | rfl)
    (case k_25 => first | k_is | rfl)
    (case a_26 => first | k_is | rfl)
    (case l_26 => first | k_is | rfl)
    (case c_26 => first | k_is | rfl)
    (case k_26 => first | k_is | rfl)
    (case a_27 => first | k_is | rfl)
    (case l_27 => first | k_is | rfl)
    (case c_27 => first | k_is | rfl)
    (case k_27 => first | k_is | rfl)
    (case a_28 => first | k_is | rfl)
    (case l_28 => first | k_is | rfl)
    (case c_28 => first | k_is | rfl)
    (case k_28 => first | k_is | rfl)
    (case a_29 => first | k_is | rfl)
    (case l_29 => first | k_is | rfl)
    (case c_29 => first | k_is | rfl)
    (case k_29 => first | k_is | rfl)
    (case a_30 => first | k_is | rfl)
    (case l_30 => first | k_is | rfl)
    (case c_30 => first | k_is | rfl)
    (case k_30 => first | k_is | rfl)
    (case a_31 => first | k_is | rfl)
    (case l_31 => first | k_is | rfl)
    (case c_31 => first | k_is | rfl)
    (case k_31 => first | k_is | rfl)
    (case a_32 => first | k_is | rfl)
    (case l_32 => first | k_is | rfl)
    (case c_32 => first | k_is | rfl)
    (case k_32 => first | k_is | rfl)
    (case a_33 => first | k_is | rfl)
    (case l_33 => first | k_is | rfl)
    (case c_33 => first | k_is | rfl)
    (case k_33 => first | k_is | rfl)
    (case a_34 => first | k_is | rfl)
    (case l_34 => first | k_is | rfl)
    (case c_34 => first | k_is | rfl)
    (case k_34 => first | k_is | rfl)
    (case a_35 => first | k_is | rfl)
    (case l_35 => first | k_is | rfl)
    (case c_35 => first | k_is | rfl)
    (case k_35 => first | k_is | rfl)
    (case a_36 => first | k_is | rfl)
    (case l_36 => first | k_is | rfl)
    (case c_36 => first | k_is | rfl)
    (case k_36 => first | k_is | rfl)
    (case a_37 => first | k_is | rfl)
    (case l_37 => first | k_is | rfl)
    (case c_37 => first | k_is | rfl)
    (case k_37 => first | k_is | rfl)
    (case a_38 => first | k_is | rfl)
    (case l_38 => first | k_is | rfl)
    (case c_38 => first | k_is | rfl)
    (case k_38 => first | k_is | rfl)
    (case a_39 => first | k_is | rfl)
    (case l_39 => first | k_is | rfl)
    (case c_39 => first | k_is | rfl)
    (case k_39 => first | k_is | rfl)
    (case a_40 => first | k_is | rfl)
    (case l_40 => first | k_is | rfl)
    (case c_40 => first | k_is | rfl)
    (case k_40 => first | k_is | rfl)
    (case a_41 => first | k_is | rfl)
    (case l_41 => first | k_is | rfl)
    (case c_41 => first | k_is | rfl)
    (case k_41 => first | k_is | rfl)
    (case a_42 => first | k_is | rfl)
    (case l_42 => first | k_is | rfl)
    (case c_42 => first | k_is | rfl)
    (case k_42 => first | k_is | rfl)
    (case a_43 => first | k_is | rfl)
    (case l_43 => first | k_is | rfl)
    (case c_43 => first | k_is | rfl)
    (case k_43 => first | k_is | rfl)
    (case a_44 => first | k_is | rfl)
    (case l_44 => first | k_is | rfl)
    (case c_44 => first | k_is | rfl)
    (case k_44 => first | k_is | rfl)
    (case am1 => first | k_is | rfl)
    (case lm1 => first | k_is | rfl)
    (case cm1 => first | k_is | rfl)
    (case km1 => first | k_is | rfl)
    (case im1 => first | k_is | rfl)
    (case ae1 => first | k_is | rfl)
    (case le1 => first | k_is | rfl)
    (case ce1 => first | k_is | rfl)
    (case ke1 => first | k_is | rfl)
    (case te1 => first | k_is | rfl)
    (case xe1 => first | k_is | rfl)
    (case se1 => first | k_is | rfl)
    (case pe1 => first | k_is | rfl)
    (case ye1 => first | k_is | rfl)
    (case he1 => first | k_is | rfl)
    (case gae1 => first | k_is | rfl)
    (case gge1 => first | k_is | rfl)
    (case hde1 => first | k_is | rfl)
    (case nge1 => first | k_is | rfl)
    (case cle1 => first | k_is | rfl)
    (case cae1 => first | k_is | rfl)
    (case moe1 => first | k_is | rfl)
    (case sse1 => first | k_is | rfl)
    (case kfe1 => first | k_is | rfl)
    (case z_len => first | k_is | rfl)
    (case z_range => first | k_is | rfl)
    (case z_abs => first | k_is | rfl)
    (case z_int => first | k_is | rfl)
    (case z_str => first | k_is | rfl)
    (case z_bool => first | k_is | rfl)
    (case z_list => first | k_is | rfl)
    (case z_tuple => first | k_is | rfl)
    (case z_dict => first | k_is | rfl)
    (case z_sum => first | k_is | rfl)
    (case z_all => first | k_is | rfl)
    (case z_any => first | k_is | rfl)
    (case z_max => first | k_is | rfl)
    (case z_min => first | k_is | rfl)
    (case z_sorted => first | k_is | rfl)
    (case z_repr => first | k_is | rfl)
    (case z_isinstance => first | k_is | rfl)
    (case z_enumerate => first | k_is | rfl)
    (case z_zip => first | k_is | rfl)
    (case z_set => first | k_is | rfl)
    (case pg => first | k_is | rfl)
    (case hdC => first | k_is | rfl)
    (case po => first | k_is | rfl)
    (case saC => first | k_is | rfl)
    (case mkC => first | k_is | rfl)
    (case kpC => first | k_is | rfl)
    (case spg => first | k_is | rfl)
    (case tak => first | k_is | rfl)
    (case rdD => first | k_is | rfl)
    (case gaD => first | k_is | rfl)
    (case inD => first | k_is | rfl)
    (case g_LETTERS => first | k_is | rfl)
    (case g_SAME => first | k_is | rfl)
    (case g_NEW => first | k_is | rfl)
    (case g_MOST_LETTERS => first | k_is | rfl)
    (case g_MOST_WAYS => first | k_is | rfl)
    (case g_MOST_STANDINGS => first | k_is | rfl)
    (case g_MOST_SEATS => first | k_is | rfl)
    (case g_MOST_CASES => first | k_is | rfl)
    (case g_MOST_ROWS => first | k_is | rfl)
    (case uF => first | k_is | rfl)
    (case no_ways => first | k_is | rfl)
    (case no_standings => first | k_is | rfl)
    (case no_rooms => first | k_is | rfl)
    (case no_most => first | k_is | rfl)
    (case no_steps => first | k_is | rfl)
