import PyProof.Rows.All
import Wide.All
import OpenK.AllK
import Wide.FinOn
import HandS.ForMost
import HandS.ForExc
import HandS.Flow
import HandS.Style
import HandS.IsInst
import HandS.TupAny
import HandS.Deep
import HandS.RaiseMore
import HandS.Conv
import HandS.FStr
import HandS.Walk
import PyProof.Rows.StrCase
import HandS.Ends
import HandS.ExcInit
import HandS.ExcField
import HandS.ExcIs
import HandS.TryMany
import HandS.ClsMeth
import HandS.NoneIn
import KE.KExcIs
import PyProof.StrBlock2
import PyProof.Rows.StrMul
import HandS.Text
import HandS.Zip
import PySem.Challenge.RW_mayforget_k85_limits_and_remains
import HandS.Codes
set_option Elab.async false
set_option linter.all false
set_option maxRecDepth 100000
set_option maxHeartbeats 4000000
/-! My own small layer over the hand layer, part A: defs whose callers' repr guards are known to be empty; calls of them. -/
namespace G
open PySem PySem.Spec PyProof.Rows L2

/-- room for k calls, and no container is being shown -/
structure Rm (k : Nat) (A : Around) : Prop where
  room : Room k A
  gd : A.guards = some []
theorem Rm.mono {j k : Nat} {A : Around} (r : Rm k A) (h : j ≤ k) : Rm j A := ⟨r.room.mono h, r.gd⟩
theorem Rm.in_def {k : Nat} {A : Around} (r : Rm (k + 1) A) (env : Env) : Rm k (A.deeper env) := ⟨r.room.deeper env, r.gd⟩
theorem Rm.hu {k : Nat} {A : Around} (r : Rm k A) : A.units + 1 < cLine := hu_of r.room
theorem Rm.hu64 {k : Nat} {A : Around} (r : Rm k A) : A.units + 64 < cLine := r.room.units
/-- what is asked of the place where values are shown or compared, in a suite, too -/
structure Rq (A : Around) : Prop where
  hu64 : A.units + 64 < cLine
  gd : A.guards = some []
theorem Rq.hu {A : Around} (r : Rq A) : A.units + 1 < cLine := Nat.lt_of_le_of_lt (Nat.add_le_add_left (by decide) _) r.hu64
theorem Rm.q {k : Nat} {A : Around} (r : Rm k A) : Rq A := ⟨r.hu64, r.gd⟩
theorem Rq.mark {A : Around} (r : Rq A) (v : Option Value) : Rq (A.mark v) := ⟨r.hu64, r.gd⟩

section
variable (P : Program) (w : World) (K : PySem.W.Frag) (mg : Str → Option Value) (base : Heap)
/-- the def at f keeps sp, called where nothing is being shown -/
structure FnG (k : Nat) (f : Addr) (fd : FuncData) (ps : List Str) (sp : Sp) : Prop where
  arity : ∀ vs H Q E, sp vs H Q E → vs.length = ps.length
  go : ∀ (A : Around) (outer : List Env) (s : Shared) (H : Hp) (args : Args) (us : List Value) (vs : List V) (Q : VK) (E : XK), Rm k A →
    Env0 P w K mg base A outer s H → BindsTo s fd args (ps.zip us) → Vals vs us → sp vs H Q E →
    codeAny (model P w) A (.call (.ref f) args) (CR (L2.CX P w) outer P w H s Q E) s
/-- a def of the module, by its name -/
def Cal (k : Nat) (x : Str) (ps : List Str) (sp : Sp) : Prop :=
  ∃ f fd, FnG P w K mg base k f fd ps sp ∧ mg x = some (.ref f) ∧ PySem.W.keepIn K (.ref f) = true ∧ Binds K fd ps []
end
section
variable {P : Program} {w : World} {K : PySem.W.Frag} {mg : Str → Option Value} {base : Heap}
theorem FnG.up {j k : Nat} {f : Addr} {fd : FuncData} {ps : List Str} {sp : Sp} (F : FnG P w K mg base j f fd ps sp) (h : j ≤ k) : FnG P w K mg base k f fd ps sp :=
  ⟨F.arity, fun A outer s H args us vs Q E r => F.go A outer s H args us vs Q E (r.mono h)⟩
theorem FnG.weak {k : Nat} {f : Addr} {fd : FuncData} {ps : List Str} {sp sp' : Sp} (F : FnG P w K mg base k f fd ps sp) (h : ∀ vs H Q E, sp' vs H Q E → sp vs H Q E) : FnG P w K mg base k f fd ps sp' :=
  ⟨fun vs H Q E q => F.arity vs H Q E (h _ _ _ _ q), fun A outer s H args us vs Q E r e b v q => F.go A outer s H args us vs Q E r e b v (h _ _ _ _ q)⟩
theorem Cal.up {j k : Nat} {x : Str} {ps : List Str} {sp : Sp} (C : Cal P w K mg base j x ps sp) (h : j ≤ k) : Cal P w K mg base k x ps sp :=
  let ⟨f, fd, F, r⟩ := C
  ⟨f, fd, F.up h, r⟩
theorem Cal.weak {k : Nat} {x : Str} {ps : List Str} {sp sp' : Sp} (C : Cal P w K mg base k x ps sp) (h : ∀ vs H Q E, sp' vs H Q E → sp vs H Q E) : Cal P w K mg base k x ps sp' :=
  let ⟨f, fd, F, r⟩ := C
  ⟨f, fd, F.weak h, r⟩
end

section
variable {X : Cx} {k : Nat} {f C : Addr} {fd : FuncData} {ps ks : List Str} {sp : Sp} {E : XK} {x m : Str} {p pos apos : Pos} {e o : Expr} {es : List Expr} {kws : List Keyword} {ta : TE} {t tk : TA}
/-- the callee runs, its values bound as told -/
theorem fn_go {pins : List (Addr × Obj)} {σ : L2.St} {H : Hp} {s : Shared} {Q : VK} {us all : List Value} {kv : List (Str × Value)} {vs : List V} (F : FnG X.prog X.w X.K X.mg X.base k f fd ps sp) (r : Rm k X.A)
    (hb : BindsTo s fd ⟨us, kv⟩ (ps.zip all)) (hx : Passes (L2.CX X.prog X.w) X E) (I : Inv X pins σ H s) (rv : Vals vs all) (h : sp vs H Q E) :
    wpAny (model X.prog X.w) X.A (call (.ref f) us kv) (EP X pins σ Q) X.xe s := by
  have run := F.go X.A X.stack s H ⟨us, kv⟩ all vs Q E r I.env0 hb rv h
  refine wpAny_call (codeAny_mono run ?_)
  intro res s' hq
  match res, hq with
  | .error er, hq => exact hx pins σ H s er s' I hq
  | .ok (.ret u), hq => exact I.after hq
  | .ok .next, hq => exact hq.elim
  | .ok .brk, hq => exact hq.elim
  | .ok .cont, hq => exact hq.elim
/-- f(e, ..) -/
theorem g_call (Cf : Cal X.prog X.w X.K X.mg X.base k x ps sp) (r : Rm k X.A) (hg : Gl X x) (hx : Passes (L2.CX X.prog X.w) X E) (ha : PA X (e :: es) t) (hdb : (x == ("__debug__" : Str)) = false := by decide)
    (he : starEach (e :: es) X.env = (false, eval e X.env) :: starEach es X.env := by rfl) (hpl : (backTo pos (starEach es X.env)).any (·.1) = false := by rfl) :
    PE X (.Call (.Name x p) (e :: es) [] pos) (tCall sp [] E t) := by
  obtain ⟨f, fd, F, hm, hk, hb⟩ := Cf
  constructor
  intro pins s σ H Q I h
  apply wpAny_Call_Name_kw
  refine ld_glob I hg hm ?_ hdb
  refine PySem.W.callWith_K (h₀ := X.base) I.ok.mod.kin hk ?_ he hpl
  refine thn (ha.run pos pins s σ H _ I h) ?_
  rintro us s1 ⟨vs, H1, I1, rv, q⟩
  refine ⟨I1.kIn, ?_⟩
  rw [List.append_nil] at q
  have hl : us.length = ps.length := by rw [← rv.length]; exact F.arity _ _ _ _ q
  have hb' := hb s1 us I1.kIn (by rw [List.append_nil]; exact hl)
  rw [List.append_nil] at hb'
  exact fn_go F r hb' hx I1 rv q
/-- f() -/
theorem g_call0 (Cf : Cal X.prog X.w X.K X.mg X.base k x [] sp) (r : Rm k X.A) (hg : Gl X x) (hx : Passes (L2.CX X.prog X.w) X E) (hdb : (x == ("__debug__" : Str)) = false := by decide) :
    PE X (.Call (.Name x p) [] [] pos) (tCall sp [] E tNil) := by
  obtain ⟨f, fd, F, hm, hk, hb⟩ := Cf
  constructor
  intro pins s σ H Q I h
  apply wpAny_Call_Name_kw
  refine ld_glob I hg hm ?_ hdb
  have hb' := hb s [] I.kIn rfl
  exact PySem.W.callWith_K0 I.kIn hk (fn_go (us := []) (all := []) F r hb' hx I .nil h)
end

section
variable {P : Program} {w : World} {K : PySem.W.Frag} {mg : Str → Option Value} {base : Heap}
/-- a body, run once its frame is laid -/
theorem body_go {cdv : Value} {A : Around} {outer : List Env} {N : List Str} {qual : Str} {scope : Scope} {f : Addr} {sts : List Stmt} {s s1 : Shared} {H : Hp} {vs : List V} {Q : VK} {E : XK} {t : TS}
    (I : Inv (cxOf (L2.CX P w) P w K mg base N qual scope f cdv A outer s H E) [] (start N vs) H s1) (ht : PSs (cxOf (L2.CX P w) P w K mg base N qual scope f cdv A outer s H E) sts t)
    (hq : t { nx := fun _ H' => Q .non H', rt := Q } (start N vs) H) :
    wpAny (model P w) (A.deeper (envOfC qual scope s.heap.objs.size f cdv)) (execs sts (envOfC qual scope s.heap.objs.size f cdv))
      (fun fl s' => match fl with
        | .ret u => CE outer P w H s Q u s'
        | .next => CE outer P w H s Q .none s'
        | _ => False)
      (cxOf (L2.CX P w) P w K mg base N qual scope f cdv A outer s H E).xe s1 := by
  refine thn (ht.run [] s1 _ H _ I hq) ?_
  intro fl s' z
  have close : ∀ (σ' : L2.St) (H' : Hp) (v : V) (u : Value), Inv (cxOf (L2.CX P w) P w K mg base N qual scope f cdv A outer s H E) [] σ' H' s' → RelV v u → Q v H' → CE outer P w H s Q u s' := by
    intro σ' H' v u J rv q
    exact ⟨v, H', J.os, J.bare, J.base, J.hok, rv, q⟩
  match fl, z with
  | .ret u, ⟨v, σ', H', J, rv, q⟩ => exact close σ' H' v u J rv q
  | .next, ⟨σ', H', J, q⟩ => exact close σ' H' .non .none J rfl q
  | .brk, ⟨_, _, _, q⟩ => exact q
  | .cont, ⟨_, _, _, q⟩ => exact q
/-- THE RULE for a def of the text -/
theorem fnG_of {x qual : Str} {st : Stmt} {f : Addr} {fd : FuncData} {N ps : List Str} {k : Nat} {sp : Sp} (F : Fun K x qual st f fd) (S : FnScope N ps (defScope st)) (len : ∀ vs H Q E, sp vs H Q E → vs.length = ps.length)
    (body : ∀ (cdv : Value) (A : Around) (outer : List Env) (s : Shared) (H : Hp) (vs : List V) (Q : VK) (E : XK), Rm k (A.deeper (envOfC qual (defScope st) s.heap.objs.size f cdv)) → sp vs H Q E →
      ∃ t, PSs (cxOf (L2.CX P w) P w K mg base N qual (defScope st) f cdv A outer s H E) (defBody st) t ∧ t { nx := fun _ H' => Q .non H', rt := Q } (start N vs) H) :
    FnG P w K mg base (k + 1) f fd ps sp := by
  obtain ⟨oc, od, kV, doc, pm, an, cdv, ct, osl, rfl, lk, hcd⟩ := F.ex
  refine ⟨len, ?_⟩
  intro A outer s H args us vs Q E r e0 hb rv hsp
  have lv := len _ _ _ _ hsp
  have inK : K.In s.heap := e0.mod.kin.keeps (fun b o z => (e0.bs b o z).1)
  have nol : s.heap.NoLimit := e0.mod.nolimit.keeps (fun b o z => (e0.bs b o z).1)
  have kinds : ∀ y ∈ ps.zip us, (defScope st).names.lookup y.1 = some .local ∨
      ((defScope st).names.lookup y.1 = some .cell ∧ ((cellsFrom (s.heap.objs.size + 1) (defScope st).names []).lookup y.1).isSome = true) := by
    rintro ⟨n, v⟩ hy
    rcases S.par n (List.of_mem_zip hy).1 with q | q
    · exact Or.inl q
    · exact Or.inr ⟨q, PySem.W.cellsFrom_some _ _ _ (Or.inl q)⟩
  refine codeAny_call_function r.room.depth (inK _ _ lk) rfl S.co S.gen rfl (PySem.W.codeRec_of inK hcd) (hb _ _ _ _ ?_)
  refine wpAny_newFunctionEnv_cells S.kind kinds ?_
  intro env he s1 x
  subst he
  refine ⟨nol.keeps x.toInCall.keep, codeAny_func ?_⟩
  obtain ⟨t, ht, hq⟩ := body cdv A outer s H vs Q E (r.in_def _) hsp
  have I := inv_start (CX := L2.CX P w) (E := E) S r.room.hd e0 lv rv x
  refine wpAny_mono (body_go I ht hq) ?_ (fun _ _ z => z)
  intro fl s' z
  match fl, z with
  | .ret u, z => exact z
  | .next, z => exact z
  | .brk, z => exact z.elim
  | .cont, z => exact z.elim
end
end G
set_option maxHeartbeats 4000000
/-! Part R: plain data at any depth (with dicts of int and text keys), and repr of it. -/
namespace G
open PySem PySem.Spec PyProof.Rows L2
mutual
/-- v stands for the data d -/
inductive Dt (K : PySem.W.Frag) (H : Hp) : V → PyData → Prop
  | non : Dt K H .non .none
  | bl (b : Bool) : Dt K H (.bl b) (.bool b)
  | int (i : Int) : Dt K H (.int i) (.int i)
  | str (x : Str) : Dt K H (.str x) (.str x)
  | lst {a : Addr} {xs : List V} {ds : List PyData} : SqL K H a xs → DtL K H xs ds → Dt K H (.ref a) (.list ds)
  | tup {a : Addr} {xs : List V} {ds : List PyData} : SqT K H a xs → DtL K H xs ds → Dt K H (.ref a) (.tuple ds)
  | dic {a : Addr} {kvs : List (Key × V)} {ps : List (PyData × PyData)} : H a = some (.dK kvs) → DtL K H (kvs.map fun p => kV p.1) (ps.map (·.1)) → DtL K H (kvs.map (·.2)) (ps.map (·.2)) → Dt K H (.ref a) (.dict ps)
inductive DtL (K : PySem.W.Frag) (H : Hp) : List V → List PyData → Prop
  | nil : DtL K H [] []
  | cons {v : V} {vs : List V} {d : PyData} {ds : List PyData} : Dt K H v d → DtL K H vs ds → DtL K H (v :: vs) (d :: ds)
end
theorem DtL.length {K : PySem.W.Frag} {H : Hp} : ∀ {vs : List V} {ds : List PyData}, DtL K H vs ds → vs.length = ds.length
  | _, _, .nil => rfl
  | _, _, .cons _ t => by rw [List.length_cons, List.length_cons, t.length]
section
variable {K : PySem.W.Frag} {H H' : Hp}
mutual
theorem Dt.mono (m : Same H H') : ∀ {v : V} {d : PyData}, Dt K H v d → Dt K H' v d
  | _, _, .non => .non
  | _, _, .bl b => .bl b
  | _, _, .int i => .int i
  | _, _, .str x => .str x
  | _, _, .lst h t => .lst (m.seq h) (t.mono m)
  | _, _, .tup h t => .tup (by
      rcases h with (h | ⟨o, h⟩) | h
      · exact .inl (.inl (m _ _ h))
      · exact .inl (.inr ⟨o, m _ _ h⟩)
      · exact .inr h) (t.mono m)
  | _, _, .dic h t u => .dic (m _ _ h) (t.mono m) (u.mono m)
theorem DtL.mono (m : Same H H') : ∀ {vs : List V} {ds : List PyData}, DtL K H vs ds → DtL K H' vs ds
  | _, _, .nil => .nil
  | _, _, .cons h t => .cons (h.mono m) (t.mono m)
end
end
/-! ### what stands in the heap -/
section
variable {X : Cx} {pins : List (Addr × Obj)} {σ : L2.St} {H : Hp} {s : Shared}
theorem pairs_keys {P : Program} {w : World} : ∀ {es : List DictEntry} {vs : List (Key × Value)} {kvs : List (Key × V)}, PySem.Pairs (mixKind P w) es vs → KV kvs vs →
    Vals (kvs.map fun p => kV p.1) (es.map (·.key)) ∧ Vals (kvs.map (·.2)) (es.map (·.val))
  | _, _, _, .nil, .nil => ⟨.nil, .nil⟩
  | _, _, _, .cons (e := e) (kv := kv) hk hv t, .cons (a := p) r u => by
    obtain ⟨a, b⟩ := pairs_keys t u
    obtain ⟨e1, e2⟩ := r
    refine ⟨.cons ?_ a, .cons ?_ b⟩
    · show L2.RelV (kV p.1) e.key
      rw [e1]
      exact relV_key hk
    · show L2.RelV p.2 e.val
      rw [hv]
      exact e2
/-- a dict's object -/
theorem dict_obj {a : Addr} {kvs : List (Key × V)} (I : Inv X pins σ H s) (h : H a = some (.dK kvs)) : (a == sysModules) = false ∧ ∃ (o : Obj) (es : Array DictEntry) (n : Nat), s.heap.get? a = some o ∧ o.cls = .type "dict" ∧ o.data = .dict es n ∧
    Vals (kvs.map fun p => kV p.1) (es.toList.map (·.key)) ∧ Vals (kvs.map (·.2)) (es.toList.map (·.val)) := by
  obtain ⟨_, low, vs, rv, o, es, ep, e1, e2, e3, _, e5, _⟩ := (show ObjOk X.prog X.w H s.heap a (.dK kvs) from I.hok a _ h)
  obtain ⟨a, b⟩ := pairs_keys e5 rv
  exact ⟨low, o, es, ep, e1, e2.1, e3, a, b⟩
/-- what is to be known of a value for it to be shown -/
def Sh (X : Cx) (h : Heap) (u : Value) (d : PyData) : Prop := ∃ bs, ReadAtMost h d.depth bs ∧ ReprK X.prog X.w bs h d.depth u d.shown
def ShL (X : Cx) (h : Heap) (us : List Value) (ds : List PyData) : Prop := ∃ bs, ReadAtMost h (PyData.depthAll ds) bs ∧ ReprAllK X.prog X.w bs h (PyData.depthAll ds) us (PyData.shownAll ds)
theorem sh_list {h : Heap} {a : Addr} {o : Obj} {its : List Value} {n : Nat} {ds : List PyData} {as : List Addr} (e1 : h.get? a = some o) (e2 : o.cls = .type "list") (e3 : o.data = .seq its.toArray n) (hr : ReadsAll h its ds as)
    (hs : ShL X h its ds) : Sh X h (.ref a) (.list ds) := by
  obtain ⟨bs, hb, hk⟩ := hs
  have r : Reads h (.ref a) (.list ds) _ := .list e1 e2 e3 hr
  have na : a ∉ bs := not_mem_of_deeper r (by simp only [PyData.depth]; omega) hb
  refine ⟨a :: bs, ReadAtMost.cons r (by simp only [PyData.depth]; omega) hb, ?_⟩
  simp only [PyData.depth, PyData.shown]
  cases its with
  | nil =>
    cases hr
    simp only [PyData.shownAll, listText_nil]
    exact ReprK.listEmpty e1 e2 e3
  | cons x l =>
    refine ReprK.list e1 e2 e3 na ?_ ?_
    · have z := hk.length_eq
      simpa using z
    · intro i y q
      exact hk.item i y (by simpa using q)
theorem sh_tup {h : Heap} {a : Addr} {o : Obj} {its : List Value} {n : Nat} {ds : List PyData} {as : List Addr} (e1 : h.get? a = some o) (e2 : o.cls = .type "tuple") (e3 : o.data = .seq its.toArray n) (hr : ReadsAll h its ds as)
    (hs : ShL X h its ds) : Sh X h (.ref a) (.tuple ds) := by
  obtain ⟨bs, hb, hk⟩ := hs
  have r : Reads h (.ref a) (.tuple ds) _ := .tuple e1 e2 e3 hr
  have na : a ∉ bs := not_mem_of_deeper r (by simp only [PyData.depth]; omega) hb
  refine ⟨a :: bs, ReadAtMost.cons r (by simp only [PyData.depth]; omega) hb, ?_⟩
  simp only [PyData.depth, PyData.shown]
  exact ReprK.tuple e1 e2 e3 na hk
theorem sh_dict {h : Heap} {a : Addr} {o : Obj} {es : Array DictEntry} {n : Nat} {ps : List (PyData × PyData)} {as bs : List Addr} (low : (a == sysModules) = false) (e1 : h.get? a = some o) (e2 : o.cls = .type "dict") (e3 : o.data = .dict es n)
    (h1 : ReadsAll h (es.toList.map (·.key)) (ps.map (·.1)) as) (h2 : ReadsAll h (es.toList.map (·.val)) (ps.map (·.2)) bs)
    (s1 : ShL X h (es.toList.map (·.key)) (ps.map (·.1))) (s2 : ShL X h (es.toList.map (·.val)) (ps.map (·.2))) : Sh X h (.ref a) (.dict ps) := by
  obtain ⟨b1, hb1, k1⟩ := s1
  obtain ⟨b2, hb2, k2⟩ := s2
  have r : Reads h (.ref a) (.dict ps) _ := .dict e1 e2 e3 h1 h2
  have hb : ReadAtMost h (PyData.depthKv ps) (b1 ++ b2) := (hb1.mono (PyData.depthAll_keys_le ps)).append (hb2.mono (PyData.depthAll_vals_le ps))
  have na : a ∉ b1 ++ b2 := not_mem_of_deeper r (by simp only [PyData.depth]; omega) hb
  refine ⟨a :: (b1 ++ b2), ReadAtMost.cons r (by simp only [PyData.depth]; omega) hb, ?_⟩
  simp only [PyData.depth, PyData.shown, PyData.shownKv_eq]
  refine ReprK.dict e1 e2 e3 low na (ReprEntriesK.of_two es.toList _ _ ?_ ?_)
  · exact k1.more_le (fun b z => List.mem_append_left _ z) (PyData.depthAll_keys_le ps)
  · exact k2.more_le (fun b z => List.mem_append_right _ z) (PyData.depthAll_vals_le ps)
mutual
/-- data whose ints are short enough to be shown, and whose texts are short enough -/
def fits : PyData → Bool
  | .none => true
  | .bool _ => true
  | .int i => decide (i.natAbs.log2 < 1920)
  | .str x => decide ((reprText x).length ≤ sizeLine)
  | .list ds => fitsL ds
  | .tuple ds => fitsL ds
  | .dict ps => fitsP ps
def fitsL : List PyData → Bool
  | [] => true
  | d :: ds => fits d && fitsL ds
def fitsP : List (PyData × PyData) → Bool
  | [] => true
  | (a, b) :: ps => (fits a && fits b) && fitsP ps
end
theorem fitsP_eq : ∀ ps : List (PyData × PyData), fitsP ps = true → fitsL (ps.map (·.1)) = true ∧ fitsL (ps.map (·.2)) = true
  | [], _ => ⟨by simp [fitsL], by simp [fitsL]⟩
  | (a, b) :: ps, h => by
    simp only [fitsP, Bool.and_eq_true] at h
    obtain ⟨⟨h1, h2⟩, h3⟩ := h
    obtain ⟨i1, i2⟩ := fitsP_eq ps h3
    simp only [List.map_cons, fitsL, Bool.and_eq_true]
    exact ⟨⟨h1, i1⟩, h2, i2⟩
mutual
theorem Dt.look (I : Inv X pins σ H s) : ∀ {v : V} {d : PyData}, Dt X.K H v d → ∀ {u : Value}, RelV v u → (∃ as, Reads s.heap u d as) ∧ (fits d = true → Sh X s.heap u d)
  | _, _, .non, u, r => by
    cases r
    exact ⟨⟨_, .none⟩, fun _ => ⟨[], (fun _ z => nomatch z), by simp only [PyData.shown]; exact .of_is ReprIs.none _ _ _⟩⟩
  | _, _, .bl b, u, r => by
    cases r
    exact ⟨⟨_, .bool b⟩, fun _ => ⟨[], (fun _ z => nomatch z), by simp only [PyData.shown]; exact .of_is (ReprIs.bool b) _ _ _⟩⟩
  | _, _, .int i, u, r => by
    obtain ⟨t, rfl⟩ := r
    refine ⟨⟨_, .int i t⟩, fun z => ⟨[], (fun _ z => nomatch z), ?_⟩⟩
    simp only [PyData.shown]
    exact .of_is (ReprIs.int t (by simpa [fits] using z)) _ _ _
  | _, _, .str x, u, r => by
    obtain ⟨t, rfl⟩ := r
    refine ⟨⟨_, .str x t⟩, fun z => ⟨[], (fun _ z => nomatch z), ?_⟩⟩
    simp only [PyData.shown]
    exact .of_is (ReprIs.str x t (by simpa [fits] using z)) _ _ _
  | _, _, .lst (ds := ds) hq hs, u, r => by
    cases r
    obtain ⟨its, rv, ⟨o, n, e1, e2, _, e3⟩, _⟩ := I.list hq
    obtain ⟨⟨as, hr⟩, sh⟩ := DtL.look I hs rv
    exact ⟨⟨_, .list e1 e2 e3 hr⟩, fun z => sh_list e1 e2 e3 hr (sh (by simpa [fits] using z))⟩
  | _, _, .tup (ds := ds) hq hs, u, r => by
    cases r
    obtain ⟨its, rv, ⟨o, e1, e2, n, e3⟩, _⟩ := I.tuple hq
    obtain ⟨⟨as, hr⟩, sh⟩ := DtL.look I hs rv
    exact ⟨⟨_, .tuple e1 e2 e3 hr⟩, fun z => sh_tup e1 e2 e3 hr (sh (by simpa [fits] using z))⟩
  | _, _, .dic (ps := ps) hq hk hv, u, r => by
    cases r
    obtain ⟨low, o, es, n, e1, e2, e3, r1, r2⟩ := dict_obj I hq
    obtain ⟨⟨as, h1⟩, s1⟩ := DtL.look I hk r1
    obtain ⟨⟨bs, h2⟩, s2⟩ := DtL.look I hv r2
    refine ⟨⟨_, .dict e1 e2 e3 h1 h2⟩, fun z => ?_⟩
    obtain ⟨z1, z2⟩ := fitsP_eq ps (by simpa [fits] using z)
    exact sh_dict low e1 e2 e3 h1 h2 (s1 z1) (s2 z2)
theorem DtL.look (I : Inv X pins σ H s) : ∀ {vs : List V} {ds : List PyData}, DtL X.K H vs ds → ∀ {us : List Value}, Vals vs us → (∃ as, ReadsAll s.heap us ds as) ∧ (fitsL ds = true → ShL X s.heap us ds)
  | _, _, .nil, us, r => by
    cases r
    exact ⟨⟨_, .nil⟩, fun _ => ⟨[], (fun _ z => nomatch z), by simp only [PyData.shownAll]; exact .nil⟩⟩
  | _, _, .cons (d := d) (ds := ds) h t, us, r => by
    cases r with
    | cons r1 r2 =>
      obtain ⟨⟨as, q1⟩, z1⟩ := Dt.look I h r1
      obtain ⟨⟨bs, q2⟩, z2⟩ := DtL.look I t r2
      refine ⟨⟨_, .cons q1 q2⟩, fun z => ?_⟩
      simp only [fitsL, Bool.and_eq_true] at z
      obtain ⟨b1, hb1, k1⟩ := z1 z.1
      obtain ⟨b2, hb2, k2⟩ := z2 z.2
      refine ⟨b1 ++ b2, ?_, ?_⟩
      · intro b hm
        simp only [PyData.depthAll]
        rcases List.mem_append.mp hm with hm | hm
        · obtain ⟨d', as', r', hd'⟩ := hb1 b hm
          exact ⟨d', as', r', Nat.le_trans hd' (Nat.le_max_left _ _)⟩
        · obtain ⟨d', as', r', hd'⟩ := hb2 b hm
          exact ⟨d', as', r', Nat.le_trans hd' (Nat.le_max_right _ _)⟩
      · simp only [PyData.depthAll, PyData.shownAll]
        refine .cons ((k1.more fun b z => List.mem_append_left _ z).level_le (Nat.le_max_left _ _)) ?_
        exact k2.more_le (fun b z => List.mem_append_right _ z) (Nat.le_max_right _ _)
end
end
/-- repr(x), x data: its text -/
def rRepr (K : PySem.W.Frag) : List V → Hp → VK → Prop := fun xs H Q => ∃ v d, xs = [v] ∧ Dt K H v d ∧ fits d = true ∧ d.shown.length ≤ sizeLine ∧ d.depth ≤ 60 ∧ Q (.str d.shown) H
theorem call_repr {X : Cx} (r : Rq X.A) : CallR X (.builtin "repr") (rRepr X.K) := by
  intro pins s σ H xs us Q I rv h
  obtain ⟨v, d, rfl, hd, hf, hz, h60, q⟩ := h
  obtain ⟨u, rfl, ru⟩ := vals1 rv
  have hu := r.hu64
  cases hd with
  | non =>
    cases ru
    exact PySem.P.repr_of_none ⟨.str _, H, I.tok _, ⟨_, rfl⟩, by simpa [PyData.shown] using q⟩
  | bl b =>
    cases ru
    exact PySem.P.repr_of_bool ⟨.str _, H, I.tok _, ⟨_, rfl⟩, by simpa [PyData.shown] using q⟩
  | int i =>
    obtain ⟨t, rfl⟩ := ru
    exact PySem.P.repr_of_int (by simpa [fits] using hf) ⟨.str _, H, I.tok _, ⟨_, rfl⟩, by simpa [PyData.shown] using q⟩
  | str x =>
    obtain ⟨t, rfl⟩ := ru
    exact PySem.P.repr_of_str ⟨.str _, H, I.tok _, ⟨_, rfl⟩, by simpa [PyData.shown] using q⟩ (by simpa [fits] using hf)
  | lst hq hs =>
    rename_i a xs ds
    cases ru
    obtain ⟨its, rv, ⟨o, n, e1, e2, _, e3⟩, _⟩ := I.list hq
    obtain ⟨⟨as, hr⟩, sl⟩ := DtL.look I hs rv
    obtain ⟨bs, hb, hk⟩ := sl (by simpa [fits] using hf)
    have na : a ∉ bs := not_mem_of_deeper (.list e1 e2 e3 hr) (by simp only [PyData.depth]; omega) hb
    simp only [PyData.depth] at h60
    simp only [PyData.shown] at q hz
    refine call_repr_slot (by omega) ⟨o, e1, e2⟩ F.slot_list_repr.toG ?_
    cases its with
    | nil =>
      cases hr
      simp only [PyData.shownAll, listText_nil] at q
      exact call_list_repr_empty ⟨o, e1, e2⟩ e1 e3 ⟨_, _, rfl, .str _, H, I.kept fun _ _ z => z, ⟨_, rfl⟩, q⟩
    | cons x l =>
      refine call_list_reprK e1 e2 e3 na (by have z := hk.length_eq; simpa using z) (fun i y z => hk.item i y (by simpa using z)) r.gd (fun b _ => Clear.nil b) ?_ (fun _ _ z => z) ?_ hz
      · show X.A.units + 1 + _ < cLine
        omega
      · intro h' u tk kp
        exact ⟨_, _, rfl, .str _, H, I.kept kp, ⟨_, rfl⟩, q⟩
  | tup hq hs =>
    rename_i a xs ds
    cases ru
    obtain ⟨its, rv, ⟨o, e1, e2, n, e3⟩, _⟩ := I.tuple hq
    obtain ⟨⟨as, hr⟩, sl⟩ := DtL.look I hs rv
    obtain ⟨bs, hb, hk⟩ := sl (by simpa [fits] using hf)
    have na : a ∉ bs := not_mem_of_deeper (.tuple e1 e2 e3 hr) (by simp only [PyData.depth]; omega) hb
    simp only [PyData.depth] at h60
    simp only [PyData.shown] at q hz
    refine call_repr_slot (by omega) ⟨o, e1, e2⟩ F.slot_tuple_repr ?_
    refine call_tuple_reprK e1 e2 e3 na hk r.gd (fun b _ => Clear.nil b) ?_ (fun _ _ z => z) ?_ hz
    · show X.A.units + 1 + _ < cLine
      omega
    · intro h' u tk kp
      exact ⟨_, _, rfl, .str _, H, I.kept kp, ⟨_, rfl⟩, q⟩
  | dic hq h1 h2 =>
    rename_i a kvs ps
    cases ru
    obtain ⟨low, o, es, n, e1, e2, e3, r1, r2⟩ := dict_obj I hq
    obtain ⟨⟨as, q1⟩, s1⟩ := DtL.look I h1 r1
    obtain ⟨⟨bs, q2⟩, s2⟩ := DtL.look I h2 r2
    obtain ⟨z1, z2⟩ := fitsP_eq ps (by simpa [fits] using hf)
    obtain ⟨b1, hb1, k1⟩ := s1 z1
    obtain ⟨b2, hb2, k2⟩ := s2 z2
    have hb : ReadAtMost s.heap (PyData.depthKv ps) (b1 ++ b2) := (hb1.mono (PyData.depthAll_keys_le ps)).append (hb2.mono (PyData.depthAll_vals_le ps))
    have na : a ∉ b1 ++ b2 := not_mem_of_deeper (.dict e1 e2 e3 q1 q2) (by simp only [PyData.depth]; omega) hb
    simp only [PyData.depth] at h60
    simp only [PyData.shown, PyData.shownKv_eq] at q hz
    refine call_repr_slot (by omega) ⟨o, e1, e2⟩ F.slot_dict_repr ?_
    refine call_dict_reprK e1 e2 e3 low na (ReprEntriesK.of_two es.toList _ _ (k1.more_le (fun b z => List.mem_append_left _ z) (PyData.depthAll_keys_le ps)) (k2.more_le (fun b z => List.mem_append_right _ z) (PyData.depthAll_vals_le ps)))
      r.gd (fun b _ => Clear.nil b) ?_ (fun _ _ z => z) ?_ hz
    · show X.A.units + 1 + _ < cLine
      omega
    · intro h' u tk kp
      exact ⟨_, _, rfl, .str _, H, I.kept kp, ⟨_, rfl⟩, q⟩
end G
set_option maxHeartbeats 4000000
/-! Part B: operators for several kinds of values at once, and what is owned of the heap. -/
namespace G
open PySem PySem.Spec PyProof.Rows L2
/-! ### the heap in two parts: G, which stays, and L, which is ours to change -/
structure Own (G H : Hp) (L : List (Addr × HO)) : Prop where
  sub : Same G H
  has : ∀ p ∈ L, H p.1 = some p.2 ∧ G p.1 = none
  nd : (L.map (·.1)).Nodup
section
variable {G H : Hp} {L R : List (Addr × HO)} {p q r t : Addr} {o o' u v z : HO}
theorem Own.at0 (O : Own G H ((p, o) :: R)) : H p = some o := (O.has (p, o) (by simp)).1
theorem Own.at1 (O : Own G H ((q, u) :: (p, o) :: R)) : H p = some o := (O.has (p, o) (by simp)).1
theorem Own.at2 (O : Own G H ((q, u) :: (r, v) :: (p, o) :: R)) : H p = some o := (O.has (p, o) (by simp)).1
theorem Own.at3 (O : Own G H ((q, u) :: (r, v) :: (t, z) :: (p, o) :: R)) : H p = some o := (O.has (p, o) (by simp)).1
theorem Own.no0 (O : Own G H ((p, o) :: R)) : G p = none := (O.has (p, o) (by simp)).2
theorem Own.no1 (O : Own G H ((q, u) :: (p, o) :: R)) : G p = none := (O.has (p, o) (by simp)).2
theorem Own.tail (O : Own G H ((p, o) :: R)) : Own G H R := ⟨O.sub, fun x hx => O.has x (List.mem_cons_of_mem _ hx), (List.nodup_cons.mp (by simpa using O.nd)).2⟩
theorem Own.perm (O : Own G H L) (h : L.Perm R) : Own G H R := ⟨O.sub, fun x hx => O.has x (h.symm.mem_iff.mp hx), (h.map _).nodup_iff.mp O.nd⟩
theorem Own.swap {a b : Addr × HO} (O : Own G H (a :: b :: R)) : Own G H (b :: a :: R) := O.perm (List.Perm.swap b a R)
/-- the third to the front -/
theorem Own.rot3 {a b c : Addr × HO} (O : Own G H (a :: b :: c :: R)) : Own G H (c :: a :: b :: R) :=
  O.perm ((List.Perm.cons a (List.Perm.swap c b R)).trans (List.Perm.swap c a (b :: R)))
theorem Own.upd0 (O : Own G H ((p, o) :: R)) : Own G (upd H p o') ((p, o') :: R) := by
  have np := O.no0
  have nd := List.nodup_cons.mp (show (p :: R.map (·.1)).Nodup by simpa using O.nd)
  refine ⟨fun a w e => ?_, fun x hx => ?_, by simpa using O.nd⟩
  · rw [upd_ne (fun z => by rw [z, np] at e; cases e)]
    exact O.sub a w e
  · rcases List.mem_cons.mp hx with rfl | hx
    · exact ⟨upd_same, np⟩
    · have h := O.has x (List.mem_cons_of_mem _ hx)
      have ne : x.1 ≠ p := fun z => nd.1 (by rw [← z]; exact List.mem_map_of_mem hx)
      exact ⟨by rw [upd_ne ne]; exact h.1, h.2⟩
theorem Own.upd1 {a : Addr × HO} (O : Own G H (a :: (p, o) :: R)) : Own G (upd H p o') (a :: (p, o') :: R) := (O.swap.upd0 (o' := o')).swap
theorem Own.upd2 {a b : Addr × HO} (O : Own G H (a :: b :: (p, o) :: R)) : Own G (upd H p o') (a :: b :: (p, o') :: R) := by
  have z := O.rot3.upd0 (o' := o')
  exact z.perm (((List.Perm.cons a (List.Perm.swap (p, o') b R)).trans (List.Perm.swap (p, o') a (b :: R))).symm)
theorem Own.free (O : Own G H L) (h : H p = none) : G p = none := O.sub.free h
theorem Own.notin (O : Own G H L) (h : H p = none) : p ∉ L.map (·.1) := fun m => by
  obtain ⟨x, hx, e⟩ := List.mem_map.mp m
  have z := (O.has x hx).1
  rw [e, h] at z
  cases z
/-- a new object, ours -/
theorem Own.new (O : Own G H L) (h : H p = none) : Own G (upd H p o) ((p, o) :: L) := by
  refine ⟨fun a w e => ?_, fun x hx => ?_, ?_⟩
  · rw [upd_ne (ne_of_none (O.sub a w e) h)]
    exact O.sub a w e
  · rcases List.mem_cons.mp hx with rfl | hx
    · exact ⟨upd_same, O.free h⟩
    · have z := O.has x hx
      exact ⟨by rw [upd_ne (ne_of_none z.1 h)]; exact z.1, z.2⟩
  · rw [List.map_cons]
    exact List.nodup_cons.mpr ⟨O.notin h, O.nd⟩
theorem Own.new1 {a : Addr × HO} (O : Own G H (a :: R)) (h : H p = none) : Own G (upd H p o) (a :: (p, o) :: R) := (O.new h).swap
/-- a new object that stays -/
theorem Own.fix (O : Own G H L) (h : H p = none) : Own (upd G p o) (upd H p o) L := by
  refine ⟨fun a w e => ?_, fun x hx => ?_, O.nd⟩
  · by_cases ha : a = p
    · subst ha
      rw [upd_same] at e ⊢
      exact e
    · rw [upd_ne ha] at e ⊢
      exact O.sub a w e
  · have z := O.has x hx
    have ne := ne_of_none z.1 h
    exact ⟨by rw [upd_ne ne]; exact z.1, by rw [upd_ne ne]; exact z.2⟩
theorem Same.new {G : Hp} {p : Addr} {o : HO} (h : G p = none) : Same G (upd G p o) := fun a w e => by
  rw [upd_ne (ne_of_none e h)]
  exact e
/-- what was ours stays from now on -/
theorem Own.frz0 (O : Own G H ((p, o) :: R)) : Own (upd G p o) H R := by
  have nd := List.nodup_cons.mp (show (p :: R.map (·.1)).Nodup by simpa using O.nd)
  refine ⟨fun a w e => ?_, fun x hx => ?_, nd.2⟩
  · by_cases ha : a = p
    · subst ha
      rw [upd_same] at e
      rw [← e]
      exact O.at0
    · rw [upd_ne ha] at e
      exact O.sub a w e
  · have z := O.has x (List.mem_cons_of_mem _ hx)
    have ne : x.1 ≠ p := fun e => nd.1 (by rw [← e]; exact List.mem_map_of_mem hx)
    exact ⟨z.1, by rw [upd_ne ne]; exact z.2⟩
theorem Own.frz1 {a : Addr × HO} (O : Own G H (a :: (p, o) :: R)) : Own (upd G p o) H (a :: R) := O.swap.frz0
theorem Own.seq {K : PySem.W.Frag} {a : Addr} {xs : List V} (O : Own G H L) (h : SqL K G a xs) : SqL K H a xs := O.sub.seq h
theorem same_t {K : PySem.W.Frag} {a : Addr} {xs : List V} (m : Same G H) (h : SqT K G a xs) : SqT K H a xs := by
  rcases h with (h | ⟨o, h⟩) | h
  · exact .inl (.inl (m _ _ h))
  · exact .inl (.inr ⟨o, m _ _ h⟩)
  · exact .inr h
theorem Own.set {K : PySem.W.Frag} {a : Addr} {xs : List V} (O : Own G H L) (h : SqT K G a xs) : SqT K H a xs := same_t O.sub h
theorem Own.dt {K : PySem.W.Frag} {v : V} {d : PyData} (O : Own G H L) (h : Dt K G v d) : Dt K H v d := h.mono O.sub
end
/-! ### new and changed objects, said so that what follows stays apart -/
def nw (o : HO) (H : Hp) (Q : VK) : Prop := ∀ p, H p = none → Q (.ref p) (upd H p o)
def md (p : Addr) (o : HO) (H : Hp) (S : Hp → Prop) : Prop := S (upd H p o)
section
variable {G H : Hp} {L R : List (Addr × HO)} {p : Addr} {o o' : HO} {Q : VK} {S : Hp → Prop}
/-- a new object, ours, the first -/
theorem x_new (O : Own G H L) (k : ∀ p H', Own G H' ((p, o) :: L) → Q (.ref p) H') : nw o H Q := fun p hp => k p _ (O.new hp)
/-- .. the second -/
theorem x_new1 {a : Addr × HO} (O : Own G H (a :: R)) (k : ∀ p H', Own G H' (a :: (p, o) :: R) → Q (.ref p) H') : nw o H Q := fun p hp => k p _ (O.new1 hp)
/-- a new object that stays -/
theorem x_fix (O : Own G H L) (k : ∀ p G' H', Same G G' → Own G' H' L → G' p = some o → Q (.ref p) H') : nw o H Q := fun p hp => k p _ _ (Same.new (O.free hp)) (O.fix hp) upd_same
theorem x_md0 (O : Own G H ((p, o) :: R)) (k : ∀ H', Own G H' ((p, o') :: R) → S H') : md p o' H S := k _ O.upd0
theorem x_md1 {a : Addr × HO} (O : Own G H (a :: (p, o) :: R)) (k : ∀ H', Own G H' (a :: (p, o') :: R) → S H') : md p o' H S := k _ O.upd1
theorem x_md2 {a b : Addr × HO} (O : Own G H (a :: b :: (p, o) :: R)) (k : ∀ H', Own G H' (a :: b :: (p, o') :: R) → S H') : md p o' H S := k _ O.upd2
end
/-! ### operators by the kind of what they meet -/
section
variable {X : Cx} {k : Nat}
def aAdd (K : PySem.W.Frag) : R2 := fun x y H Q => rI0 (fun i j => .int (i + j)) x y H Q ∨ (∃ i j, x = .str i ∧ y = .str j ∧ i.length + j.length ≤ sizeLine ∧ Q (.str (i ++ j)) H) ∨
  rCat x y H Q ∨ rCatA K x y H Q
theorem oAdd : OpR X (binaryOp .Add) (aAdd X.K) := op_add.or (op_add_str.or (op_cat.or op_catA))
def aMul : R2 := fun x y H Q => rI CMul (fun i j => .int (i * j)) x y H Q ∨ rRep x y H Q
theorem oMul : OpR X (binaryOp .Mult) aMul := op_mul.or op_rep
def aEqT (K : PySem.W.Frag) : R2 := fun x y H Q => ∃ d e, Dt K H x d ∧ Dt K H y e ∧ SeqAt.shaped d = true ∧ SeqAt.shaped e = true ∧ Q (.bl (PyData.eqv d e)) H
def aNeT (K : PySem.W.Frag) : R2 := fun x y H Q => ∃ d e, Dt K H x d ∧ Dt K H y e ∧ SeqAt.shaped d = true ∧ SeqAt.shaped e = true ∧ Q (.bl (!PyData.eqv d e)) H
theorem oEqT (r : Rq X.A) : OpR X (compareOp .Eq) (aEqT X.K) := by
  intro pins s σ H x y v u Q I rx ry h
  obtain ⟨d, e, hd, he, sd, se, q⟩ := h
  obtain ⟨⟨as, r1⟩, _⟩ := hd.look I rx
  obtain ⟨⟨bs, r2⟩, _⟩ := he.look I ry
  exact SeqAt.compareEq_shaped r1 r2 sd se r.hu64 ⟨.bl _, H, I, rfl, q⟩
theorem oNeT (r : Rq X.A) : OpR X (compareOp .NotEq) (aNeT X.K) := by
  intro pins s σ H x y v u Q I rx ry h
  obtain ⟨d, e, hd, he, sd, se, q⟩ := h
  obtain ⟨⟨as, r1⟩, _⟩ := hd.look I rx
  obtain ⟨⟨bs, r2⟩, _⟩ := he.look I ry
  exact SeqAt.compareNe_shaped r1 r2 sd se r.hu64 ⟨.bl _, H, I, rfl, q⟩
/-- a list and the empty list -/
def aEqN (K : PySem.W.Frag) : R2 := fun x y H Q => ∃ p q xs, x = .ref p ∧ y = .ref q ∧ SqL K H p xs ∧ SqL K H q [] ∧ Q (.bl xs.isEmpty) H
def aNeN (K : PySem.W.Frag) : R2 := fun x y H Q => ∃ p q xs, x = .ref p ∧ y = .ref q ∧ SqL K H p xs ∧ SqL K H q [] ∧ Q (.bl (!xs.isEmpty)) H
theorem oEqN (r : Rq X.A) : OpR X (compareOp .Eq) (aEqN X.K) := by
  intro pins s σ H x y v u Q I rx ry h
  obtain ⟨p, q, xs, rfl, rfl, hp, hq, z⟩ := h
  cases rx
  cases ry
  obtain ⟨its, r1, p1, _⟩ := I.list hp
  obtain ⟨jts, r2, p2, _⟩ := I.list hq
  obtain rfl : jts = [] := by cases r2; rfl
  have l1 := r1.length
  cases xs with
  | nil =>
    obtain rfl : its = [] := by cases r1; rfl
    exact SeqAt.eq_listAt (e := fun _ => true) p1.isList p2.isList rfl (Nat.lt_of_succ_lt r.hu) (fun j h1 _ => absurd h1 (Nat.not_lt_zero _)) ⟨.bl _, H, I, rfl, z⟩
  | cons a xs =>
    cases its with
    | nil => cases l1
    | cons b its => exact SeqAt.eq_list_lengthsAt p1.isList p2.isList (by simp) (Nat.lt_of_succ_lt r.hu) ⟨.bl _, H, I, rfl, z⟩
theorem oNeN (r : Rq X.A) : OpR X (compareOp .NotEq) (aNeN X.K) := by
  intro pins s σ H x y v u Q I rx ry h
  obtain ⟨p, q, xs, rfl, rfl, hp, hq, z⟩ := h
  cases rx
  cases ry
  obtain ⟨its, r1, p1, _⟩ := I.list hp
  obtain ⟨jts, r2, p2, _⟩ := I.list hq
  obtain rfl : jts = [] := by cases r2; rfl
  have l1 := r1.length
  cases xs with
  | nil =>
    obtain rfl : its = [] := by cases r1; rfl
    exact SeqAt.RcNeAt.lists (e := fun _ => true) p1.isList p2.isList rfl (Nat.lt_of_succ_lt r.hu) (fun j h1 _ => absurd h1 (Nat.not_lt_zero _)) _ _ _ _ ⟨.bl _, H, I, rfl, z⟩
  | cons a xs =>
    cases its with
    | nil => cases l1
    | cons b its => exact SeqAt.RcNeAt.lists_lengths p1.isList p2.isList (by simp) (Nat.lt_of_succ_lt r.hu) _ _ _ _ ⟨.bl _, H, I, rfl, z⟩
def aEq (K : PySem.W.Frag) : R2 := fun x y H Q => rEq x y H Q ∨ aEqT K x y H Q ∨ aEqN K x y H Q
def aNe (K : PySem.W.Frag) : R2 := fun x y H Q => rNe x y H Q ∨ aNeT K x y H Q ∨ aNeN K x y H Q
theorem oEq (r : Rq X.A) : OpR X (compareOp .Eq) (aEq X.K) := op_eq.or ((oEqT r).or (oEqN r))
theorem oNe (r : Rq X.A) : OpR X (compareOp .NotEq) (aNe X.K) := op_ne.or ((oNeT r).or (oNeN r))
def aLt : R2 := fun x y H Q => rI0 (fun i j => .bl (decide (i < j))) x y H Q ∨ ∃ i j, x = .str i ∧ y = .str j ∧ Q (.bl (decide (i.cps.toList < j.cps.toList))) H
def aLe : R2 := fun x y H Q => rI0 (fun i j => .bl (decide (i ≤ j))) x y H Q ∨ ∃ i j, x = .str i ∧ y = .str j ∧ Q (.bl (!decide (j.cps.toList < i.cps.toList))) H
def aGt : R2 := fun x y H Q => rI0 (fun i j => .bl (decide (j < i))) x y H Q ∨ ∃ i j, x = .str i ∧ y = .str j ∧ Q (.bl (decide (j.cps.toList < i.cps.toList))) H
def aGe : R2 := fun x y H Q => rI0 (fun i j => .bl (decide (j ≤ i))) x y H Q ∨ ∃ i j, x = .str i ∧ y = .str j ∧ Q (.bl (!decide (i.cps.toList < j.cps.toList))) H
theorem oLt : OpR X (compareOp .Lt) aLt := op_lt.or op_lt_str
theorem oLe : OpR X (compareOp .LtE) aLe := op_le.or op_le_str
theorem oGt : OpR X (compareOp .Gt) aGt := op_gt.or op_gt_str
theorem oGe : OpR X (compareOp .GtE) aGe := op_ge.or op_ge_str
/-- x in y: a list or tuple of flat items -/
theorem oIn : OpR X (compareOp .In) (rIn X.K false) := op_in_seq
theorem oNin : OpR X (compareOp .NotIn) (rIn X.K true) := op_notIn_seq
abbrev aSub : R2 := rI0 fun i j => .int (i - j)
abbrev aMod : R2 := rI (fun _ j => j ≠ 0) fun i j => .int (i.fmod j)
abbrev aFdv : R2 := rI CDivN fun i j => .int (i.fdiv j)
abbrev aPow : R2 := rI CPow fun i j => .int (i ^ j.toNat)
/-- x is y, of None or bools -/
def aIs : R2 := fun x y H Q => (y = .non ∧ Q (.bl (decide (x = .non))) H) ∨ rIsB x y H Q
def aIsn : R2 := fun x y H Q => (y = .non ∧ Q (.bl (!decide (x = .non))) H) ∨ rNotB x y H Q
theorem oIs : OpR X (compareOp .Is) aIs := op_isN.or op_isBl
theorem oIsn : OpR X (compareOp .IsNot) aIsn := op_notN.or op_notBl
def aSl (K : PySem.W.Frag) : V → Option Int → Option Int → Hp → VK → Prop := fun x lo hi H Q => rSlL K x lo hi H Q ∨ rSlA K x lo hi H Q ∨ rSlS x lo hi H Q
theorem oSl : SlR X (aSl X.K) := sl_list.or (sl_tupA.or sl_str)
/-- the built-in functions -/
def aLen (K : PySem.W.Frag) : List V → Hp → VK → Prop := fun xs H Q => ∃ x n, xs = [x] ∧ LenV K x H n ∧ Q (.int n) H
def aInt : List V → Hp → VK → Prop := fun xs H Q => (∃ i, xs = [.int i] ∧ Q (.int i) H) ∨ ∃ k, xs = [.bl k] ∧ Q (.int (if k then 1 else 0)) H
def aList (K : PySem.W.Frag) : List V → Hp → VK → Prop := fun xs H Q => ∃ p ys, xs = [.ref p] ∧ (SqL K H p ys ∨ SqT K H p ys) ∧ nw (.lst ys) H Q
def aTuple (K : PySem.W.Frag) : List V → Hp → VK → Prop := fun xs H Q => ∃ p ys, xs = [.ref p] ∧ ((SqL K H p ys ∧ nw (.tup ys) H Q) ∨ (SqT K H p ys ∧ Q (.ref p) H))
def aAbs : List V → Hp → VK → Prop := fun xs H Q => ∃ i, xs = [.int i] ∧ Q (.int (if i < 0 then -i else i)) H
def aStr : List V → Hp → VK → Prop := fun xs H Q => ∃ i, xs = [.int i] ∧ i.natAbs.log2 < 1920 ∧ Q (.str (toString i)) H
def aMax2 : List V → Hp → VK → Prop := fun xs H Q => ∃ i j, xs = [.int i, .int j] ∧ Q (.int (if j > i then j else i)) H
def aMin2 : List V → Hp → VK → Prop := fun xs H Q => ∃ i j, xs = [.int i, .int j] ∧ Q (.int (if j < i then j else i)) H
def aIsi (K : PySem.W.Frag) : List V → Hp → VK → Prop := fun xs H Q => rIsi K xs H Q ∨ rIsiT K xs H Q
theorem cLen : CallR X (.builtin "len") (aLen X.K) := call_len
theorem cInt : CallR X (.type "int") aInt := call_int1
theorem cList : CallR X (.type "list") (aList X.K) := call_list_of
theorem cTuple : CallR X (.type "tuple") (aTuple X.K) := call_tuple_of
theorem cAbs : CallR X (.builtin "abs") aAbs := call_abs
theorem cStr : CallR X (.type "str") aStr := call_str_int
theorem cMax2 (h : X.calm = true) : CallR X (.builtin "max") aMax2 := call_max2 h
theorem cMin2 (h : X.calm = true) : CallR X (.builtin "min") aMin2 := call_min2 h
theorem cIsi : CallR X (.builtin "isinstance") (aIsi X.K) := call_isi.or call_isiT
def aSorted (K : PySem.W.Frag) : List V → Hp → VK → Prop := fun xs H Q => rSorted K xs H Q ∨ rSortedS K xs H Q
theorem cSorted : CallR X (.builtin "sorted") (aSorted X.K) := cr_sorted.or cr_sortedS
/-! tests -/
def tTru (K : PySem.W.Frag) (ta : TE) : TT := fun σ H Q => ta σ H fun x H' => ∃ k, TruV K x H' k ∧ Q k H'
theorem pt_tru {a : Expr} {ta : TE} (ha : PE X a ta) (he : ∀ whole, isTrue a X.env whole = (do let v ← whole; standAt a.pos; holding [v] (truthy v)) := by intro _; rfl) : PT X a (tTru X.K ta) := pt_truth ha he
def dLst (t : TA) : TE := fun σ H Q => t σ H fun xs H1 => xs.length ≤ sizeLine ∧ nw (.lst xs) H1 Q
def dTup (t : TA) : TE := fun σ H Q => t σ H fun xs H1 => xs.length ≤ sizeLine ∧ nw (.tup xs) H1 Q
theorem d_lst {es : List Expr} {t : TA} {pos : Pos} (h : PA X es t) : PE X (.List es pos) (dLst t) := pe_lst h
theorem d_tup {es : List Expr} {t : TA} {n : Nat} {pos : Pos} (h : PA X es t) : PE X (.Tuple es n pos) (dTup t) := pe_tup h
def dDict : TE := fun _ H Q => nw (.dK []) H Q
theorem d_dict {pos : Pos} : PE X (.Dict [] [] pos) dDict := pe_dnewK
/-! methods of lists -/
def aApp : V → List V → Hp → VK → Prop := fun x vs H Q => ∃ l xs y, x = .ref l ∧ vs = [y] ∧ H l = some (.lst xs) ∧ xs.length < sizeLine ∧ md l (.lst (xs ++ [y])) H (Q .non)
theorem mApp : MtR X "list.append" aApp := mt_append
def aPopA : V → List V → Hp → VK → Prop := fun x vs H Q => ∃ l xs i k y, x = .ref l ∧ vs = [.int i] ∧ H l = some (.lst xs) ∧ -(2 ^ 63) ≤ i ∧ i < 2 ^ 63 ∧ seqIndex? i xs.length = some k ∧ xs[k]? = some y ∧ md l (.lst (xs.eraseIdx k)) H (Q y)
theorem mPopA : MtR X "list.pop" aPopA := mt_popAt
def aPop : V → List V → Hp → VK → Prop := fun x vs H Q => ∃ l xs y, x = .ref l ∧ vs = [] ∧ H l = some (.lst xs) ∧ xs[xs.length - 1]? = some y ∧ md l (.lst xs.dropLast) H (Q y)
theorem mPop : MtR X "list.pop" aPop := mt_pop
def aSet : TSet := fun o i v H S => ∃ p xs k j, o = .ref p ∧ i = .int k ∧ H p = some (.lst xs) ∧ ixN xs.length k = some j ∧ md p (.lst (xs.set j v)) H S
theorem sSet : PSet X aSet := set_list
def aRevL (K : PySem.W.Frag) (te : TE) : TE := fun σ H Q => te σ H fun x H1 => ∃ a xs, x = .ref a ∧ SqL K H1 a xs ∧ nw (.lst xs.reverse) H1 Q
theorem d_revL {e : Expr} {te : TE} {n : Nat} {p1 p2 p3 pos : Pos} (he : PE X e te) : PE X (.Subscript e (.Slice none none (some (.UnaryOp .USub (.Constant (.int 1) n p1) p2)) p3) pos) (aRevL X.K te) := pe_revL he
/-! sep.join(..) -/
def aJoin (K : PySem.W.Frag) : V → List V → Hp → VK → Prop := fun x xs H Q => ∃ a p, ∃ ys : List Str, x = .str a ∧ xs = [.ref p] ∧ (SqL K H p (ys.map V.str) ∨ SqT K H p (ys.map V.str)) ∧
    (ys.map (·.length)).sum + ys.length * a.length ≤ 16777216 ∧ Q (.str (Txt.join a ys)) H
end
section
variable {X : Cx}
theorem mJoin : MtR X "str.join" (aJoin X.K) := mt_join
end
/-! ### steps of a reading -/
section
variable {σ : L2.St} {H : Hp} {Q : VK} {K : PySem.W.Frag} {i j : Int} {v : V} {a b : Str}
theorem x_var {n : Nat} (h : σ[n]? = some (some v)) (q : Q v H) : tVar n σ H Q := ⟨v, h, q⟩
theorem x_c (q : Q v H) : tC v σ H Q := q
theorem x_op {r : R2} {ta tb : TE} (h : ta σ H fun x H1 => tb σ H1 fun y H2 => r x y H2 Q) : tOp r ta tb σ H Q := h
theorem x_un {r : V → Hp → VK → Prop} {ta : TE} (h : ta σ H fun x H1 => r x H1 Q) : tUn r ta σ H Q := h
theorem x_add (q : Q (.int (i + j)) H) : aAdd K (.int i) (.int j) H Q := .inl ⟨i, j, rfl, rfl, q⟩
theorem x_adds (hz : a.length + b.length ≤ sizeLine) (q : Q (.str (a ++ b)) H) : aAdd K (.str a) (.str b) H Q := .inr (.inl ⟨a, b, rfl, rfl, hz, q⟩)
theorem x_addl {p q : Addr} {xs ys : List V} (h1 : H p = some (.lst xs)) (h2 : H q = some (.lst ys)) (hz : xs.length + ys.length ≤ sizeLine) (k : nw (.lst (xs ++ ys)) H Q) : aAdd K (.ref p) (.ref q) H Q :=
  .inr (.inr (.inl ⟨p, q, xs, ys, rfl, rfl, h1, h2, hz, k⟩))
theorem x_mul (hc : CMul i j) (q : Q (.int (i * j)) H) : aMul (.int i) (.int j) H Q := .inl ⟨i, j, rfl, rfl, hc, q⟩
theorem x_rI0 {g : Int → Int → V} (q : Q (g i j) H) : rI0 g (.int i) (.int j) H Q := ⟨i, j, rfl, rfl, q⟩
theorem x_rI {C : Int → Int → Prop} {g : Int → Int → V} (hc : C i j) (q : Q (g i j) H) : rI C g (.int i) (.int j) H Q := ⟨i, j, rfl, rfl, hc, q⟩
theorem x_rU {g : Int → V} (q : Q (g i) H) : rU g (.int i) H Q := ⟨i, rfl, q⟩
theorem x_eq {x y : V} (h : scal x y = true) (q : Q (.bl (decide (x = y))) H) : aEq K x y H Q := .inl ⟨h, q⟩
theorem x_ne {x y : V} (h : scal x y = true) (q : Q (.bl (!decide (x = y))) H) : aNe K x y H Q := .inl ⟨h, q⟩
theorem x_eqd {x y : V} {d e : PyData} (h1 : Dt K H x d) (h2 : Dt K H y e) (s1 : SeqAt.shaped d = true) (s2 : SeqAt.shaped e = true) (q : Q (.bl (PyData.eqv d e)) H) : aEq K x y H Q := .inr (.inl ⟨d, e, h1, h2, s1, s2, q⟩)
theorem x_eqN {p q : Addr} {xs : List V} (h1 : SqL K H p xs) (h2 : SqL K H q []) (z : Q (.bl xs.isEmpty) H) : aEq K (.ref p) (.ref q) H Q := .inr (.inr ⟨p, q, xs, rfl, rfl, h1, h2, z⟩)
theorem x_ned {x y : V} {d e : PyData} (h1 : Dt K H x d) (h2 : Dt K H y e) (s1 : SeqAt.shaped d = true) (s2 : SeqAt.shaped e = true) (q : Q (.bl (!PyData.eqv d e)) H) : aNe K x y H Q := .inr (.inl ⟨d, e, h1, h2, s1, s2, q⟩)
theorem x_neN {p q : Addr} {xs : List V} (h1 : SqL K H p xs) (h2 : SqL K H q []) (z : Q (.bl (!xs.isEmpty)) H) : aNe K (.ref p) (.ref q) H Q := .inr (.inr ⟨p, q, xs, rfl, rfl, h1, h2, z⟩)
theorem x_lt (q : Q (.bl (decide (i < j))) H) : aLt (.int i) (.int j) H Q := .inl ⟨i, j, rfl, rfl, q⟩
theorem x_lts (q : Q (.bl (decide (a.cps.toList < b.cps.toList))) H) : aLt (.str a) (.str b) H Q := .inr ⟨a, b, rfl, rfl, q⟩
theorem x_le (q : Q (.bl (decide (i ≤ j))) H) : aLe (.int i) (.int j) H Q := .inl ⟨i, j, rfl, rfl, q⟩
theorem x_les (q : Q (.bl (!decide (b.cps.toList < a.cps.toList))) H) : aLe (.str a) (.str b) H Q := .inr ⟨a, b, rfl, rfl, q⟩
theorem x_gt (q : Q (.bl (decide (j < i))) H) : aGt (.int i) (.int j) H Q := .inl ⟨i, j, rfl, rfl, q⟩
theorem x_ge (q : Q (.bl (decide (j ≤ i))) H) : aGe (.int i) (.int j) H Q := .inl ⟨i, j, rfl, rfl, q⟩
theorem x_isN {x : V} (q : Q (.bl (decide (x = .non))) H) : aIs x .non H Q := .inl ⟨rfl, q⟩
theorem x_isnN {x : V} (q : Q (.bl (!decide (x = .non))) H) : aIsn x .non H Q := .inl ⟨rfl, q⟩
theorem x_inl {x : V} {p : Addr} {xs : List V} {n : Bool} (h : SqL K H p xs) (f : flatV x = true) (fs : xs.all flatV = true) (q : Q (.bl (if n then !inV x xs else inV x xs)) H) : rIn K n x (.ref p) H Q := ⟨p, xs, rfl, .inl h, f, fs, q⟩
theorem x_int {x : V} {p : Addr} {xs : List V} {n : Bool} (h : SqT K H p xs) (f : flatV x = true) (fs : xs.all flatV = true) (q : Q (.bl (if n then !inV x xs else inV x xs)) H) : rIn K n x (.ref p) H Q := ⟨p, xs, rfl, .inr h, f, fs, q⟩
theorem x_ixl {p : Addr} {xs : List V} (h : SqL K H p xs) (e : atI xs i = some v) (q : Q v H) : rIx K (.ref p) (.int i) H Q := .inl ⟨p, xs, i, v, rfl, rfl, h, e, q⟩
theorem x_ixt {p : Addr} {xs : List V} (h : SqT K H p xs) (e : atI xs i = some v) (q : Q v H) : rIx K (.ref p) (.int i) H Q := .inr (.inl ⟨p, xs, i, v, rfl, rfl, h, e, q⟩)
theorem x_ixs {c : Nat} (hz : a.length ≤ sizeLine) (e : atI a.cps.toList i = some c) (q : Q (.str ⟨#[c]⟩) H) : rIx K (.str a) (.int i) H Q := .inr (.inr ⟨a, i, c, rfl, rfl, hz, e, q⟩)
/-! calls -/
theorem x_cb {r : List V → Hp → VK → Prop} {t : TA} (h : t σ H fun vs H1 => r vs H1 Q) : tCB r t σ H Q := h
theorem x_call {sp : Sp} {E : XK} {t : TA} (h : t σ H fun vs H1 => sp vs H1 Q E) : tCall sp [] E t σ H Q := by
  show t σ H fun vs H1 => sp (vs ++ []) H1 Q E
  simpa only [List.append_nil] using h
theorem x_anil {Q : List V → Hp → Prop} (h : Q [] H) : tNil σ H Q := h
theorem x_acons {ta : TE} {t : TA} {Q : List V → Hp → Prop} (h : ta σ H fun x H1 => t σ H1 fun xs H2 => Q (x :: xs) H2) : tCons ta t σ H Q := h
theorem x_lens (hz : a.length ≤ sizeLine) (q : Q (.int a.length) H) : aLen K [.str a] H Q := ⟨_, _, rfl, ⟨hz, rfl⟩, q⟩
theorem x_lenl {p : Addr} {xs : List V} (h : SqL K H p xs) (q : Q (.int xs.length) H) : aLen K [.ref p] H Q := ⟨_, _, rfl, .inl ⟨xs, h, rfl⟩, q⟩
theorem x_lent {p : Addr} {xs : List V} (h : SqT K H p xs) (q : Q (.int xs.length) H) : aLen K [.ref p] H Q := ⟨_, _, rfl, .inr ⟨xs, h, rfl⟩, q⟩
theorem x_inti (q : Q (.int i) H) : aInt [.int i] H Q := .inl ⟨i, rfl, q⟩
theorem x_intb {k : Bool} (q : Q (.int (if k then 1 else 0)) H) : aInt [.bl k] H Q := .inr ⟨k, rfl, q⟩
theorem x_abs (q : Q (.int (if i < 0 then -i else i)) H) : aAbs [.int i] H Q := ⟨i, rfl, q⟩
theorem x_repr {d : PyData} (h : Dt K H v d) (f : fits d = true) (hz : d.shown.length ≤ sizeLine) (h60 : d.depth ≤ 60) (q : Q (.str d.shown) H) : rRepr K [v] H Q := ⟨v, d, rfl, h, f, hz, h60, q⟩
/-! tests -/
variable {T : Bool → Hp → Prop}
theorem x_tru {ta : TE} (h : ta σ H fun x H' => ∃ k, TruV K x H' k ∧ T k H') : tTru K ta σ H T := h
theorem x_trub {k : Bool} {S : Bool → Prop} (q : S k) : ∃ k', TruV K (.bl k) H k' ∧ S k' := ⟨k, rfl, q⟩
theorem x_trui {S : Bool → Prop} (q : S (i != 0)) : ∃ k', TruV K (.int i) H k' ∧ S k' := ⟨_, rfl, q⟩
theorem x_test {t : TE} (h : t σ H fun x H' => ∃ k, x = .bl k ∧ T k H') : tTest t σ H T := h
theorem x_testb {k : Bool} {S : Bool → Prop} (q : S k) : ∃ k', V.bl k = .bl k' ∧ S k' := ⟨k, rfl, q⟩
theorem x_and {t u : TT} (h : t σ H fun c H1 => if c = true then u σ H1 T else T false H1) : tAnd t u σ H T := h
theorem x_or {t u : TT} (h : t σ H fun c H1 => if c = true then T true H1 else u σ H1 T) : tOr t u σ H T := h
theorem x_not {t : TT} (h : t σ H fun c H1 => T (!c) H1) : tNot t σ H T := h
theorem x_andV {ta tb : TE} (h : ta σ H fun x H1 => ∃ c, x = .bl c ∧ if c = true then tb σ H1 Q else Q (.bl false) H1) : tAndV ta tb σ H Q := h
theorem x_orV {ta tb : TE} (h : ta σ H fun x H1 => ∃ c, x = .bl c ∧ if c = true then Q (.bl true) H1 else tb σ H1 Q) : tOrV ta tb σ H Q := h
theorem x_notV {ta : TE} (h : ta σ H fun x H1 => ∃ c, x = .bl c ∧ Q (.bl (!c)) H1) : tNotV ta σ H Q := h
theorem x_isB {c : Bool} {S : Bool → Prop} (q : S c) : ∃ c', V.bl c = .bl c' ∧ S c' := ⟨c, rfl, q⟩
theorem x_if {t : TT} {ta tb : TE} (h : t σ H fun c H1 => if c = true then ta σ H1 Q else tb σ H1 Q) : tIf t ta tb σ H Q := h
/-! statements -/
variable {n b1 c1 : L2.St → Hp → Prop} {r1 : VK} {D : Ends}
theorem x_seq {t u : TS} (h : t ⟨u ⟨n, r1, b1, c1⟩, r1, b1, c1⟩ σ H) : tSeq t u ⟨n, r1, b1, c1⟩ σ H := h
theorem x_asg {te : TE} {m : Nat} (h : te σ H fun x H1 => n (σ.set m (some x)) H1) : tAsg te (gName m) ⟨n, r1, b1, c1⟩ σ H := h
theorem x_asgG {te : TE} {g : TG} (h : te σ H fun x H1 => g x σ H1 n) : tAsg te g ⟨n, r1, b1, c1⟩ σ H := h
theorem x_ret {te : TE} (h : te σ H r1) : tRet te ⟨n, r1, b1, c1⟩ σ H := h
theorem x_drop {te : TE} (h : te σ H fun _ H1 => n σ H1) : tDrop te ⟨n, r1, b1, c1⟩ σ H := h
theorem x_ifs {c : TT} {t u : TS} (h : c σ H fun k H1 => if k = true then t ⟨n, r1, b1, c1⟩ σ H1 else u ⟨n, r1, b1, c1⟩ σ H1) : tIfS c t u ⟨n, r1, b1, c1⟩ σ H := h
theorem x_when {c : TT} {t : TS} (rest : n σ H) (h : n σ H → c σ H fun k H1 => if k = true then t ⟨n, r1, b1, c1⟩ σ H1 else n σ H1) : tIfS c t tNext ⟨n, r1, b1, c1⟩ σ H := h rest
theorem x_next (h : n σ H) : tNext ⟨n, r1, b1, c1⟩ σ H := h
theorem x_brk (h : b1 σ H) : tBreak ⟨n, r1, b1, c1⟩ σ H := h
theorem x_cnt (h : c1 σ H) : tCont ⟨n, r1, b1, c1⟩ σ H := h
theorem x_par {m l : Nat} {ta : TA} (h : ta σ H fun vs H1 => ∃ v w, vs = [v, w] ∧ n ((σ.set m (some v)).set l (some w)) H1) : tPar m l ta ⟨n, r1, b1, c1⟩ σ H := h
theorem x_par2 {v w : V} {S : V → V → Prop} (h : S v w) : ∃ v' w', [v, w] = [v', w'] ∧ S v' w' := ⟨v, w, rfl, h⟩
theorem x_par3 {m l o : Nat} {ta : TA} (h : ta σ H fun vs H1 => ∃ u v w, vs = [u, v, w] ∧ n (((σ.set m (some u)).set l (some v)).set o (some w)) H1) : tPar3 m l o ta ⟨n, r1, b1, c1⟩ σ H := h
theorem x_par33 {u v w : V} {S : V → V → V → Prop} (h : S u v w) : ∃ u' v' w', [u, v, w] = [u', v', w'] ∧ S u' v' w' := ⟨u, v, w, rfl, h⟩
theorem x_sub {to ti : TE} {t : TSet} {x : V} {q : L2.St → Hp → Prop} (h : to σ H fun o H1 => ti σ H1 fun i H2 => t o i x H2 fun H3 => q σ H3) : gSub to ti t x σ H q := h
theorem x_setl {p : Addr} {xs : List V} {m : Nat} {S : Hp → Prop} (h : H p = some (.lst xs)) (e : ixN xs.length i = some m) (q : md p (.lst (xs.set m v)) H S) : aSet (.ref p) (.int i) v H S := ⟨p, xs, i, m, rfl, rfl, h, e, q⟩
theorem x_lst {t : TA} (h : t σ H fun xs H1 => xs.length ≤ sizeLine ∧ nw (.lst xs) H1 Q) : dLst t σ H Q := h
theorem x_tup {t : TA} (h : t σ H fun xs H1 => xs.length ≤ sizeLine ∧ nw (.tup xs) H1 Q) : dTup t σ H Q := h
theorem x_dict (h : nw (.dK []) H Q) : dDict σ H Q := h
theorem x_bm {T : String} {r : V → List V → Hp → VK → Prop} {to : TE} {t : TA} (h : to σ H fun x H1 => tyV K T x H1 ∧ t σ H1 fun xs H2 => r x xs H2 Q) : tBM K T r to t σ H Q := h
theorem x_bm0 {T : String} {r : V → List V → Hp → VK → Prop} {to : TE} (h : to σ H fun x H1 => tyV K T x H1 ∧ r x [] H1 Q) : tBM0 K T r to σ H Q := h
theorem ty_l {p : Addr} {xs : List V} (h : SqL K H p xs) : tyV K "list" (.ref p) H := .inl ⟨rfl, xs, h⟩
theorem ty_s : tyV K "str" (.str a) H := rfl
theorem x_app {p : Addr} {xs : List V} (h : H p = some (.lst xs)) (hz : xs.length < sizeLine) (k : md p (.lst (xs ++ [v])) H (Q .non)) : aApp (.ref p) [v] H Q := ⟨p, xs, v, rfl, rfl, h, hz, k⟩
theorem x_popA {p : Addr} {xs : List V} {m : Nat} (h : H p = some (.lst xs)) (h0 : -(2 ^ 63) ≤ i) (h1 : i < 2 ^ 63) (e : seqIndex? i xs.length = some m) (e2 : xs[m]? = some v) (k : md p (.lst (xs.eraseIdx m)) H (Q v)) : aPopA (.ref p) [.int i] H Q := ⟨p, xs, i, m, v, rfl, rfl, h, h0, h1, e, e2, k⟩
theorem x_listL {p : Addr} {xs : List V} (h : SqL K H p xs) (k : nw (.lst xs) H Q) : aList K [.ref p] H Q := ⟨p, xs, rfl, .inl h, k⟩
theorem x_listT {p : Addr} {xs : List V} (h : SqT K H p xs) (k : nw (.lst xs) H Q) : aList K [.ref p] H Q := ⟨p, xs, rfl, .inr h, k⟩
theorem x_tupleL {p : Addr} {xs : List V} (h : SqL K H p xs) (k : nw (.tup xs) H Q) : aTuple K [.ref p] H Q := ⟨p, xs, rfl, .inl ⟨h, k⟩⟩
theorem x_tupleT {p : Addr} {xs : List V} (h : SqT K H p xs) (k : Q (.ref p) H) : aTuple K [.ref p] H Q := ⟨p, xs, rfl, .inr ⟨h, k⟩⟩
theorem x_slice {r : V → Option Int → Option Int → Hp → VK → Prop} {te : TE} {tl th : TO} (h : te σ H fun x H1 => tl σ H1 fun l H2 => th σ H2 fun u H3 => r x l u H3 Q) : tSl r te tl th σ H Q := h
theorem x_nop {S : Option Int → Hp → Prop} (h : S none H) : tNoPart σ H S := h
theorem x_part {te : TE} {S : Option Int → Hp → Prop} (h : te σ H fun x H1 => ∃ i, x = .int i ∧ S (some i) H1) : tPart te σ H S := h
theorem x_isI {S : Int → Prop} (q : S i) : ∃ i', V.int i = .int i' ∧ S i' := ⟨i, rfl, q⟩
theorem x_slL {p : Addr} {xs : List V} {lo hi : Option Int} (h : SqL K H p xs) (k : nw (.lst (cutV xs lo hi)) H Q) : aSl K (.ref p) lo hi H Q := .inl ⟨p, xs, rfl, h, k⟩
theorem x_slT {p : Addr} {xs : List V} {lo hi : Option Int} (h : SqT K H p xs) (q1 : HT.sIx xs.length 0 lo = 0 ∧ HT.sIx xs.length xs.length hi = xs.length → Q (.ref p) H)
    (q2 : ¬ (HT.sIx xs.length 0 lo = 0 ∧ HT.sIx xs.length xs.length hi = xs.length) → nw (.tup (cutV xs lo hi)) H Q) : aSl K (.ref p) lo hi H Q := .inr (.inl ⟨p, xs, rfl, h, q1, q2⟩)
theorem x_slS {lo hi : Option Int} (hz : a.length ≤ sizeLine) (q : Q (.str (cutS a lo hi)) H) : aSl K (.str a) lo hi H Q := .inr (.inr ⟨a, rfl, hz, q⟩)
theorem x_revL {te : TE} (h : te σ H fun x H1 => ∃ a xs, x = .ref a ∧ SqL K H1 a xs ∧ nw (.lst xs.reverse) H1 Q) : aRevL K te σ H Q := h
theorem ite_t {A B : Prop} (h : A) : if true = true then A else B := by rw [if_pos rfl]; exact h
theorem ite_f {A B : Prop} (h : B) : if false = true then A else B := by rw [if_neg Bool.false_ne_true]; exact h
theorem ite_b {c : Bool} {A B : Prop} (h1 : c = true → A) (h2 : c = false → B) : if c = true then A else B := by
  cases c with
  | true => rw [if_pos rfl]; exact h1 rfl
  | false => rw [if_neg Bool.false_ne_true]; exact h2 rfl
end
end G
set_option maxHeartbeats 4000000
/-! Part C: walks of lists and tuples alike; the drawing box; names of built-ins. -/
namespace G
open PySem PySem.Spec PyProof.Rows L2
/-- the built-in names are the built-ins' -/
structure Bt (mg : Str → Option Value) : Prop where
  len : mg "len" = none
  range : mg "range" = none
  abs : mg "abs" = none
  int : mg "int" = none
  str : mg "str" = none
  bool : mg "bool" = none
  list : mg "list" = none
  tuple : mg "tuple" = none
  dict : mg "dict" = none
  sum : mg "sum" = none
  all : mg "all" = none
  any : mg "any" = none
  max : mg "max" = none
  min : mg "min" = none
  sorted : mg "sorted" = none
  repr : mg "repr" = none
  isinstance : mg "isinstance" = none
  enumerate : mg "enumerate" = none
  zip : mg "zip" = none
section
variable {X : Cx} {tg e : Expr} {te : TE}
theorem PI.or {u1 u2 : TI} (h1 : PI X tg e u1) (h2 : PI X tg e u2) : PI X tg e (fun σ H R => u1 σ H R ∨ u2 σ H R) := by
  constructor
  intro pins s σ H R I h
  rcases h with h | h
  · exact h1.run pins s σ H R I h
  · exact h2.run pins s σ H R I h
/-- over a list or a tuple -/
def iSeq (K : PySem.W.Frag) (tl : TE) : TI := fun σ H R => iList K tl σ H R ∨ iTup K tl σ H R
theorem pi_seq (h : PE X e te) : PI X tg e (iSeq X.K te) := PI.or (pi_list h) (pi_tup h)
end
/-! the box that draws: what is left of the great number, whether there is one, the seed, how often it drew; n: how often it may draw yet -/
def Box (n : Nat) (xs : List V) : Prop := ∃ (m k c : Int) (f : Bool), xs = [.int m, .bl f, .int k, .int c] ∧ 0 ≤ m ∧ 0 ≤ k ∧ k < 2147483629 ∧ 0 ≤ c ∧ c + n ≤ 1000000000
theorem Box.le {n m : Nat} {xs : List V} (h : Box n xs) (l : m ≤ n) : Box m xs := by
  obtain ⟨a, b, c, f, e, h1, h2, h3, h4, h5⟩ := h
  exact ⟨a, b, c, f, e, h1, h2, h3, h4, by omega⟩
end G
set_option maxHeartbeats 4000000
/-! Part D: comprehensions and loops over what is owned. -/
namespace G
open PySem PySem.Spec PyProof.Rows L2
section
variable {X : Cx} {tg e : Expr} {te : TE} {pins : List (Addr × Obj)} {σ : L2.St} {H : Hp} {s : Shared} {R : It → Hp → Prop} {E : Value → Shared → Prop}
theorem Inv.pushed (I : Inv X pins σ H s) (o : Obj) : Inv X pins σ H { s with heap := s.heap.push o } := I.kept (t' := s.toks) fun b u z => Heap.get?_push_of_some _ z
theorem piL (I : Inv X pins σ H s) {a : Addr} {xs : List V} (hq : SqL X.K H a xs) (q : R (Itl X.K a) H) : wpAny (model X.prog X.w) X.A (pyIter (.ref a)) (PIE X pins σ tg R) E s := by
  obtain ⟨its, _, p, _⟩ := I.list hq
  refine wpAny_pyIter_list p.isList ?_
  refine ⟨s.heap.objs.size, [s.heap.objs.size], _, _, H, rfl, Inv.pushed I _, turn_list a _, ⟨_, Heap.get?_push_size _ rfl, rfl, rfl⟩, ?_, q⟩
  intro b hb
  obtain rfl : b = s.heap.objs.size := by simpa using hb
  exact I.fpOk (Nat.le_refl _) (I.hok.fresh (Nat.le_refl _))
theorem piT (I : Inv X pins σ H s) {a : Addr} {xs : List V} (hq : SqT X.K H a xs) (q : R (Itt X.K a) H) : wpAny (model X.prog X.w) X.A (pyIter (.ref a)) (PIE X pins σ tg R) E s := by
  obtain ⟨its, _, p, _⟩ := I.tuple hq
  refine wpAny_pyIter_tuple (show s.heap.IsTuple a its.toArray from p) ?_
  refine ⟨s.heap.objs.size, [s.heap.objs.size], _, _, H, rfl, Inv.pushed I _, turn_tuple a _, ⟨_, Heap.get?_push_size _ rfl, rfl, rfl⟩, ?_, q⟩
  intro b hb
  obtain rfl : b = s.heap.objs.size := by simpa using hb
  exact I.fpOk (Nat.le_refl _) (I.hok.fresh (Nat.le_refl _))
/-- over a list or a tuple -/
def iSq (K : PySem.W.Frag) (tl : TE) : TI := fun σ H R => tl σ H fun x H1 => ∃ a xs, x = .ref a ∧ ((SqL K H1 a xs ∧ R (Itl K a) H1) ∨ (SqT K H1 a xs ∧ R (Itt K a) H1))
theorem pi_sq (he : PE X e te) : PI X tg e (iSq X.K te) := by
  constructor
  intro pins s σ H R I h
  refine thn (he.run pins s σ H _ I h) ?_
  rintro v s1 ⟨x, H1, I1, r1, a, xs, rfl, z⟩
  cases r1
  rcases z with ⟨z, q⟩ | ⟨z, q⟩
  · exact piL I1 z q
  · exact piT I1 z q
end
/-- a walk that has come -/
abbrev iAt (J : It) : TI := fun _ H R => R J H
section
variable {σ : L2.St} {H : Hp} {Q : VK} {K : PySem.W.Frag} {g : TG} {tt : TT} {te : TE} {vs : List Nat} {ta : TA} {tl : TE}
theorem x_lcR (h : ta σ H fun zs H1 => ∃ n : Int, zs = [.int n] ∧ -(2 ^ 62) ≤ n ∧ n < 2 ^ 62 ∧ tLc (iAt (Itr 0 n.toNat)) g tt te vs σ H1 Q) : tLc (iRng1 ta) g tt te vs σ H Q := h
theorem x_lcR2 (h : ta σ H fun zs H1 => ∃ i j : Int, zs = [.int i, .int j] ∧ (-(2 ^ 62) ≤ i ∧ i < 2 ^ 62 ∧ -(2 ^ 62) ≤ j ∧ j < 2 ^ 62) ∧ tLc (iAt (Itr i (j - i).toNat)) g tt te vs σ H1 Q) : tLc (iRng2 ta) g tt te vs σ H Q := h
theorem x_lcS (h : tl σ H fun x H1 => ∃ a xs, x = .ref a ∧ ((SqL K H1 a xs ∧ tLc (iAt (Itl K a)) g tt te vs σ H1 Q) ∨ (SqT K H1 a xs ∧ tLc (iAt (Itt K a)) g tt te vs σ H1 Q))) : tLc (iSq K tl) g tt te vs σ H Q := h
theorem x_lcI (h : tl σ H fun x H1 => ∃ z, x = .str z ∧ tLc (iAt (Its z)) g tt te vs σ H1 Q) : tLc (iStr tl) g tt te vs σ H Q := h
theorem x_sqL {p : Addr} {xs : List V} {S1 : Addr → Prop} {S2 : Addr → List V → Prop} (h : SqL K H p xs) (q : S1 p) : ∃ a xs, V.ref p = .ref a ∧ ((SqL K H a xs ∧ S1 a) ∨ S2 a xs) := ⟨p, xs, rfl, .inl ⟨h, q⟩⟩
theorem x_sqT {p : Addr} {xs : List V} {S1 : Addr → Prop} {S2 : Addr → List V → Prop} (h : SqT K H p xs) (q : S1 p) : ∃ a xs, V.ref p = .ref a ∧ (S2 a xs ∨ (SqT K H a xs ∧ S1 a)) := ⟨p, xs, rfl, .inr ⟨h, q⟩⟩
theorem x_rg {n : Int} {S : Int → Prop} (h0 : -(2 ^ 62) ≤ n) (h1 : n < 2 ^ 62) (q : S n) : ∃ n' : Int, [V.int n] = [.int n'] ∧ -(2 ^ 62) ≤ n' ∧ n' < 2 ^ 62 ∧ S n' := ⟨n, rfl, h0, h1, q⟩
theorem x_yes {T : Bool → Hp → Prop} (h : T true H) : tYes σ H T := h
section
variable {J : It} {n : Nat} {Gd : Hp → Prop} {Y : Nat → Hp → V → Hp → Prop} {G : Hp} {L : List (Addr × HO)}
/-- what holds between two turns: D the new list, what it has so far -/
def PvH (G : Hp) (Pv : Nat → Hp → List (Addr × HO) → List V → Prop) (D : Addr) (i : Nat) (H : Hp) : Prop := ∃ G' L' acc, Same G G' ∧ Own G' H ((D, .lst acc) :: L') ∧ Pv i G' L' acc
/-- what an element's value is to bring -/
def LcN (G : Hp) (Pv : Nat → Hp → List (Addr × HO) → List V → Prop) (D : Addr) (i : Nat) : VK := fun y H4 => ∃ acc, H4 D = some (.lst acc) ∧ acc.length < sizeLine ∧ PvH G Pv D (i + 1) (upd H4 D (.lst (acc ++ [y])))
theorem lcn {Pv : Nat → Hp → List (Addr × HO) → List V → Prop} {D : Addr} {i : Nat} {y : V} {G4 H4 : Hp} {L4 : List (Addr × HO)} {acc : List V} (s : Same G G4) (O : Own G4 H4 ((D, .lst acc) :: L4)) (hz : acc.length < sizeLine) (p : Pv (i + 1) G4 L4 (acc ++ [y])) : LcN G Pv D i y H4 :=
  ⟨acc, O.at0, hz, G4, L4, acc ++ [y], s, O.upd0, p⟩
/-- a comprehension by any walk; the new list is the first of what is ours -/
theorem lc_own {σw : L2.St} (hw : wipe σ vs = σw) (W : Walk J n Gd Y) (O : Own G H L) (Pv : Nat → Hp → List (Addr × HO) → List V → Prop) (h0 : Pv 0 G L [])
    (hG : ∀ (i : Nat) (G' H' : Hp) (D : Addr) (L' : List (Addr × HO)) (acc : List V), Same G G' → Own G' H' ((D, .lst acc) :: L') → Pv i G' L' acc → Gd H')
    (st : ∀ (i : Nat) (x : V) (G' H' H2 : Hp) (D : Addr) (L' : List (Addr × HO)) (acc : List V), i < n → Same G G' → Own G' H' ((D, .lst acc) :: L') → Pv i G' L' acc → Y i H' x H2 →
      g x σw H2 fun σ2 H2 => wipe σ2 vs = σw ∧ tt σ2 H2 fun k H3 => if k = true then te σ2 H3 (LcN G Pv D i) else PvH G Pv D (i + 1) H3)
    (fin : ∀ (G' H' : Hp) (D : Addr) (L' : List (Addr × HO)) (acc : List V), Same G G' → Own G' H' ((D, .lst acc) :: L') → Pv n G' L' acc → Q (.ref D) H') : tLc (iAt J) g tt te vs σ H Q := by
  subst hw
  intro D hD
  refine lc_it W (PvH G Pv D) ⟨G, L, [], Same.refl G, O.new hD, h0⟩ ?_ ?_ ?_
  · rintro i H' _ ⟨G', L', acc, s, O', p⟩
    exact hG i G' H' D L' acc s O' p
  · rintro i x H' H2 hi ⟨G', L', acc, s, O', p⟩ y
    exact st i x G' H' H2 D L' acc hi s O' p y
  · rintro H' ⟨G', L', acc, s, O', p⟩
    exact fin G' H' D L' acc s O' p
/-! for loops -/
variable {D : Ends} {tb : TS} {t2 : TS} {n1 b1 c1 : L2.St → Hp → Prop} {r1 : VK}
theorem x_forR (h : ta σ H fun zs H1 => ∃ n : Int, zs = [.int n] ∧ -(2 ^ 62) ≤ n ∧ n < 2 ^ 62 ∧ tFor (iAt (Itr 0 n.toNat)) g tb D σ H1) : tFor (iRng1 ta) g tb D σ H := h
theorem x_forS (h : tl σ H fun x H1 => ∃ a xs, x = .ref a ∧ ((SqL K H1 a xs ∧ tFor (iAt (Itl K a)) g tb D σ H1) ∨ (SqT K H1 a xs ∧ tFor (iAt (Itt K a)) g tb D σ H1))) : tFor (iSq K tl) g tb D σ H := h
def FvH (G : Hp) (Pv : Nat → L2.St → Hp → List (Addr × HO) → Prop) (i : Nat) (σ : L2.St) (H : Hp) : Prop := ∃ G' L', Same G G' ∧ Own G' H L' ∧ Pv i σ G' L'
theorem fvh {Pv : Nat → L2.St → Hp → List (Addr × HO) → Prop} {i : Nat} {σ : L2.St} {G' H' : Hp} {L' : List (Addr × HO)} (s : Same G G') (O : Own G' H' L') (p : Pv i σ G' L') : FvH G Pv i σ H' := ⟨G', L', s, O, p⟩
theorem for_own (W : Walk J n Gd Y) (O : Own G H L) (Pv : Nat → L2.St → Hp → List (Addr × HO) → Prop) (h0 : Pv 0 σ G L)
    (hG : ∀ (i : Nat) (σ : L2.St) (G' H' : Hp) (L' : List (Addr × HO)), Same G G' → Own G' H' L' → Pv i σ G' L' → Gd H')
    (st : ∀ (i : Nat) (x : V) (σ : L2.St) (G' H' H2 : Hp) (L' : List (Addr × HO)), i < n → Same G G' → Own G' H' L' → Pv i σ G' L' → Y i H' x H2 →
      g x σ H2 fun σ2 H2 => tb ⟨FvH G Pv (i + 1), r1, n1, FvH G Pv (i + 1)⟩ σ2 H2)
    (fin : ∀ (σ : L2.St) (G' H' : Hp) (L' : List (Addr × HO)), Same G G' → Own G' H' L' → Pv n σ G' L' → n1 σ H') : tFor (iAt J) g tb ⟨n1, r1, b1, c1⟩ σ H := by
  refine for_it W (FvH G Pv) ⟨G, L, Same.refl G, O, h0⟩ ?_ ?_ ?_
  · rintro i σ' H' _ ⟨G', L', s, O', p⟩
    exact hG i σ' G' H' L' s O' p
  · rintro i x σ' H' H2 hi ⟨G', L', s, O', p⟩ y
    exact st i x σ' G' H' H2 L' hi s O' p y
  · rintro σ' H' ⟨G', L', s, O', p⟩
    exact fin σ' G' H' L' s O' p
/-- while: a measure of the state -/
def WH (G : Hp) (Pv : Nat → L2.St → Hp → List (Addr × HO) → Prop) (m : Nat) (σ : L2.St) (H : Hp) : Prop := ∃ G' L', Same G G' ∧ Own G' H L' ∧ Pv m σ G' L'
def WvH (G : Hp) (Pv : Nat → L2.St → Hp → List (Addr × HO) → Prop) (m : Nat) (σ : L2.St) (H : Hp) : Prop := ∃ m', m' < m ∧ WH G Pv m' σ H
theorem wvh {Pv : Nat → L2.St → Hp → List (Addr × HO) → Prop} {m m' : Nat} {σ : L2.St} {G' H' : Hp} {L' : List (Addr × HO)} (l : m' < m) (s : Same G G') (O : Own G' H' L') (p : Pv m' σ G' L') : WvH G Pv m σ H' := ⟨m', l, G', L', s, O, p⟩
theorem w_yes {Pv : Nat → L2.St → Hp → List (Addr × HO) → Prop} {m : Nat} {σ : L2.St} {H1 : Hp} (h : tb ⟨WvH G Pv m, r1, n1, WvH G Pv m⟩ σ H1) :
    ∃ N : L2.St → Hp → Prop, (∀ σ' H', N σ' H' → ∃ m', m' < m ∧ WH G Pv m' σ' H') ∧ tb ⟨N, r1, n1, N⟩ σ H1 := ⟨WvH G Pv m, fun _ _ z => z, h⟩
theorem while_own {c : TT} {m : Nat} (O : Own G H L) (Pv : Nat → L2.St → Hp → List (Addr × HO) → Prop) (h0 : Pv m σ G L)
    (st : ∀ (m : Nat) (σ : L2.St) (G' H' : Hp) (L' : List (Addr × HO)), Same G G' → Own G' H' L' → Pv m σ G' L' →
      c σ H' fun k H1 => if k = true then ∃ N : L2.St → Hp → Prop, (∀ σ' H', N σ' H' → ∃ m', m' < m ∧ WH G Pv m' σ' H') ∧ tb ⟨N, r1, n1, N⟩ σ H1 else n1 σ H1) : tWhile c tb ⟨n1, r1, b1, c1⟩ σ H := by
  refine ⟨WH G Pv, ⟨m, G, L, Same.refl G, O, h0⟩, ?_⟩
  rintro m σ H ⟨G', L', s, O', p⟩
  exact st m σ G' H L' s O' p
end
end
end G
set_option maxHeartbeats 4000000
/-! Part E: bounds of data; expressions that bring bounded data. -/
namespace G
open PySem PySem.Spec PyProof.Rows L2
/-! ### texts of ASCII signs, short -/
def asc (x : Str) : Bool := x.cps.toList.all fun c => decide (c < 128)
/-- a text of at most n ASCII signs -/
def St (n : Nat) (x : Str) : Prop := asc x = true ∧ x.length ≤ n
theorem len_l (x : Str) : x.length = x.cps.toList.length := by simp [Str.length]
theorem asc_all {x : Str} : asc x = true ↔ ∀ c ∈ x.cps.toList, c < 128 := by
  unfold asc
  rw [List.all_eq_true]
  exact ⟨fun h c hc => of_decide_eq_true (h c hc), fun h c hc => decide_eq_true (h c hc)⟩
theorem tl_app (a b : Str) : (a ++ b).cps.toList = a.cps.toList ++ b.cps.toList := by
  show (a.cps ++ b.cps).toList = _
  exact Array.toList_append
theorem St.mono {m n : Nat} {x : Str} (s : St m x) (h : m ≤ n) : St n x := ⟨s.1, Nat.le_trans s.2 h⟩
theorem St.app {m n : Nat} {a b : Str} (s : St m a) (t : St n b) : St (m + n) (a ++ b) := by
  refine ⟨asc_all.mpr fun c hc => ?_, ?_⟩
  · rw [tl_app] at hc
    rcases List.mem_append.mp hc with hc | hc
    · exact asc_all.mp s.1 c hc
    · exact asc_all.mp t.1 c hc
  · rw [len_l, tl_app, List.length_append, ← len_l, ← len_l]
    have := s.2
    have := t.2
    omega
theorem St.cut {n : Nat} {a : Str} (s : St n a) (lo hi : Option Int) : St n (cutS a lo hi) := by
  refine ⟨asc_all.mpr fun c hc => asc_all.mp s.1 c ?_, Nat.le_trans (cutS_length a lo hi) s.2⟩
  exact List.mem_of_mem_drop (List.mem_of_mem_take (by simpa [cutS] using hc))
theorem St.up {n : Nat} {a : Str} (s : St n a) : St n (Txt.upper a) := by
  have ha := asc_all.mp s.1
  rw [upper_ascii ha]
  refine ⟨asc_all.mpr fun c hc => ?_, ?_⟩
  · rw [Array.toList_map] at hc
    obtain ⟨d, hd, rfl⟩ := List.mem_map.mp hc
    have z := ha d hd
    unfold up1
    split <;> omega
  · have := s.2
    rw [len_l] at this ⊢
    simpa using this
theorem St.join {n : Nat} : ∀ {ys : List Str}, (∀ y ∈ ys, St n y) → St (n * ys.length) (Txt.join (Str.ofString "") ys) := by
  intro ys h
  rw [show Txt.join (Str.ofString "") ys = Str.join (Str.ofString "") ys from TL.join_eq _ ys]
  induction ys with
  | nil => exact ⟨rfl, Nat.zero_le _⟩
  | cons x r ih =>
    have hx := h x List.mem_cons_self
    have hr := ih fun y hy => h y (List.mem_cons_of_mem _ hy)
    cases r with
    | nil => exact hx.mono (by simp)
    | cons z r =>
      show St _ (x ++ Str.ofString "" ++ Str.join (Str.ofString "") (z :: r))
      refine ((hx.app (n := 0) (show St 0 (Str.ofString "") from ⟨rfl, Nat.le_refl _⟩)).app hr).mono ?_
      have e : n * (x :: z :: r).length = n * (z :: r).length + n := Nat.mul_succ _ _
      rw [e]
      omega
/-! ### data of ASCII texts, small ints, empty dicts -/
mutual
def okD : PyData → Bool
  | .none => true
  | .bool _ => true
  | .int i => decide (i.natAbs < 1000)
  | .str x => asc x
  | .list ds => okDL ds
  | .tuple ds => okDL ds
  | .dict ps => ps.isEmpty
def okDL : List PyData → Bool
  | [] => true
  | d :: ds => okD d && okDL ds
end
mutual
theorem okD_short : ∀ d : PyData, okD d = true → d.leavesShort 13 = true
  | .none, _ => rfl
  | .bool _, _ => rfl
  | .int i, h => by
    simp only [okD, decide_eq_true_eq] at h
    simp only [PyData.leavesShort, decide_eq_true_eq]
    exact PyData.shown_int_le (by omega)
  | .str x, h => by
    simp only [okD] at h
    have := asc_all.mp h
    simp only [PyData.leavesShort, List.all_eq_true, decide_eq_true_eq]
    intro c hc
    exact Nat.lt_trans (this c hc) (by decide)
  | .list ds, h => by
    simp only [okD] at h
    simp only [PyData.leavesShort]
    exact okDL_short ds h
  | .tuple ds, h => by
    simp only [okD] at h
    simp only [PyData.leavesShort]
    exact okDL_short ds h
  | .dict ps, h => by
    simp only [okD, List.isEmpty_iff] at h
    subst h
    rfl
theorem okDL_short : ∀ ds : List PyData, okDL ds = true → PyData.leavesShortAll 13 ds = true
  | [], _ => rfl
  | d :: ds, h => by
    simp only [okDL, Bool.and_eq_true] at h
    simp only [PyData.leavesShortAll, Bool.and_eq_true]
    exact ⟨okD_short d h.1, okDL_short ds h.2⟩
end
theorem len_wt {ds : List PyData} : ds.length ≤ PyData.weightAll ds := by
  induction ds with
  | nil => exact Nat.zero_le _
  | cons d ds ih =>
    simp only [List.length_cons, PyData.weightAll]
    omega
theorem small_log {i : Int} (h : i.natAbs < 1000) : i.natAbs.log2 < 1920 := by
  by_cases z : i.natAbs = 0
  · rw [z]; decide
  · have := Nat.log2_self_le z
    have h2 : i.natAbs.log2 < 10 := by
      rcases Nat.lt_or_ge i.natAbs.log2 10 with a | a
      · exact a
      · have := Nat.pow_le_pow_right (show 0 < 2 by decide) a
        omega
    omega
mutual
theorem okD_fits : ∀ d : PyData, okD d = true → d.weight ≤ 2 ^ 20 → fits d = true
  | .none, _, _ => rfl
  | .bool _, _, _ => rfl
  | .int i, h, _ => by
    simp only [okD, decide_eq_true_eq] at h
    simp only [fits, decide_eq_true_eq]
    exact small_log h
  | .str x, h, w => by
    have := PyData.shown_fits (B := 13) (by decide) (by decide) (okD_short (.str x) h) w
    simp only [fits, decide_eq_true_eq]
    simpa [PyData.shown] using this
  | .list ds, h, w => by
    simp only [okD] at h
    simp only [PyData.weight] at w
    simp only [fits]
    exact okDL_fits ds h w
  | .tuple ds, h, w => by
    simp only [okD] at h
    simp only [PyData.weight] at w
    simp only [fits]
    exact okDL_fits ds h w
  | .dict ps, h, _ => by
    simp only [okD, List.isEmpty_iff] at h
    subst h
    rfl
theorem okDL_fits : ∀ ds : List PyData, okDL ds = true → PyData.weightAll ds ≤ 2 ^ 20 → fitsL ds = true
  | [], _, _ => rfl
  | d :: ds, h, w => by
    simp only [okDL, Bool.and_eq_true] at h
    simp only [PyData.weightAll] at w
    simp only [fitsL, Bool.and_eq_true]
    exact ⟨okD_fits d h.1 (by omega), okDL_fits ds h.2 (by omega)⟩
end
/-- d lies in these bounds -/
structure Bd (m n : Nat) (d : PyData) : Prop where
  ok : okD d = true
  dep : d.depth ≤ m
  wt : d.weight ≤ n
structure BdL (m n : Nat) (ds : List PyData) : Prop where
  ok : okDL ds = true
  dep : PyData.depthAll ds ≤ m
  wt : PyData.weightAll ds ≤ n
section
variable {m n m1 m2 n1 n2 : Nat} {d : PyData} {ds : List PyData} {K : PySem.W.Frag} {G G' H H' : Hp} {v : V} {vs : List V} {a : Addr} {x : Str}
theorem Bd.mono (b : Bd m n d) (h1 : m ≤ m1) (h2 : n ≤ n1) : Bd m1 n1 d := ⟨b.ok, Nat.le_trans b.dep h1, Nat.le_trans b.wt h2⟩
theorem BdL.nil : BdL 0 0 [] := ⟨rfl, Nat.le_refl _, Nat.le_refl _⟩
theorem BdL.cons (b : Bd m1 n1 d) (c : BdL m2 n2 ds) : BdL (max m1 m2) (n1 + 1 + n2) (d :: ds) := by
  refine ⟨by simp only [okDL, b.ok, c.ok, Bool.and_true], ?_, ?_⟩
  · simp only [PyData.depthAll]
    have := b.dep
    have := c.dep
    omega
  · simp only [PyData.weightAll]
    have := b.wt
    have := c.wt
    omega
theorem BdL.tup (b : BdL m n ds) : Bd (m + 1) n (.tuple ds) := ⟨by simp only [okD]; exact b.ok, by simp only [PyData.depth]; have := b.dep; omega, by simp only [PyData.weight]; exact b.wt⟩
theorem BdL.lst (b : BdL m n ds) : Bd (m + 1) n (.list ds) := ⟨by simp only [okD]; exact b.ok, by simp only [PyData.depth]; have := b.dep; omega, by simp only [PyData.weight]; exact b.wt⟩
theorem Bd.untup (b : Bd m n (.tuple ds)) : BdL (m - 1) n ds := ⟨by have := b.ok; simpa only [okD] using this, by have := b.dep; simp only [PyData.depth] at this; omega, by have := b.wt; simpa only [PyData.weight] using this⟩
theorem Bd.unlst (b : Bd m n (.list ds)) : BdL (m - 1) n ds := ⟨by have := b.ok; simpa only [okD] using this, by have := b.dep; simp only [PyData.depth] at this; omega, by have := b.wt; simpa only [PyData.weight] using this⟩
theorem BdL.mem : ∀ {ds : List PyData}, BdL m n ds → ∀ d ∈ ds, Bd m n d
  | [], _, _, h => nomatch h
  | e :: ds, b, d, h => by
    have h1 := b.ok
    have h2 := b.dep
    have h3 := b.wt
    simp only [okDL, Bool.and_eq_true] at h1
    simp only [PyData.depthAll] at h2
    simp only [PyData.weightAll] at h3
    rcases List.mem_cons.mp h with rfl | h
    · exact ⟨h1.1, by omega, by omega⟩
    · exact BdL.mem (ds := ds) ⟨h1.2, by omega, by omega⟩ d h
theorem Bd.str (s : St n x) : Bd 0 n (.str x) := ⟨by simp only [okD]; exact s.1, by simp only [PyData.depth]; omega, by simp only [PyData.weight]; exact s.2⟩
theorem Bd.unstr (b : Bd m n (.str x)) : St n x := ⟨by have := b.ok; simpa only [okD] using this, by have := b.wt; simp only [PyData.weight] at this; exact this⟩
/-- v is data in these bounds -/
def Fn (K : PySem.W.Frag) (G : Hp) (m n : Nat) (v : V) : Prop := ∃ d, Dt K G v d ∧ Bd m n d
def FnL (K : PySem.W.Frag) (G : Hp) (m n : Nat) (vs : List V) : Prop := ∃ ds, DtL K G vs ds ∧ BdL m n ds
theorem Fn.mono (f : Fn K G m1 n1 v) (h1 : m1 ≤ m) (h2 : n1 ≤ n) : Fn K G m n v := let ⟨d, a, b⟩ := f; ⟨d, a, b.mono h1 h2⟩
theorem Fn.same (f : Fn K G m n v) (s : Same G G') : Fn K G' m n v := let ⟨d, a, b⟩ := f; ⟨d, a.mono s, b⟩
theorem FnL.same (f : FnL K G m n vs) (s : Same G G') : FnL K G' m n vs := let ⟨d, a, b⟩ := f; ⟨d, a.mono s, b⟩
theorem FnL.mono (f : FnL K G m1 n1 vs) (h1 : m1 ≤ m) (h2 : n1 ≤ n) : FnL K G m n vs := let ⟨d, a, b⟩ := f; ⟨d, a, b.ok, Nat.le_trans b.dep h1, Nat.le_trans b.wt h2⟩
theorem Fn.str (s : St n x) : Fn K G 0 n (.str x) := ⟨_, .str x, Bd.str s⟩
theorem Fn.non : Fn K G 0 0 .non := ⟨_, .non, rfl, Nat.le_refl _, Nat.le_refl _⟩
theorem Fn.bl {c : Bool} : Fn K G 0 0 (.bl c) := ⟨_, .bl c, rfl, Nat.le_refl _, Nat.le_refl _⟩
theorem Fn.int {i : Int} (h : i.natAbs < 1000) : Fn K G 0 10 (.int i) := ⟨_, .int i, by simp only [okD, h, decide_true], by simp only [PyData.depth]; omega, by
  simp only [PyData.weight]
  split
  · omega
  · rename_i z
    have z2 : i.natAbs ≠ 0 := fun e => z (by rw [Int.natAbs_eq_zero.mp e]; rfl)
    rcases Nat.lt_or_ge i.natAbs.log2 10 with a | a
    · exact a
    · have := Nat.pow_le_pow_right (show 0 < 2 by decide) a
      have := Nat.log2_self_le z2
      omega⟩
theorem FnL.nil : FnL K G 0 0 [] := ⟨_, .nil, BdL.nil⟩
theorem FnL.cons (f : Fn K G m1 n1 v) (g : FnL K G m2 n2 vs) : FnL K G (max m1 m2) (n1 + 1 + n2) (v :: vs) := let ⟨_, a, b⟩ := f; let ⟨_, c, e⟩ := g; ⟨_, .cons a c, BdL.cons b e⟩
theorem FnL.tup (f : FnL K G m n vs) (h : SqT K G a vs) : Fn K G (m + 1) n (.ref a) := let ⟨_, a, b⟩ := f; ⟨_, .tup h a, b.tup⟩
theorem FnL.lst (f : FnL K G m n vs) (h : SqL K G a vs) : Fn K G (m + 1) n (.ref a) := let ⟨_, a, b⟩ := f; ⟨_, .lst h a, b.lst⟩
theorem FnL.len (f : FnL K G m n vs) : vs.length ≤ n := by
  obtain ⟨ds, a, b⟩ := f
  rw [a.length]
  exact Nat.le_trans len_wt b.wt
theorem DtL.mem : ∀ {vs : List V} {ds : List PyData}, DtL K G vs ds → ∀ v ∈ vs, ∃ d ∈ ds, Dt K G v d
  | _, _, .nil, _, h => nomatch h
  | _, _, .cons h t, v, hv => by
    rcases List.mem_cons.mp hv with rfl | hv
    · exact ⟨_, List.mem_cons_self, h⟩
    · obtain ⟨d, hd, q⟩ := t.mem v hv
      exact ⟨d, List.mem_cons_of_mem _ hd, q⟩
theorem FnL.mem (f : FnL K G m n vs) : ∀ v ∈ vs, Fn K G m n v := by
  obtain ⟨ds, a, b⟩ := f
  intro v hv
  obtain ⟨d, hd, q⟩ := a.mem v hv
  exact ⟨d, q, b.mem d hd⟩
/-- of items, each within bounds -/
theorem FnL.all : ∀ {vs : List V}, (∀ v ∈ vs, Fn K G m n v) → FnL K G m ((n + 1) * vs.length) vs
  | [], _ => FnL.nil.mono (Nat.zero_le _) (Nat.zero_le _)
  | v :: vs, h => by
    have z := (FnL.cons (h v List.mem_cons_self) (FnL.all fun w hw => h w (List.mem_cons_of_mem _ hw)))
    refine z.mono (by omega) ?_
    rw [List.length_cons, Nat.mul_add]
    omega
theorem FnL.strs {xs : List Str} (h : ∀ x ∈ xs, St n x) : FnL K G 0 ((n + 1) * xs.length) (xs.map V.str) := by
  have z := FnL.all (K := K) (G := G) (vs := xs.map V.str) (m := 0) (n := n) (fun v hv => by
    obtain ⟨x, hx, rfl⟩ := List.mem_map.mp hv
    exact Fn.str (h x hx))
  rwa [List.length_map] at z
/-- repr of bounded data -/
theorem x_reprB {Q : VK} (h : Dt K H v d) (b : Bd m n d) (hm : m ≤ 60) (hn : n ≤ 2 ^ 20) (q : Q (.str d.shown) H) : rRepr K [v] H Q :=
  x_repr h (okD_fits d b.ok (Nat.le_trans b.wt hn)) (PyData.shown_fits (B := 13) (by decide) (by decide) (okD_short d b.ok) (Nat.le_trans b.wt hn)) (Nat.le_trans b.dep hm) q
end
/-! ### expressions that bring bounded data, whatever is ours -/
section
variable {K : PySem.W.Frag} {G0 : Hp} {σ : L2.St} {m n m1 n1 m2 n2 B B1 B2 : Nat} {te tf : TE} {t : TA} {v : V} {x : Str}
def FT (K : PySem.W.Frag) (G0 : Hp) (σ : L2.St) (m n : Nat) (te : TE) : Prop := ∀ (G H : Hp) (L : List (Addr × HO)) (Q : VK), Same G0 G → Own G H L → (∀ G' H' v, Same G G' → Own G' H' L → Fn K G' m n v → Q v H') → te σ H Q
def FA (K : PySem.W.Frag) (G0 : Hp) (σ : L2.St) (m n : Nat) (t : TA) : Prop := ∀ (G H : Hp) (L : List (Addr × HO)) (Q : List V → Hp → Prop), Same G0 G → Own G H L → (∀ G' H' vs, Same G G' → Own G' H' L → FnL K G' m n vs → Q vs H') → t σ H Q
theorem FT.mono (f : FT K G0 σ m1 n1 te) (h1 : m1 ≤ m) (h2 : n1 ≤ n) : FT K G0 σ m n te := fun G H L Q s O k => f G H L Q s O fun G' H' v s' O' q => k G' H' v s' O' (q.mono h1 h2)
theorem ft_var {i : Nat} (h : σ[i]? = some (some v)) (f : Fn K G0 m n v) : FT K G0 σ m n (tVar i) := fun G _ _ _ s O k => x_var h (k G _ v (Same.refl G) O (f.same s))
theorem ft_str (h : St n x) : FT K G0 σ 0 n (tC (.str x)) := fun G _ _ _ _ O k => x_c (k G _ _ (Same.refl G) O (Fn.str h))
theorem ft_non : FT K G0 σ 0 0 (tC .non) := fun G _ _ _ _ O k => x_c (k G _ _ (Same.refl G) O Fn.non)
theorem ft_bl {c : Bool} : FT K G0 σ 0 0 (tC (.bl c)) := fun G _ _ _ _ O k => x_c (k G _ _ (Same.refl G) O Fn.bl)
theorem ft_int {i : Int} (h : i.natAbs < 1000) : FT K G0 σ 0 10 (tC (.int i)) := fun G _ _ _ _ O k => x_c (k G _ _ (Same.refl G) O (Fn.int h))
theorem fa_nil : FA K G0 σ 0 0 tNil := fun G _ _ _ _ O k => x_anil (k G _ _ (Same.refl G) O FnL.nil)
theorem fa_cons (f : FT K G0 σ m1 n1 te) (g : FA K G0 σ m2 n2 t) : FA K G0 σ (max m1 m2) (n1 + 1 + n2) (tCons te t) := fun G H L Q s O k =>
  x_acons (f G H L _ s O fun G1 H1 v s1 O1 q1 => g G1 H1 L _ (s.trans s1) O1 fun G2 H2 vs s2 O2 q2 => k G2 H2 _ (s1.trans s2) O2 (FnL.cons (q1.same s2) q2))
theorem sz20 {a : Nat} (h : a ≤ 2 ^ 20) : a ≤ sizeLine := by rw [sizeLine_eq]; omega
theorem ft_tup (f : FA K G0 σ m n t) (hn : n ≤ 2 ^ 20) : FT K G0 σ (m + 1) n (dTup t) := fun G H L Q s O k =>
  x_tup (f G H L _ s O fun G1 H1 vs s1 O1 q1 => ⟨sz20 (Nat.le_trans q1.len hn), x_fix O1 fun p G2 H2 s2 O2 e => k G2 H2 _ (s1.trans s2) O2 ((q1.same s2).tup (SqT.of e))⟩)
theorem ft_lst (f : FA K G0 σ m n t) (hn : n ≤ 2 ^ 20) : FT K G0 σ (m + 1) n (dLst t) := fun G H L Q s O k =>
  x_lst (f G H L _ s O fun G1 H1 vs s1 O1 q1 => ⟨sz20 (Nat.le_trans q1.len hn), x_fix O1 fun p G2 H2 s2 O2 e => k G2 H2 _ (s1.trans s2) O2 ((q1.same s2).lst (SqL.of e))⟩)
theorem ft_dict : FT K G0 σ 1 0 dDict := fun G H L Q s O k => x_dict (x_fix O fun p G2 H2 s2 O2 e => k G2 H2 _ s2 O2 ⟨.dict [], .dic e .nil .nil, by simp only [okD, List.isEmpty_nil], by simp only [PyData.depth, PyData.depthKv]; omega, by simp only [PyData.weight, PyData.weightKv]; omega⟩)
/-- a list of our own making: B items, each in bounds -/
def Ls (K : PySem.W.Frag) (G : Hp) (m n B : Nat) (v : V) : Prop := ∃ p xs, v = .ref p ∧ G p = some (.lst xs) ∧ xs.length = B ∧ ∀ y ∈ xs, Fn K G m n y
theorem Ls.same {G G' : Hp} (l : Ls K G m n B v) (s : Same G G') : Ls K G' m n B v := let ⟨p, xs, e, h, z, a⟩ := l; ⟨p, xs, e, s _ _ h, z, fun y hy => (a y hy).same s⟩
def LT (K : PySem.W.Frag) (G0 : Hp) (σ : L2.St) (m n B : Nat) (te : TE) : Prop := ∀ (G H : Hp) (L : List (Addr × HO)) (Q : VK), Same G0 G → Own G H L → (∀ G' H' v, Same G G' → Own G' H' L → Ls K G' m n B v → Q v H') → te σ H Q
def LA (K : PySem.W.Frag) (G0 : Hp) (σ : L2.St) (m n B : Nat) (t : TA) : Prop := ∀ (G H : Hp) (L : List (Addr × HO)) (Q : List V → Hp → Prop), Same G0 G → Own G H L → (∀ G' H' vs, Same G G' → Own G' H' L → vs.length = B → (∀ y ∈ vs, Fn K G' m n y) → Q vs H') → t σ H Q
theorem la_nil : LA K G0 σ m n 0 tNil := fun G _ _ _ _ O k => x_anil (k G _ _ (Same.refl G) O rfl fun _ z => nomatch z)
theorem la_cons (f : FT K G0 σ m1 n1 te) (g : LA K G0 σ m n B t) (h1 : m1 ≤ m) (h2 : n1 ≤ n) : LA K G0 σ m n (B + 1) (tCons te t) := fun G H L Q s O k =>
  x_acons (f G H L _ s O fun G1 H1 v s1 O1 q1 => g G1 H1 L _ (s.trans s1) O1 fun G2 H2 vs s2 O2 z q2 => k G2 H2 _ (s1.trans s2) O2 (by rw [List.length_cons]; omega) fun y hy => by
    rcases List.mem_cons.mp hy with rfl | hy
    · exact (q1.same s2).mono h1 h2
    · exact q2 y hy)
theorem lt_lst (f : LA K G0 σ m n B t) (hn : B ≤ 2 ^ 20) : LT K G0 σ m n B (dLst t) := fun G H L Q s O k =>
  x_lst (f G H L _ s O fun G1 H1 vs s1 O1 z q1 => ⟨sz20 (Nat.le_trans (Nat.le_of_eq z) hn), x_fix O1 fun p G2 H2 s2 O2 e => k G2 H2 _ (s1.trans s2) O2 ⟨p, vs, rfl, e, z, fun y hy => (q1 y hy).same s2⟩⟩)
theorem lt_var {i : Nat} (h : σ[i]? = some (some v)) (f : Ls K G0 m n B v) : LT K G0 σ m n B (tVar i) := fun G _ _ _ s O k => x_var h (k G _ v (Same.refl G) O (f.same s))
theorem lt_add (f : LT K G0 σ m n B1 te) (g : LT K G0 σ m n B2 tf) (hn : B1 + B2 ≤ 2 ^ 20) : LT K G0 σ m n (B1 + B2) (tOp (aAdd K) te tf) := fun G H L Q s O k =>
  x_op (f G H L _ s O fun G1 H1 v s1 O1 l1 => g G1 H1 L _ (s.trans s1) O1 fun G2 H2 w s2 O2 l2 => by
    obtain ⟨p, xs, rfl, hp, z1, a1⟩ := l1.same s2
    obtain ⟨q, ys, rfl, hq, z2, a2⟩ := l2
    refine x_addl (O2.sub _ _ hp) (O2.sub _ _ hq) (sz20 (by omega)) (x_fix O2 fun r G3 H3 s3 O3 e => k G3 H3 _ ((s1.trans s2).trans s3) O3 ⟨r, _, rfl, e, by rw [List.length_append]; omega, fun y hy => ?_⟩)
    rcases List.mem_append.mp hy with hy | hy
    · exact (a1 y hy).same s3
    · exact (a2 y hy).same s3)
theorem ft_addsv {i : Nat} {a : Str} (h : σ[i]? = some (some (.str x))) (sx : St m x) (sa : St n a) (hz : n + m ≤ 2 ^ 20) : FT K G0 σ 0 (n + m) (tOp (aAdd K) (tC (.str a)) (tVar i)) := fun G _ _ _ s O k =>
  x_op (x_c (x_var h (x_adds (sz20 (by have := sx.2; have := sa.2; omega)) (k G _ _ (Same.refl G) O (Fn.str (sa.app sx))))))
end
end G
set_option maxHeartbeats 4000000
/-! Part K: the rules with the fragment named, for use within comprehensions. -/
namespace G
open PySem PySem.Spec PyProof.Rows L2
section
variable {X : Cx} {K : PySem.W.Frag} {k : Nat} {te : TE} {e tg : Expr}
theorem oAddK (h : X.K = K) : OpR X (binaryOp .Add) (aAdd K) := h ▸ oAdd
theorem oEqK (h : X.K = K) (r : Rm k X.A) : OpR X (compareOp .Eq) (aEq K) := h ▸ oEq r.q
theorem oEqQ (h : X.K = K) (r : Rq X.A) : OpR X (compareOp .Eq) (aEq K) := h ▸ oEq r
theorem oNeK (h : X.K = K) (r : Rm k X.A) : OpR X (compareOp .NotEq) (aNe K) := h ▸ oNe r.q
theorem oNeQ (h : X.K = K) (r : Rq X.A) : OpR X (compareOp .NotEq) (aNe K) := h ▸ oNe r
theorem oInK (h : X.K = K) : OpR X (compareOp .In) (rIn K false) := h ▸ oIn
theorem oNinK (h : X.K = K) : OpR X (compareOp .NotIn) (rIn K true) := h ▸ oNin
theorem oSlK (h : X.K = K) : SlR X (aSl K) := h ▸ oSl
theorem cLenK (h : X.K = K) : CallR X (.builtin "len") (aLen K) := h ▸ cLen
theorem cListK (h : X.K = K) : CallR X (.type "list") (aList K) := h ▸ cList
theorem cTupleK (h : X.K = K) : CallR X (.type "tuple") (aTuple K) := h ▸ cTuple
theorem cIsiK (h : X.K = K) : CallR X (.builtin "isinstance") (aIsi K) := h ▸ cIsi
theorem cSortedK (h : X.K = K) : CallR X (.builtin "sorted") (aSorted K) := h ▸ cSorted
theorem cReprK (h : X.K = K) (r : Rm k X.A) : CallR X (.builtin "repr") (rRepr K) := h ▸ call_repr r.q
theorem cReprQ (h : X.K = K) (r : Rq X.A) : CallR X (.builtin "repr") (rRepr K) := h ▸ call_repr r
theorem cSumK (h : X.K = K) (c : X.calm = true) : CallR X (.builtin "sum") (rSum K) := h ▸ cr_sum c
theorem cAllK (h : X.K = K) (c : X.calm = true) : CallR X (.builtin "all") (rAll K) := h ▸ cr_all c
theorem cMaxK (h : X.K = K) (c : X.calm = true) : CallR X (.builtin "max") (rMax K) := h ▸ cr_max c
theorem cMinK (h : X.K = K) (c : X.calm = true) : CallR X (.builtin "min") (rMin K) := h ▸ cr_min c
theorem pg_tupK {es : List Expr} {k n : Nat} {t : TGs} {pos : Pos} (h : X.K = K) (hc : X.calm = true) (z : PGs X es t)
    (hn : (assignEach es X.env).length = n := by rfl) (hst : (assignEach es X.env).findIdx? (·.1) = none := by rfl) : PG X (.Tuple es k pos) (gTup K n t) := h ▸ pg_tup hc z hn hst
theorem mJoinK (h : X.K = K) : MtR X "str.join" (aJoin K) := h ▸ mJoin
theorem ixK (h : X.K = K) : IxR X (rIx K) := h ▸ ix_seq
theorem d_revLK {n : Nat} {p1 p2 p3 pos : Pos} (h : X.K = K) (he : PE X e te) : PE X (.Subscript e (.Slice none none (some (.UnaryOp .USub (.Constant (.int 1) n p1) p2)) p3) pos) (aRevL K te) := h ▸ d_revL he
theorem pi_sqK (h : X.K = K) (he : PE X e te) : PI X tg e (iSq K te) := h ▸ pi_sq he
theorem pt_truK (h : X.K = K) {a : Expr} {ta : TE} (ha : PE X a ta) (he : ∀ whole, isTrue a X.env whole = (do let v ← whole; standAt a.pos; holding [v] (truthy v)) := by intro _; rfl) : PT X a (tTru K ta) := h ▸ pt_tru ha he
theorem pe_bm0K' {T name : Str} {id : String} {r : V → List V → Hp → VK → Prop} {o : Expr} {to : TE} {apos cpos : Pos} {Ty : String} (h : X.K = K) (pa : PlainAttrs Ty) (slot : Slot Ty name id) (hty : typeOf (.builtin id) = pure (.type "method_descriptor")) (hm : MtR X id r) (ho : PE X o to)
    (hbase : attributeBase o name X.env (eval o X.env) = eval o X.env := by rfl) (hline : (apos.endLine == cpos.line) = true := by rfl) : PE X (.Call (.Attribute o name apos) [] [] cpos) (tBM0 K Ty r to) := h ▸ pe_bm0 pa slot hty hm ho hbase hline
theorem pe_bmK' {name : Str} {id : String} {r : V → List V → Hp → VK → Prop} {o : Expr} {es : List Expr} {to : TE} {t : TA} {apos cpos : Pos} {Ty : String} (h : X.K = K) (pa : PlainAttrs Ty) (slot : Slot Ty name id) (hty : typeOf (.builtin id) = pure (.type "method_descriptor")) (hm : MtR X id r) (ho : PE X o to) (ha : PA X (e :: es) t)
    (hbase : attributeBase o name X.env (eval o X.env) = eval o X.env := by rfl)
    (hfew : ((backTo cpos (starEach (e :: es) X.env)).all (fun x => !x.1) && (backToKw cpos (keywordEach [] X.env)).all (fun x => x.1.isSome)
      && decide ((e :: es).length + ([] : List Keyword).length + (if ([] : List Keyword).isEmpty then 0 else 1) < 30)) = true := by rfl)
    (hline : (apos.endLine == cpos.line) = true := by rfl) (hs : starEach (e :: es) X.env = (false, eval e X.env) :: starEach es X.env := by rfl) (hplain : (backTo cpos (starEach es X.env)).any (·.1) = false := by rfl) :
    PE X (.Call (.Attribute o name apos) (e :: es) [] cpos) (tBM K Ty r to t) := h ▸ pe_bm pa slot hty hm ho ha hbase hfew hline hs hplain
end
section
variable {σ : L2.St} {H : Hp} {v : V} {q : L2.St → Hp → Prop}
theorem x_gT {K : PySem.W.Frag} {n : Nat} {t : TGs} {p : Addr} {xs : List V} (h : SqT K H p xs) (hl : xs.length = n) (z : t xs σ H q) : gTup K n t (.ref p) σ H q := ⟨p, xs, rfl, h, hl, z⟩
theorem x_gC {t : TG} {u : TGs} {r : List V} (z : t v σ H fun σ' H' => u r σ' H' q) : gCons t u (v :: r) σ H q := ⟨v, r, rfl, z⟩
theorem x_gNl (z : q σ H) : gNil [] σ H q := ⟨rfl, z⟩
theorem x_gN {m : Nat} {σ' : L2.St} (hs : σ.set m (some v) = σ') (h : q σ' H) : gName m v σ H q := by
  show q (σ.set m (some v)) H
  rw [hs]
  exact h
variable {n b1 c1 : L2.St → Hp → Prop} {r1 : VK}
theorem x_start {N : List Str} {vs : List V} {t : TS} {D : Ends} {σ' : L2.St} (hs : L2.start N vs = σ') (h : t D σ' H) : t D (L2.start N vs) H := by rw [hs]; exact h
theorem x_asgN {te : TE} {m : Nat} {σ' : V → L2.St} (hs : ∀ x, σ.set m (some x) = σ' x) (h : te σ H fun x H1 => n (σ' x) H1) : tAsg te (gName m) ⟨n, r1, b1, c1⟩ σ H := by
  refine x_asg ?_
  simp only [hs]
  exact h
theorem x_parN {m l : Nat} {ta : TA} {σ' : V → V → L2.St} (hs : ∀ v w, (σ.set m (some v)).set l (some w) = σ' v w) (h : ta σ H fun vs H1 => ∃ v w, vs = [v, w] ∧ n (σ' v w) H1) : tPar m l ta ⟨n, r1, b1, c1⟩ σ H := by
  refine x_par ?_
  simp only [hs]
  exact h
theorem x_par3N {m l o : Nat} {ta : TA} {σ' : V → V → V → L2.St} (hs : ∀ u v w, ((σ.set m (some u)).set l (some v)).set o (some w) = σ' u v w) (h : ta σ H fun vs H1 => ∃ u v w, vs = [u, v, w] ∧ n (σ' u v w) H1) : tPar3 m l o ta ⟨n, r1, b1, c1⟩ σ H := by
  refine x_par3 ?_
  simp only [hs]
  exact h
end
end G
set_option maxHeartbeats 4000000
/-! Part L: comprehensions by what each element brings. -/
namespace G
open PySem PySem.Spec PyProof.Rows L2
theorem map_eras {α β : Type} (f : α → β) : ∀ (l : List α) (n : Nat), (l.eraseIdx n).map f = (l.map f).eraseIdx n
  | [], _ => rfl
  | _ :: _, 0 => rfl
  | a :: l, n + 1 => by rw [List.eraseIdx_cons_succ, List.map_cons, List.map_cons, List.eraseIdx_cons_succ, map_eras f l n]
theorem perm_eras {α : Type} : ∀ (l : List α) (n : Nat) (h : n < l.length), (l[n] :: l.eraseIdx n).Perm l
  | [], _, h => absurd h (Nat.not_lt_zero _)
  | _ :: _, 0, _ => List.Perm.refl _
  | a :: l, n + 1, h => (List.Perm.swap a _ _).trans (List.Perm.cons a (perm_eras l n (Nat.lt_of_succ_lt_succ h)))
theorem seqIndex?_nat {n m : Nat} (h : n < m) : seqIndex? (n : Int) m = some n := by
  unfold seqIndex?
  simp only [show ¬ ((n : Int) < 0) by omega, if_false]
  simp [h]
/-! a statement after which only one variable and the heap matter -/
theorem x_cutV {A : TS} {σ : L2.St} {H : Hp} {n b1 c1 : L2.St → Hp → Prop} {r1 : VK} {σ' : V → L2.St} (m : Nat) (hs : ∀ x, σ.set m (some x) = σ' x) (R : V → Hp → Prop) (h2 : ∀ n : L2.St → Hp → Prop, (∀ v H, R v H → n (σ' v) H) → A ⟨n, r1, b1, c1⟩ σ H)
    (h1 : ∀ v H, R v H → n (σ' v) H) : A ⟨n, r1, b1, c1⟩ σ H := h2 n h1
/-! lists by their items -/
theorem strs_of {P : Str → Prop} : ∀ {ys : List V}, (∀ y ∈ ys, ∃ x, y = .str x ∧ P x) → ∃ xs : List Str, ys = xs.map V.str ∧ ∀ x ∈ xs, P x
  | [], _ => ⟨[], rfl, fun _ z => nomatch z⟩
  | y :: ys, h => by
    obtain ⟨x, rfl, px⟩ := h y List.mem_cons_self
    obtain ⟨xs, rfl, q⟩ := strs_of fun z hz => h z (List.mem_cons_of_mem _ hz)
    exact ⟨x :: xs, rfl, fun z hz => by
      rcases List.mem_cons.mp hz with rfl | hz
      · exact px
      · exact q z hz⟩
theorem by_ix {α : Type} {P : α → Prop} {ys : List α} (h : ∀ (i : Nat) (y : α), ys[i]? = some y → P y) : ∀ y ∈ ys, P y := fun y hy => by
  obtain ⟨i, e⟩ := List.mem_iff_getElem?.mp hy
  exact h i y e
theorem eq_of_ix {α β : Type} {f : α → β} {xs : List α} {ys : List β} (hl : ys.length = xs.length) (h : ∀ (i : Nat) (y : β), ys[i]? = some y → ∃ x, xs[i]? = some x ∧ y = f x) : ys = xs.map f := by
  refine List.ext_getElem? fun i => ?_
  rw [List.getElem?_map]
  cases e : ys[i]? with
  | none =>
    have := List.getElem?_eq_none_iff.mp e
    rw [List.getElem?_eq_none (by omega)]
    rfl
  | some y =>
    obtain ⟨x, ex, rfl⟩ := h i y e
    rw [ex]
    rfl
theorem eq_of_rg {β : Type} {f : Nat → β} {n : Nat} {ys : List β} (hl : ys.length = n) (h : ∀ (i : Nat) (y : β), ys[i]? = some y → y = f i) : ys = (List.range n).map f := by
  refine eq_of_ix (by rw [List.length_range]; exact hl) fun i y e => ?_
  have := (List.getElem?_eq_some_iff.mp e).1
  exact ⟨i, by rw [List.getElem?_range (by omega)], h i y e⟩
section
variable {σ : L2.St} {H : Hp} {Q : VK} {K : PySem.W.Frag} {g : TG} {tt : TT} {te : TE} {vs : List Nat}
variable {J : It} {n : Nat} {Gd : Hp → Prop} {Y : Nat → Hp → V → Hp → Prop} {G : Hp} {L : List (Addr × HO)}
theorem lt_line {n : Nat} (h : n < 2 ^ 20) : n < sizeLine := by rw [sizeLine_eq]; omega
def PvM (L : List (Addr × HO)) (Rl : Hp → Nat → V → Prop) : Nat → Hp → List (Addr × HO) → List V → Prop := fun i G' L' acc => L' = L ∧ acc.length = i ∧ ∀ (j : Nat) (y : V), acc[j]? = some y → Rl G' j y
/-- no condition: what each element brings, kept -/
theorem lc_map {σw : L2.St} (hw : wipe σ vs = σw) (W : Walk J n Gd Y) (O : Own G H L) (hn : n ≤ 2 ^ 20) (Rl : Hp → Nat → V → Prop) (mono : ∀ G G' i y, Same G G' → Rl G i y → Rl G' i y)
    (hG : ∀ (G' H' : Hp) (D : Addr) (acc : List V), Same G G' → Own G' H' ((D, .lst acc) :: L) → Gd H')
    (st : ∀ (i : Nat) (x : V) (G' H' H2 : Hp) (D : Addr) (acc : List V), i < n → Same G G' → Own G' H' ((D, .lst acc) :: L) → Y i H' x H2 →
      (∀ y G4 H4, Same G' G4 → Own G4 H4 ((D, .lst acc) :: L) → Rl G4 i y → LcN G (PvM L Rl) D i y H4) → g x σw H2 fun σ2 H2 => wipe σ2 vs = σw ∧ te σ2 H2 (LcN G (PvM L Rl) D i))
    (gm : ∀ (x : V) (σ' : L2.St) (H' : Hp) (S S' : L2.St → Hp → Prop), (∀ a b, S a b → S' a b) → g x σ' H' S → g x σ' H' S')
    (fin : ∀ (G' H' : Hp) (p : Addr) (ys : List V), Same G G' → Own G' H' L → G' p = some (.lst ys) → ys.length = n → (∀ (i : Nat) (y : V), ys[i]? = some y → Rl G' i y) → Q (.ref p) H') : tLc (iAt J) g tYes te vs σ H Q := by
  subst hw
  refine lc_own rfl W O (PvM L Rl) ⟨rfl, rfl, fun j y e => by simp at e⟩ ?_ ?_ ?_
  · rintro i G' H' D L' acc s' O' ⟨rfl, _⟩
    exact hG G' H' D acc s' O'
  · rintro i x G' H' H2 D L' acc hi s' O' ⟨rfl, hl, hr⟩ y
    refine gm _ _ _ _ _ (fun a b => ?_) (st i x G' H' H2 D acc hi s' O' y ?_)
    · rintro ⟨e1, e2⟩
      exact ⟨e1, x_yes (ite_t e2)⟩
    · intro v G4 H4 s4 O4 r4
      refine lcn (s'.trans s4) O4 (lt_line (by omega)) ⟨rfl, by rw [List.length_append]; simp [hl], fun j w e => ?_⟩
      rcases Nat.lt_trichotomy j acc.length with h | h | h
      · rw [List.getElem?_append_left h] at e
        exact mono _ _ _ _ s4 (hr j w e)
      · subst h
        rw [List.getElem?_append_right (Nat.le_refl _), Nat.sub_self] at e
        cases e
        rw [hl]
        exact r4
      · rw [List.getElem?_eq_none (by rw [List.length_append]; simp; omega)] at e
        cases e
  · rintro G' H' D L' acc s' O' ⟨rfl, hl, hr⟩
    exact fin (upd G' D (.lst acc)) H' D acc (s'.trans (Same.new O'.no0)) O'.frz0 upd_same hl fun i y e => mono _ _ _ _ (Same.new O'.no0) (hr i y e)
theorem gm_name {m : Nat} : ∀ (x : V) (σ' : L2.St) (H' : Hp) (S S' : L2.St → Hp → Prop), (∀ a b, S a b → S' a b) → gName m x σ' H' S → gName m x σ' H' S' := fun _ _ _ _ _ h z => h _ _ z
def PvF (L : List (Addr × HO)) (xs : List V) (p : V → Bool) : Nat → Hp → List (Addr × HO) → List V → Prop := fun i _ L' acc => L' = L ∧ acc = (xs.take i).filter p
/-- the items of xs that p keeps -/
theorem lc_filt {σw : L2.St} (hw : wipe σ vs = σw) {xs : List V} {m : Nat} (W : Walk J xs.length Gd Y) (hY : ∀ i H x H', i < xs.length → Y i H x H' → H' = H ∧ xs[i]? = some x) (O : Own G H L) (hn : xs.length ≤ 2 ^ 20) (p : V → Bool)
    (hG : ∀ (G' H' : Hp) (D : Addr) (acc : List V), Same G G' → Own G' H' ((D, .lst acc) :: L) → Gd H')
    (st : ∀ (i : Nat) (x : V) (G' H' : Hp) (D : Addr) (acc : List V), i < xs.length → xs[i]? = some x → Same G G' → Own G' H' ((D, .lst acc) :: L) →
      (∀ G4 H4 σ4, Same G' G4 → Own G4 H4 ((D, .lst acc) :: L) → p x = true → σ4[m]? = some (some x) → tVar m σ4 H4 (LcN G (PvF L xs p) D i)) →
      (∀ G4 H4, Same G' G4 → Own G4 H4 ((D, .lst acc) :: L) → p x = false → PvH G (PvF L xs p) D (i + 1) H4) →
      g x σw H' fun σ2 H2 => wipe σ2 vs = σw ∧ tt σ2 H2 fun k H3 => if k = true then tVar m σ2 H3 (LcN G (PvF L xs p) D i) else PvH G (PvF L xs p) D (i + 1) H3)
    (fin : ∀ (G' H' : Hp) (q : Addr), Same G G' → Own G' H' L → G' q = some (.lst (xs.filter p)) → Q (.ref q) H') : tLc (iAt J) g tt (tVar m) vs σ H Q := by
  subst hw
  have tk : ∀ i x, xs[i]? = some x → xs.take (i + 1) = xs.take i ++ [x] := fun i x e => by
    rw [List.take_add_one, e]
    rfl
  refine lc_own rfl W O (PvF L xs p) ⟨rfl, rfl⟩ ?_ ?_ ?_
  · rintro i G' H' D L' acc s' O' ⟨rfl, _⟩
    exact hG G' H' D acc s' O'
  · rintro i x G' H' H2 D L' acc hi s' O' ⟨rfl, rfl⟩ yy
    obtain ⟨rfl, ex⟩ := hY _ _ _ _ hi yy
    refine st i x G' _ D _ hi ex s' O' ?_ ?_
    · intro G4 H4 σ4 s4 O4 px e4
      refine x_var e4 (lcn (s'.trans s4) O4 ?_ ⟨rfl, ?_⟩)
      · refine lt_line (Nat.lt_of_le_of_lt (List.length_filter_le _ _) ?_)
        rw [List.length_take]
        omega
      · rw [tk i x ex, List.filter_append]
        simp [px]
    · intro G4 H4 s4 O4 px
      refine ⟨G4, _, _, s'.trans s4, O4, rfl, ?_⟩
      rw [tk i x ex, List.filter_append]
      simp [px]
  · rintro G' H' D L' acc s' O' ⟨rfl, rfl⟩
    rw [List.take_length] at O'
    exact fin (upd G' D _) H' D (s'.trans (Same.new O'.no0)) O'.frz0 upd_same
end
end G
namespace G
open PySem PySem.Spec PyProof.Rows L2
/-! displays whose items all are of one kind -/
section
variable {G0 : Hp} {σ : L2.St} {m n : Nat} {te tf : TE} {t : TA} {K : PySem.W.Frag} {Pd : Hp → V → Prop}
def FP (G0 : Hp) (σ : L2.St) (Pd : Hp → V → Prop) (te : TE) : Prop := ∀ (G H : Hp) (L : List (Addr × HO)) (Q : VK), Same G0 G → Own G H L → (∀ G' H' v, Same G G' → Own G' H' L → Pd G' v → Q v H') → te σ H Q
def LP (G0 : Hp) (σ : L2.St) (Pd : Hp → V → Prop) (n : Nat) (t : TA) : Prop := ∀ (G H : Hp) (L : List (Addr × HO)) (Q : List V → Hp → Prop), Same G0 G → Own G H L → (∀ G' H' vs, Same G G' → Own G' H' L → vs.length = n → (∀ y ∈ vs, Pd G' y) → Q vs H') → t σ H Q
theorem lp_nil : LP G0 σ Pd 0 tNil := fun G _ _ _ _ O k => x_anil (k G _ _ (Same.refl G) O rfl fun _ z => nomatch z)
theorem lp_cons (mono : ∀ G G' v, Same G G' → Pd G v → Pd G' v) (f : FP G0 σ Pd te) (g : LP G0 σ Pd n t) : LP G0 σ Pd (n + 1) (tCons te t) := fun G H L Q s O k =>
  x_acons (f G H L _ s O fun G1 H1 v s1 O1 q1 => g G1 H1 L _ (s.trans s1) O1 fun G2 H2 vs s2 O2 z q2 => k G2 H2 _ (s1.trans s2) O2 (by rw [List.length_cons]; omega) fun y hy => by
    rcases List.mem_cons.mp hy with rfl | hy
    · exact mono _ _ _ s2 q1
    · exact q2 y hy)
def Lp (Pd : Hp → V → Prop) (n : Nat) (G : Hp) (v : V) : Prop := ∃ p xs, v = .ref p ∧ G p = some (.lst xs) ∧ xs.length = n ∧ ∀ y ∈ xs, Pd G y
theorem lp_lst (mono : ∀ G G' v, Same G G' → Pd G v → Pd G' v) (f : LP G0 σ Pd n t) (hn : n ≤ 2 ^ 20) : FP G0 σ (Lp Pd n) (dLst t) := fun G H L Q s O k =>
  x_lst (f G H L _ s O fun G1 H1 vs s1 O1 z q1 => ⟨sz20 (Nat.le_trans (Nat.le_of_eq z) hn), x_fix O1 fun p G2 H2 s2 O2 e => k G2 H2 _ (s1.trans s2) O2 ⟨p, vs, rfl, e, z, fun y hy => mono _ _ _ s2 (q1 y hy)⟩⟩)
end
end G
set_option maxHeartbeats 4000000
/-! Part M: types of data; sorted texts; lists with one item changed. -/
namespace G
open PySem PySem.Spec PyProof.Rows L2
def tyN : PyData → String
  | .none => "NoneType"
  | .bool _ => "bool"
  | .int _ => "int"
  | .str _ => "str"
  | .list _ => "list"
  | .tuple _ => "tuple"
  | .dict _ => "dict"
section
variable {K : PySem.W.Frag} {G H : Hp} {v : V} {d e : PyData} {ds : List PyData} {vs : List V} {Q : VK}
theorem ty_lst {a : Addr} {xs : List V} (h : SqL K H a xs) : TyX K H (.ref a) (.type "list") := by
  rcases h with (h | ⟨o, h⟩) | ⟨o, _, _, h, c, _⟩
  · exact .base (.lst h)
  · exact .base (.frz h)
  · exact .kList h c
theorem ty_tup {a : Addr} {xs : List V} (h : SqT K H a xs) : TyX K H (.ref a) (.type "tuple") := by
  rcases h with (h | ⟨o, h⟩) | ⟨o, _, _, h, c, _⟩
  · exact .base (.tup h)
  · exact .fTuple h
  · exact .kTuple h c
theorem Dt.ty (h : Dt K H v d) : TyX K H v (.type (tyN d)) := by
  cases h with
  | non => exact .base .non
  | bl b => exact .base (.bl b)
  | int i => exact .base (.int i)
  | str x => exact .base (.str x)
  | lst h _ => exact ty_lst h
  | tup h _ => exact ty_tup h
  | dic h _ _ => exact .base (.dK h)
theorem k1_tuple (d : PyData) : PySem.W.kitOne K (.type (tyN d)) (.type "tuple") = some (tyN d == "tuple") := by cases d <;> rfl
theorem k1_str (d : PyData) : PySem.W.kitOne K (.type (tyN d)) (.type "str") = some (tyN d == "str") := by cases d <;> rfl
theorem k1_list (d : PyData) : PySem.W.kitOne K (.type (tyN d)) (.type "list") = some (tyN d == "list") := by cases d <;> rfl
theorem x_isiT (h : Dt K H v d) (q : Q (.bl (tyN d == "tuple")) H) : aIsi K [v, .ty "tuple"] H Q := .inl ⟨v, _, _, _, _, rfl, .ty _, h.ty, k1_tuple d, q⟩
theorem x_isiS (h : Dt K H v d) (q : Q (.bl (tyN d == "str")) H) : aIsi K [v, .ty "str"] H Q := .inl ⟨v, _, _, _, _, rfl, .ty _, h.ty, k1_str d, q⟩
theorem x_isiLT {p : Addr} (h : Dt K H v d) (hp : H p = some (.tup [.ty "list", .ty "tuple"])) (q : Q (.bl (tyN d == "list" || tyN d == "tuple")) H) : aIsi K [v, .ref p] H Q :=
  .inr ⟨v, p, _, _, [.type "list", .type "tuple"], _, rfl, hp, .cons (.ty _) (.cons (.ty _) .nil), h.ty, by
    unfold PySem.W.kitAny PySem.W.kitAny
    rw [k1_list, k1_tuple]
    cases tyN d == "list" <;> cases tyN d == "tuple" <;> rfl, q⟩
theorem ixN_nat {n j : Nat} (h : j < n) : ixN n (j : Int) = some j := by
  unfold ixN
  simp [h]
theorem x_sortedS {a : Addr} {xs : List Str} (h : SqL K H a (xs.map V.str)) (hl : xs.length < 64) (k : ∀ ys, ys.Perm xs → sortedS ys = true → nw (.lst (ys.map V.str)) H Q) : aSorted K [.ref a] H Q := .inr ⟨a, xs, rfl, h, hl, fun ys p hp hs hn => k ys hp hs p hn⟩
theorem DtL.set : ∀ {vs : List V} {ds : List PyData} (i : Nat), DtL K H vs ds → Dt K H v e → DtL K H (vs.set i v) (ds.set i e)
  | _, _, _, .nil, _ => .nil
  | _, _, 0, .cons _ t, g => .cons g t
  | _, _, i + 1, .cons h t, g => .cons h (t.set i g)
theorem DtL.get : ∀ {vs : List V} {ds : List PyData} (i : Nat) {d : PyData}, DtL K H vs ds → ds[i]? = some d → ∃ v, vs[i]? = some v ∧ Dt K H v d
  | _, _, _, _, .nil, e => by simp at e
  | _, _, 0, _, .cons h _, e => by
    rw [List.getElem?_cons_zero] at e
    cases e
    exact ⟨_, rfl, h⟩
  | _, _, i + 1, _, .cons _ t, e => by
    rw [List.getElem?_cons_succ] at e
    obtain ⟨v, ev, hv⟩ := t.get i e
    exact ⟨v, by rw [List.getElem?_cons_succ]; exact ev, hv⟩
theorem okDL_get : ∀ {ds : List PyData} (i : Nat) {d : PyData}, okDL ds = true → ds[i]? = some d → okD d = true
  | [], _, _, _, e => by simp at e
  | d :: ds, 0, _, h, e => by
    simp only [okDL, Bool.and_eq_true] at h
    rw [List.getElem?_cons_zero] at e
    cases e
    exact h.1
  | d :: ds, i + 1, _, h, e => by
    simp only [okDL, Bool.and_eq_true] at h
    rw [List.getElem?_cons_succ] at e
    exact okDL_get i h.2 e
theorem okDL_set : ∀ {ds : List PyData} (i : Nat), okDL ds = true → okD e = true → okDL (ds.set i e) = true
  | [], _, _, _ => rfl
  | d :: ds, 0, h, g => by
    simp only [okDL, Bool.and_eq_true] at h
    simp only [List.set, okDL, g, h.2, Bool.and_true]
  | d :: ds, i + 1, h, g => by
    simp only [okDL, Bool.and_eq_true] at h
    simp only [List.set, okDL, h.1, okDL_set i h.2 g, Bool.and_true]
theorem dep_get : ∀ {ds : List PyData} (i : Nat) {d : PyData}, ds[i]? = some d → d.depth ≤ PyData.depthAll ds
  | [], _, _, e => by simp at e
  | d :: ds, 0, _, e => by
    rw [List.getElem?_cons_zero] at e
    cases e
    simp only [PyData.depthAll]
    omega
  | d :: ds, i + 1, _, e => by
    rw [List.getElem?_cons_succ] at e
    have := dep_get i e
    simp only [PyData.depthAll]
    omega
theorem dep_set : ∀ {ds : List PyData} (i : Nat), PyData.depthAll (ds.set i e) ≤ max (PyData.depthAll ds) e.depth
  | [], _ => Nat.le_max_left _ _
  | d :: ds, 0 => by
    simp only [List.set, PyData.depthAll]
    omega
  | d :: ds, i + 1 => by
    have := dep_set (ds := ds) i
    simp only [List.set, PyData.depthAll]
    omega
theorem wt_set : ∀ {ds : List PyData} (i : Nat) {d : PyData}, ds[i]? = some d → PyData.weightAll (ds.set i e) + d.weight = PyData.weightAll ds + e.weight
  | [], _, _, h => by simp at h
  | d :: ds, 0, _, h => by
    rw [List.getElem?_cons_zero] at h
    cases h
    simp only [List.set, PyData.weightAll]
    omega
  | d :: ds, i + 1, _, h => by
    rw [List.getElem?_cons_succ] at h
    have := wt_set (ds := ds) i h
    simp only [List.set, PyData.weightAll]
    omega
theorem cut1 {a : V} {xs : List V} : cutV (a :: xs) (some 1) none = xs := by
  have h : HT.sIx (a :: xs).length 0 (some 1) = 1 := by
    have := HT.sIx_nat (a :: xs).length 0 1
    rw [List.length_cons] at this ⊢
    exact this.trans (by omega)
  unfold cutV
  rw [h]
  show (List.drop 1 (a :: xs)).take ((a :: xs).length - 1) = xs
  simp
/-- a place in data -/
def okP : List Nat → PyData → Prop
  | [], _ => True
  | i :: r, .list ds => ∃ d, ds[i]? = some d ∧ okP r d
  | i :: r, .tuple ds => ∃ d, ds[i]? = some d ∧ okP r d
  | _ :: _, _ => False
end
end G
set_option maxHeartbeats 4000000
/-! Part T: a tuple read backwards, t[::-1]. -/
namespace G
open PySem PySem.Spec PyProof.Rows L2 HT
theorem fm_congr {α β : Type} {f g : α → Option β} : ∀ {l : List α}, (∀ a ∈ l, f a = g a) → l.filterMap f = l.filterMap g
  | [], _ => rfl
  | a :: l, h => by
    rw [List.filterMap_cons, List.filterMap_cons, h a List.mem_cons_self, fm_congr fun b hb => h b (List.mem_cons_of_mem _ hb)]
theorem back_pick (xs : Array Value) : ((List.range xs.size).filterMap fun (m : Nat) => xs[(((xs.size : Int) - 1) + (m : Int) * -1).toNat]?).toArray = xs.toList.reverse.toArray := by
  congr 1
  have e : ∀ m ∈ List.range xs.size, xs[(((xs.size : Int) - 1) + (m : Int) * -1).toNat]? = some (xs.toList.reverse.getD m .none) := by
    intro m hm
    have h := List.mem_range.mp hm
    have i : (((xs.size : Int) - 1) + (m : Int) * -1).toNat = xs.size - 1 - m := by omega
    have i2 : xs.size - 1 - m < xs.size := by omega
    rw [i, Array.getElem?_eq_getElem i2, List.getD_eq_getElem?_getD, List.getElem?_reverse (by simpa using h), List.getElem?_eq_getElem (by simp; omega)]
    simp
  have e2 : (List.range xs.size).filterMap (fun (m : Nat) => xs[(((xs.size : Int) - 1) + (m : Int) * -1).toNat]?) = (List.range xs.size).filterMap (fun m => some (xs.toList.reverse.getD m .none)) := fm_congr e
  rw [e2]
  show List.filterMap (some ∘ fun m => xs.toList.reverse.getD m .none) _ = _
  rw [List.filterMap_eq_map]
  refine List.ext_getElem? fun j => ?_
  rw [List.getElem?_map]
  by_cases h : j < xs.size
  · rw [List.getElem?_range h, Option.map_some, List.getD_eq_getElem?_getD, List.getElem?_eq_getElem (by simpa using h)]
    rfl
  · rw [List.getElem?_eq_none (by simpa using h), List.getElem?_eq_none (by simpa using h)]
    rfl
section
variable {P : Program} {w : World} {A : Around} {E : Value → Shared → Prop} {z : Shared}
theorem back_tuple {p q : Addr} {xs : Array Value} {a b c : Value} {Q : Value → Shared → Prop} (tp : IsTup z.heap p xs) (sl : z.heap.IsSliceOf q a b c) (pa : IsPart a none) (pb : IsPart b none) (pc : IsPart c (some (-1))) (few : xs.size ≤ sizeLine)
    (k : Q (.ref z.heap.objs.size) { z with heap := z.heap.push { cls := .type "tuple", data := .seq xs.toList.reverse.toArray } }) : wpAny (model P w) A (getItem (.ref p) (.ref q)) Q E z := by
  have room : sizeOk (.seq xs.toList.reverse.toArray) := by
    show (xs.toList.reverse.toArray).size ≤ sizeLine
    simpa using few
  obtain ⟨o, at_, cl, fl⟩ := id sl
  have tq : z.TypeIs (.ref q) "slice" := ⟨o, at_, cl⟩
  unfold getItem
  try with_reducible refine wpAny_holding ?_
  first
    | refine wpAny_bind (wpAny_pure ?_)
    | skip
  refine wpAny_bind (wpAny_sequenceKey tp.typeIs (by decide) ?_)
  refine wpAny_bind (wpAny_callSpecial?_slot (name := ("__getitem__" : Str)) tp.typeIs PyProof.Rows.slot_tuple_getitem (wpAny_call_entry PyProof.Rows.slot_tuple_getitem tp.typeIs entry_tuple_getitem ?_ (args_tuple_getitem _ _)))
  show wpAny _ _ (Builtin.Tuple.tupleItemsOf (.ref p) >>= _) _ _ z
  refine wpAny_bind (tupleItemsOf_ tp (wpAny_bind (wpAny_typeOf tq ?_)))
  rw [if_pos (show (Value.type "slice" == Value.type "slice") = true by decide)]
  refine wpAny_bind ?_
  unfold Builtin.Slice.sliceApplied Builtin.Slice.sliceFields
  refine wpAny_bind (wpAny_bind (wpAny_field at_ fl (x := a) rfl (wpAny_bind (wpAny_field at_ fl (x := b) rfl (wpAny_bind (wpAny_field at_ fl (x := c) rfl (wpAny_pure ?_)))))))
  refine wpAny_bind (slicePart_ pc ?_)
  show wpAny _ _ (if ((-1 : Int) == 0) = true then _ else _) _ _ z
  rw [if_neg (show ¬ ((-1 : Int) == 0) = true by decide)]
  refine wpAny_bind (slicePart_ pa (wpAny_bind (slicePart_ pb (wpAny_bind (wpAny_pure (wpAny_pure ?_))))))
  have places : Builtin.Slice.slicePlaces ((xs.size : Int) - 1) (-1) (-1) = xs.size := by
    unfold Builtin.Slice.slicePlaces
    rw [if_neg (show ¬ (-1 : Int) > 0 by decide)]
    split
    · show (((xs.size : Int) - 1 - -1 - 1) / 1 + 1).toNat = xs.size
      rw [Int.ediv_one]
      omega
    · show (0 : Int).toNat = xs.size
      omega
  show wpAny _ _ (if (((xs.size : Int) - 1) == 0 && (-1 : Int) == 1 && Builtin.Slice.slicePlaces ((xs.size : Int) - 1) (-1) (-1) == xs.size) = true then _ else _) _ _ z
  rw [if_neg (by rw [show ((-1 : Int) == 1) = false by decide, Bool.and_false, Bool.false_and]; exact Bool.false_ne_true)]
  show wpAny _ _ (Builtin.Tuple.tupleExact ((List.range (Builtin.Slice.slicePlaces ((xs.size : Int) - 1) (-1) (-1))).filterMap fun (m : Nat) => xs[(((xs.size : Int) - 1) + (m : Int) * -1).toNat]?).toArray >>= _) _ _ z
  rw [places, back_pick]
  first
    | exact wpAny_bind (m := Builtin.Tuple.tupleExact _) (wpAny_newObj_type (wpAny_pure ⟨_, rfl, wpAny_pure k⟩) room)
    | exact wpAny_bind (m := Builtin.Tuple.tupleExact _) (wpAny_newObj_type (wpAny_bind (wpAny_pure (wpAny_pure ⟨_, rfl, wpAny_pure k⟩))) room)
    | exact wpAny_bind (wpAny_bind (m := Builtin.Tuple.tupleExact _) (wpAny_newObj_type (wpAny_pure (wpAny_pure ⟨_, rfl, wpAny_pure k⟩)) room))
    | exact wpAny_bind (wpAny_bind (m := Builtin.Tuple.tupleExact _) (wpAny_newObj_type (wpAny_pure ⟨_, rfl, wpAny_pure k⟩) room))
end
/-- t[::-1], t a tuple -/
def aRevT (K : PySem.W.Frag) (te : TE) : TE := fun σ H Q => te σ H fun x H1 => ∃ a xs, x = .ref a ∧ SqT K H1 a xs ∧ nw (.tup xs.reverse) H1 Q
section
variable {X : Cx} {K : PySem.W.Frag}
theorem d_revT {e : Expr} {te : TE} {j : Nat} {p1 p2 p3 pos : Pos} (he : PE X e te) : PE X (.Subscript e (.Slice none none (some (.UnaryOp .USub (.Constant (.int 1) j p1) p2)) p3) pos) (aRevT X.K te) := by
  refine ⟨fun pins s σ H Q I h => ?_⟩
  refine Subscript_ (thn (he.run pins s σ H _ I h) fun v s1 ⟨x, H1, I1, rx, wish⟩ => ?_)
  obtain ⟨t, xs, rfl, tup, wish⟩ := wish
  cases rx
  have back : PO X (some (.UnaryOp .USub (.Constant (.int 1) j p1) p2)) (tPart (tUn (rU fun i => .int (-i)) (tC (.int 1)))) := po_some (pe_un un_neg pe_int)
  refine wpAny_Slice (thn (po_none.run pins s1 σ H1 (fun o G => o = none ∧ G = H1) I1 ⟨rfl, rfl⟩) fun va s2 ⟨_, _, I2, pa, rfl, rfl⟩ => ?_)
  refine thn (po_none.run pins s2 σ _ (fun o G => o = none ∧ G = H1) I2 ⟨rfl, rfl⟩) fun vb s3 ⟨_, _, I3, pb, rfl, rfl⟩ => ?_
  refine thn (back.run pins s3 σ _ (fun o G => o = some (-1) ∧ G = H1) I3 ⟨1, rfl, -1, rfl, rfl, rfl⟩) fun vc s4 ⟨_, _, I4, pc, rfl, rfl⟩ => ?_
  have I5 := Inv.pushed I4 { cls := .type "slice", data := .fields #[va, vb, vc] }
  obtain ⟨its, rel, tp, few⟩ := I5.tuple tup
  have len := rel.length
  refine tail_any (ops := [.ref t, .ref s4.heap.objs.size]) tp.typeIs PyProof.Rows.slot_tuple_getitem.lookup ?_ (by with_unfolding_all rfl)
  refine back_tuple tp (Heap.IsSliceOf.new _ va vb vc) pa pb pc (by rw [List.size_toArray]; omega) ?_
  refine ⟨.ref _, _, I5.laid (t' := s4.toks) (o := .tup xs.reverse) (fun _ _ y => Heap.get?_push_of_some _ y) (Nat.le_refl _) ?_, rfl, wish _ (I5.hok.fresh (Nat.le_refl _))⟩
  exact ⟨by rw [List.length_reverse]; exact few, _, rel.reverse, IsTup.new _ _⟩
theorem pe_bm0Q {name : Str} {id : String} {r : V → List V → Hp → VK → Prop} {o : Expr} {to : TE} {apos cpos : Pos} {Ty : String} (h : X.K = K) (pa : PlainAttrs Ty) (slot : Slot Ty name id) (hty : typeOf (.builtin id) = pure (.type "method_descriptor")) (hm : MtR X id r) (ho : PE X o to)
    (hbase : attributeBase o name X.env (eval o X.env) = eval o X.env := by rfl) (hline : (apos.endLine == cpos.line) = true := by rfl) : PE X (.Call (.Attribute o name apos) [] [] cpos) (tBM0 K Ty r to) := h ▸ pe_bm0 pa slot hty hm ho hbase hline
theorem d_revTK {e : Expr} {te : TE} {j : Nat} {p1 p2 p3 pos : Pos} (h : X.K = K) (he : PE X e te) : PE X (.Subscript e (.Slice none none (some (.UnaryOp .USub (.Constant (.int 1) j p1) p2)) p3) pos) (aRevT K te) := h ▸ d_revT he
end
end G
set_option maxHeartbeats 4000000
/-! Part Z: the law's promise, at the heap behind the top; where nothing is being shown. -/
namespace G
open PySem PySem.Spec PyProof.Rows L2
theorem law_go {P : Program} {w : World} {K : PySem.W.Frag} {mg nb : Str → Option Value} {n : Nat} {fa p : Addr} {fd : FuncData} {arg : Str} {sp : Sp} {z : Shared} {us : List Value} {is : List Int}
    (kin : K.In z.heap) (glob : z.heap.Ns mainGlobals mg) (blt : z.heap.Ns builtinsNs nb) (boot : ∀ y : Str, y ≠ "__name__" → nb y = bootBuiltins y) (free : z.heap.NoLimit) (calm : z.gens = #[])
    (at_ : z.heap.get? p = some { cls := .type "list", data := .seq us.toArray }) (whole : IntsAre us is) (few : is.length ≤ sizeLine) (room : Room n callerA)
    (law : ∀ low : Heap, K.In low → low.Ns mainGlobals mg → FnG P w K mg low n fa fd [arg] sp) (binds : ∀ (t : Shared) (u : Value), BindsTo t fd ⟨[u], []⟩ [(arg, u)])
    (keep : ∀ H : Hp, Only H → SqL K H p (is.map V.int) → sp [.ref p] H (fun v _ => v = .bl true) fun _ _ _ => False) :
    codeAny (model P w) callerA (.call (.ref fa) ⟨[.ref p], []⟩) (fun r t => r = .ok (.ret (.bool true)) ∧ OldK z.heap t.heap ∧ t.os = z.os ∧ AllBare t.gens) z := by
  have rel := vals_ints whole
  have len := whole.length
  have core : ∀ H : Hp, Only H → SqL K H p (is.map V.int) → HOk P w H z.heap → (∀ c, H c ≠ none → c = p ∧ K.lookup c = none) →
      codeAny (model P w) callerA (.call (.ref fa) ⟨[.ref p], []⟩) (fun r t => r = .ok (.ret (.bool true)) ∧ OldK z.heap t.heap ∧ t.os = z.os ∧ AllBare t.gens) z := by
    intro H only seq ok one
    have hid : ∀ {c : Addr} {o : Obj}, z.heap.get? c = some o → H c = none → (hidT z.heap H).get? c = some o := fun e q => hidT_get e q
    have dicts : ∀ {c : Addr} {o : Obj} {es : Array DictEntry} {j : Nat}, z.heap.get? c = some o → o.data = .dict es j → H c = none := by
      intro c o es j e dd
      refine Classical.byContradiction fun q => ?_
      obtain ⟨rfl, _⟩ := one c q
      rw [at_] at e
      cases e
      exact nomatch (dd : Data.seq us.toArray _ = Data.dict es j)
    have spaces : ∀ {c : Addr} {m : Str → Option Value}, z.heap.Ns c m → (hidT z.heap H).Ns c m := by
      rintro c m ⟨o, es, j, e, dd, rest⟩
      exact ⟨o, es, j, hid e (dicts e dd), dd, rest⟩
    have kin' : K.In (hidT z.heap H) := by
      intro c o e
      refine hid (kin c o e) (Classical.byContradiction fun q => ?_)
      have := (one c q).2
      rw [e] at this
      cases this
    obtain ⟨lim, f1, f2⟩ := free
    have env : Env0 P w K mg (hidT z.heap H) callerA [] z H := ⟨rfl, ⟨kin', spaces glob, ⟨nb, spaces blt, boot⟩, lim, spaces f1, f2⟩, fun c o e => of_hidT e, Nat.le_of_eq (hidT_size _ _), trivial, fun c m => (List.not_mem_nil m).elim, ok, .of_eq calm⟩
    have run := (law _ kin' (spaces glob)).go callerA [] z H ⟨[.ref p], []⟩ [.ref p] [.ref p] _ _ ⟨room, rfl⟩ env (binds z (.ref p)) (.cons rfl .nil) (keep H only seq)
    refine codeAny_mono run fun r t h => ?_
    match r, h with
    | .error e, h =>
      obtain ⟨_, _, _, _, _, _, _, _, _, _, _, _, bad⟩ := (show L2.CX P w [] H z (fun _ _ _ => False) e t from h)
      exact bad.elim
    | .ok .next, h => exact h.elim
    | .ok .brk, h => exact h.elim
    | .ok .cont, h => exact h.elim
    | .ok (.ret u), ⟨v, H', os, bare, un, ok', rv, q⟩ =>
      obtain rfl : v = .bl true := q
      obtain rfl : u = Value.bool true := rv
      refine ⟨rfl, OldK.of_keep fun c o e => ?_, os, bare⟩
      rcases only c with q | ⟨ob, xs, q⟩
      · exact un.keep c o e q (fun m => (List.not_mem_nil m).elim) (fun m => (List.not_mem_nil m).elim)
      · obtain ⟨g1, _⟩ := ok c _ q
        obtain ⟨g2, _⟩ := ok' c _ (un.frzs c ob _ q)
        rw [e] at g1
        cases g1
        exact g2
  cases known : K.lookup p with
  | some o =>
    have e := kin p o known
    rw [at_] at e
    cases e
    exact core (fun _ => none) (fun _ => .inl rfl) (.inr ⟨_, us.toArray, _, known, rfl, rfl, rfl, by rw [List.size_toArray, len]; exact few, by simpa using rel⟩) (fun c u q => nomatch (q : (none : Option HO) = some u)) (fun c q => absurd rfl q)
  | none =>
    have self : (fun c => if c = p then some (HO.frz { cls := .type "list", data := .seq us.toArray } (.lst (is.map V.int))) else none : Hp) p = some (HO.frz { cls := .type "list", data := .seq us.toArray } (.lst (is.map V.int))) := if_pos rfl
    refine core (fun c => if c = p then some (HO.frz { cls := .type "list", data := .seq us.toArray } (.lst (is.map V.int))) else none) (fun c => ?_) (.inl (.inr ⟨_, self⟩)) (fun c u q => ?_) (fun c q => ?_)
    · by_cases h : c = p
      · subst h
        exact .inr ⟨_, _, self⟩
      · exact .inl (if_neg h)
    · by_cases h : c = p
      · subst h
        rw [self] at q
        cases q
        exact ⟨at_, by rw [List.length_map]; exact few, us, _, rel, at_⟩
      · exact nomatch (if_neg h).symm.trans q
    · by_cases h : c = p
      · subst h
        exact ⟨rfl, known⟩
      · exact absurd (if_neg h) q
/-- what k_head leaves -/
theorem walk {l : PySem.W.OpenLaw} {n k : Nat} {q : Program} {loose : List Str} {XP : (Str → Option Value) → Heap → Prop} {YP : World → Heap → Prop} {d : DefRec} {K : Params → PySem.W.Frag} {sp : PySem.W.Frag → Sp} {arg : Str}
    (most : l.most = some n) (few : n ≤ sizeLine) (plain : d.params.defaults = []) (room : Room k callerA)
    (kin : ∀ (w : World) (h : Heap), YP w h → (K w.params).In h)
    (F : ∀ (w : World) (mg : Str → Option Value) (fa : Addr) (h : Heap), YP w h → (K w.params).In h → h.Ns mainGlobals mg → mg d.name = some (.ref fa) →
      ∃ fd : FuncData, (∀ (t : Shared) (u : Value), BindsTo t fd ⟨[u], []⟩ [(arg, u)]) ∧ ∀ low : Heap, (K w.params).In low → low.Ns mainGlobals mg → FnG l.prog w (K w.params) mg low k fa fd [arg] (sp (K w.params)))
    (keep : ∀ (M : PySem.W.Frag) (H : Hp) (p : Addr) (is : List Int), is.length ≤ n → Only H → SqL M H p (is.map V.int) → sp M [.ref p] H (fun v _ => v = .bl true) fun _ _ _ => False) :
    PySem.W.WalkO q loose XP YP l.row.toRowW d [] (fun f vs => PySem.call f vs) := by
  refine Att.attach_call most plain fun w _ z mg nb fa o pm cd doc p us is TG Y ho hd hcd hmg hobj whole len calm => ?_
  obtain ⟨fd, hb, hF⟩ := F w mg fa _ Y (kin w _ Y) TG.T.g hmg
  exact law_go (kin w _ Y) TG.T.g TG.T.b TG.T.builtins TG.T.nolimit calm hobj whole (Nat.le_trans len few) room hF hb (fun H a b => keep _ H p is len a b)
end G
set_option maxHeartbeats 4000000
/-! Part X: methods, objects made, errors raised and caught; defs that may raise. -/
namespace G
open PySem PySem.Spec PyProof.Rows L2
theorem Rm.make {k : Nat} {A : Around} (r : Rm (k + 1) A) (C : Addr) (us : List Value) (kw : List (Str × Value)) : Rm k (A.under (.builtin "type.__call__" ⟨.ref C :: us, kw⟩)) := ⟨r.room.make C us kw, r.gd⟩
section
variable (P : Program) (w : World) (K : PySem.W.Frag) (mg : Str → Option Value) (base : Heap) (k : Nat)
/-- a method of the class at C -/
def Mt (C : Addr) (m : Str) (ps : List Str) (sp : Sp) : Prop := ∃ f fd, FnG P w K mg base k f fd ps sp ∧ Cls K C ∧ Meth K C m f ∧ Binds K fd ps []
/-- .. called by names alone, these in the parameters' order turned round -/
def MtR (C : Addr) (m : Str) (ps ks : List Str) (sp : Sp) : Prop := ∃ f fd, FnG P w K mg base k f fd ps sp ∧ Cls K C ∧ Meth K C m f ∧
  ∀ (s : Shared) (u : Value) (us : List Value), K.In s.heap → us.length = ks.length → BindsTo s fd ⟨[u], ks.zip us⟩ (ps.zip (u :: us.reverse))
/-- the class at C is made by its __init__ -/
def In (C : Addr) (x : Str) (ps : List Str) (sp : Sp) : Prop := ∃ f fd, FnG P w K mg base k f fd ps sp ∧ Mk K C f ∧ Binds K fd ps [] ∧ mg x = some (.ref C)
def InR (C : Addr) (x : Str) (ps ks : List Str) (sp : Sp) : Prop := ∃ f fd, FnG P w K mg base k f fd ps sp ∧ Mk K C f ∧ mg x = some (.ref C) ∧
  ∀ (s : Shared) (u : Value) (us : List Value), K.In s.heap → us.length = ks.length → BindsTo s fd ⟨[u], ks.zip us⟩ (ps.zip (u :: us.reverse))
/-- the __init__ of an error's class -/
def Er (C : Addr) (x : Str) (ps : List Str) (sp : Sp) : Prop := ∃ f fd, FnG P w K mg base k f fd ps sp ∧ OexC K C ∧ PySem.W.findIn K (.ref C) "__init__" = some (some (.ref f)) ∧
  PySem.W.typeIn K (.ref f) = some (.type "function") ∧ Binds K fd ps [] ∧ mg x = some (.ref C)
end
section
variable {P : Program} {w : World} {K : PySem.W.Frag} {mg : Str → Option Value} {base : Heap} {j k : Nat} {C : Addr} {m x : Str} {ps ks : List Str} {sp : Sp}
theorem Mt.up (c : Mt P w K mg base j C m ps sp) (h : j ≤ k) : Mt P w K mg base k C m ps sp := let ⟨f, fd, F, r⟩ := c; ⟨f, fd, F.up h, r⟩
theorem MtR.up (c : MtR P w K mg base j C m ps ks sp) (h : j ≤ k) : MtR P w K mg base k C m ps ks sp := let ⟨f, fd, F, r⟩ := c; ⟨f, fd, F.up h, r⟩
theorem In.up (c : In P w K mg base j C x ps sp) (h : j ≤ k) : In P w K mg base k C x ps sp := let ⟨f, fd, F, r⟩ := c; ⟨f, fd, F.up h, r⟩
theorem InR.up (c : InR P w K mg base j C x ps ks sp) (h : j ≤ k) : InR P w K mg base k C x ps ks sp := let ⟨f, fd, F, r⟩ := c; ⟨f, fd, F.up h, r⟩
theorem Er.up (c : Er P w K mg base j C x ps sp) (h : j ≤ k) : Er P w K mg base k C x ps sp := let ⟨f, fd, F, r⟩ := c; ⟨f, fd, F.up h, r⟩
end
section
variable {X : Cx} {k : Nat} {f C D : Addr} {fd : FuncData} {ps ks : List Str} {sp : Sp} {W : WX} {x m : Str} {p p1 p2 pos apos : Pos} {e o : Expr} {es : List Expr} {kws : List Keyword} {ta te : TE} {t tk : TA}
theorem fn_goS {pins : List (Addr × Obj)} {σ : L2.St} {H : Hp} {s : Shared} {Q : VK} {us all : List Value} {kv : List (Str × Value)} {vs : List V} (F : FnG X.prog X.w X.K X.mg X.base k f fd ps sp) (r : Rm k X.A) (tk : Takes X W)
    (hb : BindsTo s fd ⟨us, kv⟩ (ps.zip all)) (I : Inv X pins σ H s) (rv : Vals vs all) (h : sp vs H Q (WE W σ)) : wpAny (model X.prog X.w) X.A (call (.ref f) us kv) (EP X pins σ Q) X.xe s := by
  have run := F.go X.A X.stack s H ⟨us, kv⟩ all vs Q (WE W σ) r I.env0 hb rv h
  refine wpAny_call (codeAny_mono run ?_)
  intro res s' hq
  match res, hq with
  | .error er, hq => exact passAt tk σ pins H s er s' I hq
  | .ok (.ret u), hq => exact I.after hq
  | .ok .next, hq => exact hq.elim
  | .ok .brk, hq => exact hq.elim
  | .ok .cont, hq => exact hq.elim
/-! ### methods -/
def tM (C : Addr) (m : Str) (sp : Sp) (W : WX) (ta : TE) (t : TA) : TE := fun σ H Q => ta σ H fun x H1 => ∃ a dx fs, x = .ref a ∧ H1 a = some (.ins C dx fs) ∧ fs.lookup m = none ∧ t σ H1 fun vs H2 => sp (.ref a :: vs) H2 Q (WE W σ)
def tMR (C : Addr) (m : Str) (sp : Sp) (W : WX) (ta : TE) (t : TA) : TE := fun σ H Q => ta σ H fun x H1 => ∃ a dx fs, x = .ref a ∧ H1 a = some (.ins C dx fs) ∧ fs.lookup m = none ∧ t σ H1 fun vs H2 => sp (.ref a :: vs.reverse) H2 Q (WE W σ)
theorem g_meth {pl : Sem Bool} (c : Mt X.prog X.w X.K X.mg X.base k C m ps sp) (r : Rm k X.A) (tk : Takes X W) (he : PE X o ta) (ha : PA X (e :: es) t)
    (hst : starEach (e :: es) X.env = (false, eval e X.env) :: starEach es X.env := by rfl) (hpl : (backTo pos (starEach es X.env)).any (·.1) = false := by rfl)
    (ht : eval (.Call (.Attribute o m apos) (e :: es) [] pos) X.env = (eval o X.env >>= fun ov => standAt apos.atName >>= fun _ => holding [ov] (getMethod ov m pl) >>= fun z =>
      callWith pos z.1 z.2 (backTo pos (starEach (e :: es) X.env)) (backToKw pos (keywordEach [] X.env))) := by rfl) : PE X (.Call (.Attribute o m apos) (e :: es) [] pos) (tM C m sp W ta t) := by
  obtain ⟨f, fd, F, hc, hm, hb⟩ := c
  constructor
  intro pins s σ H Q I h
  refine PySem.W.methodCall_KW (pl := pl) (thn (he.run pins s σ H _ I h) ?_) ht
  rintro u s1 ⟨y, H1, I1, ry, a, dx, fs, rfl, ea, l, q⟩
  obtain rfl : u = Value.ref a := ry
  refine getmeth_ok I1 ea hc hm l ?_
  refine PySem.W.callWith_K (first := [.ref a]) (h₀ := X.base) I.ok.mod.kin hm.kp ?_ hst hpl
  refine thn (ha.run pos pins s1 σ H1 _ I1 q) ?_
  rintro us s2 ⟨vs, H2, I2, rv, q2⟩
  refine ⟨I2.kIn, ?_⟩
  have rr : Vals (V.ref a :: vs) (Value.ref a :: us) := .cons rfl rv
  have hl : (Value.ref a :: us).length = ps.length := by rw [← rr.length]; exact F.arity _ _ _ _ q2
  have hb' := hb s2 (Value.ref a :: us) I2.kIn (by rw [List.append_nil]; exact hl)
  rw [List.append_nil] at hb'
  exact fn_goS F r tk hb' I2 rr q2
theorem g_meth0 {pl : Sem Bool} (c : Mt X.prog X.w X.K X.mg X.base k C m ps sp) (r : Rm k X.A) (tk : Takes X W) (he : PE X o ta)
    (ht : eval (.Call (.Attribute o m apos) [] [] pos) X.env = (eval o X.env >>= fun ov => standAt apos.atName >>= fun _ => holding [ov] (getMethod ov m pl) >>= fun z =>
      callWith pos z.1 z.2 (backTo pos (starEach [] X.env)) (backToKw pos (keywordEach [] X.env))) := by rfl) : PE X (.Call (.Attribute o m apos) [] [] pos) (tM C m sp W ta tNil) := by
  obtain ⟨f, fd, F, hc, hm, hb⟩ := c
  constructor
  intro pins s σ H Q I h
  refine PySem.W.methodCall_KW (pl := pl) (thn (he.run pins s σ H _ I h) ?_) ht
  rintro u s1 ⟨y, H1, I1, ry, a, dx, fs, rfl, ea, l, q⟩
  obtain rfl : u = Value.ref a := ry
  refine getmeth_ok I1 ea hc hm l ?_
  have rr : Vals [V.ref a] [Value.ref a] := .cons rfl .nil
  have hl : [Value.ref a].length = ps.length := by rw [← rr.length]; exact F.arity _ _ _ _ q
  have hb' := hb s1 [Value.ref a] I1.kIn (by rw [List.append_nil]; exact hl)
  rw [List.append_nil] at hb'
  exact PySem.W.callWith_K0 (first := [.ref a]) I1.kIn hm.kp (fn_goS (us := [.ref a]) F r tk hb' I1 rr q)
theorem g_methR {pl : Sem Bool} (c : MtR X.prog X.w X.K X.mg X.base k C m ps ks sp) (r : Rm k X.A) (tks : Takes X W) (he : PE X o ta) (hkw : PK X kws tk)
    (hall : (backToKw pos (keywordEach kws X.env)).all (·.1.isSome) = true := by rfl) (hks : (backToKw pos (keywordEach kws X.env)).filterMap (·.1) = ks := by rfl) (hln : ps.length = ks.length + 1 := by rfl)
    (hpl : ((backTo pos (starEach [] X.env)).any (·.1) || (backToKw pos (keywordEach kws X.env)).any (·.1.isNone)) = false := by rfl)
    (ht : eval (.Call (.Attribute o m apos) [] kws pos) X.env = (eval o X.env >>= fun ov => standAt apos.atName >>= fun _ => holding [ov] (getMethod ov m pl) >>= fun z =>
      callWith pos z.1 z.2 (backTo pos (starEach [] X.env)) (backToKw pos (keywordEach kws X.env))) := by rfl) : PE X (.Call (.Attribute o m apos) [] kws pos) (tMR C m sp W ta tk) := by
  obtain ⟨f, fd, F, hc, hm, hb⟩ := c
  constructor
  intro pins s σ H Q I h
  refine PySem.W.methodCall_KW (pl := pl) (thn (he.run pins s σ H _ I h) ?_) ht
  rintro u s1 ⟨y, H1, I1, ry, a, dx, fs, rfl, ea, l, q⟩
  obtain rfl : u = Value.ref a := ry
  refine getmeth_ok I1 ea hc hm l ?_
  refine PySem.W.callWith_KW0 (first := [.ref a]) (h₀ := X.base) I.ok.mod.kin hm.kp hall ?_ hpl
  refine thn (hkw.run pos pins s1 σ H1 _ I1 q) ?_
  rintro us s2 ⟨vs, H2, I2, rv, q2⟩
  refine ⟨I2.kIn, ?_⟩
  rw [hks]
  have hz := F.arity _ _ _ _ q2
  rw [List.length_cons, List.length_reverse, hln] at hz
  exact fn_goS F r tks (hb s2 (.ref a) us I2.kIn (by rw [← rv.length]; omega)) I2 (show Vals (V.ref a :: vs.reverse) (Value.ref a :: us.reverse) from .cons rfl rv.reverse) q2
/-! ### objects made -/
def nI (C : Addr) (sp : Sp) (W : WX) (σ : L2.St) (vs : List V) (H1 : Hp) (Q : VK) : Prop :=
  ∀ y dx, H1 y = none → H1 dx = none → dx ≠ y → sp (.ref y :: vs) (upd (upd H1 dx (.own y)) y (.ins C dx [])) (fun v H2 => v = .non ∧ Q (.ref y) H2) (WE W σ)
def tI (C : Addr) (sp : Sp) (W : WX) (t : TA) : TE := fun σ H Q => t σ H fun vs H1 => nI C sp W σ vs H1 Q
def tIR (C : Addr) (sp : Sp) (W : WX) (t : TA) : TE := fun σ H Q => t σ H fun vs H1 => nI C sp W σ vs.reverse H1 Q
theorem mk_go {pins : List (Addr × Obj)} {σ : L2.St} {H : Hp} {s : Shared} {Q : VK} {us all : List Value} {kv : List (Str × Value)} {vs : List V} (F : FnG X.prog X.w X.K X.mg X.base k f fd ps sp) (M : Mk X.K C f) (r : Rm (k + 1) X.A) (tk : Takes X W)
    (hb : ∀ (z : Shared) (u : Value), X.K.In z.heap → BindsTo z fd ⟨u :: us, kv⟩ (ps.zip (u :: all))) (I : Inv X pins σ H s) (rv : Vals vs all) (h : nI C sp W σ vs H Q) : wpAny (model X.prog X.w) X.A (call (.ref C) us kv) (EP X pins σ Q) X.xe s := by
  have hq := h (s.heap.objs.size + 1) s.heap.objs.size (I.hok.fresh (Nat.le_succ _)) (I.hok.fresh (Nat.le_refl _)) (Nat.ne_of_lt (Nat.lt_succ_self _))
  have I2 := Inv.made (C := C) I
  refine wpAny_call (make_map (f := f) I.kIn M.makes M.init (beq_iff_eq.mp M.fn) (codeAny_mono (F.go _ X.stack _ _ ⟨Value.ref (s.heap.objs.size + 1) :: us, kv⟩ (Value.ref (s.heap.objs.size + 1) :: all) _ _ (WE W σ) (r.make C us kv)
    (I2.env0.make C us kv) (hb _ _ I2.kIn) (show Vals (V.ref (s.heap.objs.size + 1) :: vs) (Value.ref (s.heap.objs.size + 1) :: all) from .cons rfl rv) hq) ?_))
  intro res s' hq'
  match res, hq' with
  | .error er, hq' => exact passAt tk σ pins _ _ er s' I2 hq'
  | .ok .next, hq' => exact hq'.elim
  | .ok .brk, hq' => exact hq'.elim
  | .ok .cont, hq' => exact hq'.elim
  | .ok (.ret u), hq' =>
    obtain ⟨v, H', I3, rv', ev, q3⟩ := I2.after hq'
    subst ev
    exact ⟨rv', ⟨V.ref (s.heap.objs.size + 1), H', I3, rfl, q3⟩⟩
theorem g_make (c : In X.prog X.w X.K X.mg X.base k C x ps sp) (r : Rm (k + 1) X.A) (hg : Gl X x) (tk : Takes X W) (ha : PA X (e :: es) t) (hdb : (x == ("__debug__" : Str)) = false := by decide)
    (he : starEach (e :: es) X.env = (false, eval e X.env) :: starEach es X.env := by rfl) (hpl : (backTo pos (starEach es X.env)).any (·.1) = false := by rfl) : PE X (.Call (.Name x p) (e :: es) [] pos) (tI C sp W t) := by
  obtain ⟨f, fd, F, M, hb, hm⟩ := c
  constructor
  intro pins s σ H Q I h
  apply wpAny_Call_Name_kw
  refine ld_glob I hg hm ?_ hdb
  refine PySem.W.callWith_K (h₀ := X.base) I.ok.mod.kin M.kp ?_ he hpl
  refine thn (ha.run pos pins s σ H _ I h) ?_
  rintro us s1 ⟨vs, H1, I1, rv, q⟩
  refine ⟨I1.kIn, mk_go F M r tk (fun z u hz => ?_) I1 rv q⟩
  have hq := q (s1.heap.objs.size + 1) s1.heap.objs.size (I1.hok.fresh (Nat.le_succ _)) (I1.hok.fresh (Nat.le_refl _)) (Nat.ne_of_lt (Nat.lt_succ_self _))
  have hl : (u :: us).length = ps.length := by
    have a := F.arity _ _ _ _ hq
    rw [List.length_cons, rv.length] at a
    exact a
  have hb' := hb z (u :: us) hz (by rw [List.append_nil]; exact hl)
  rw [List.append_nil] at hb'
  exact hb'
theorem g_makeR (c : InR X.prog X.w X.K X.mg X.base k C x ps ks sp) (r : Rm (k + 1) X.A) (hg : Gl X x) (tks : Takes X W) (hkw : PK X kws tk) (hdb : (x == ("__debug__" : Str)) = false := by decide)
    (hall : (backToKw pos (keywordEach kws X.env)).all (·.1.isSome) = true := by rfl) (hks : (backToKw pos (keywordEach kws X.env)).filterMap (·.1) = ks := by rfl) (hln : ps.length = ks.length + 1 := by rfl)
    (hpl : ((backTo pos (starEach [] X.env)).any (·.1) || (backToKw pos (keywordEach kws X.env)).any (·.1.isNone)) = false := by rfl) : PE X (.Call (.Name x p) [] kws pos) (tIR C sp W tk) := by
  obtain ⟨f, fd, F, M, hm, hb⟩ := c
  constructor
  intro pins s σ H Q I h
  apply wpAny_Call_Name_kw
  refine ld_glob I hg hm ?_ hdb
  refine PySem.W.callWith_KW0 (h₀ := X.base) I.ok.mod.kin M.kp hall ?_ hpl
  refine thn (hkw.run pos pins s σ H _ I h) ?_
  rintro us s1 ⟨vs, H1, I1, rv, q⟩
  refine ⟨I1.kIn, ?_⟩
  rw [hks]
  have hq := q (s1.heap.objs.size + 1) s1.heap.objs.size (I1.hok.fresh (Nat.le_succ _)) (I1.hok.fresh (Nat.le_refl _)) (Nat.ne_of_lt (Nat.lt_succ_self _))
  have a := F.arity _ _ _ _ hq
  rw [List.length_cons, List.length_reverse, rv.length, hln] at a
  exact mk_go F M r tks (fun z u hz => hb z u us hz (by omega)) I1 rv.reverse q
/-! ### errors -/
/-- x.__init__(self, ..), x the parent of the errors -/
structure Par (K : PySem.W.Frag) (mg : Str → Option Value) (x : Str) (D : Addr) : Prop where
  at_ : mg x = some (.ref D)
  rd : ClX.CRead K D (.type "type")
  init : PySem.W.findCls K (.ref D) (.type "type") "__init__" = some (.val (.builtin "ValueError.__init__"))
theorem g_pinit {pl : Sem Bool} (c : Par X.K X.mg x D) (hg : Gl X x) (ha : PA X (e :: es) t) (hdb : (x == ("__debug__" : Str)) = false := by decide)
    (hc : eval (.Call (.Attribute (.Name x p1) "__init__" p2) (e :: es) [] pos) X.env = (eval (.Name x p1) X.env >>= fun ov => standAt p2.atName >>= fun _ => holding [ov] (getMethod ov "__init__" pl) >>= fun z =>
      callWith pos z.1 z.2 (backTo pos (starEach (e :: es) X.env)) (backToKw pos (keywordEach [] X.env))) := by rfl)
    (he : starEach (e :: es) X.env = (false, eval e X.env) :: starEach es X.env := by rfl) (hpl : (backTo pos (starEach es X.env)).any (·.1) = false := by rfl) : PE X (.Call (.Attribute (.Name x p1) "__init__" p2) (e :: es) [] pos) (tVeI X.K t) := by
  constructor
  intro pins s σ H Q I h
  refine PySem.W.methodCall_KW (pl := pl) (ld_glob I hg c.at_ ?_ hdb) hc
  refine PySem.W.method_cls I.kIn c.rd.ga (PySem.W.cls_value I.kIn c.rd.rd c.init (by decide +kernel) ?_)
  refine PyProof.Rows.callWith_method1 (thn (ha.run pos pins _ σ H _ (I.tok _) h) ?_) he hpl
  rintro us s1 ⟨vs, H1, I1, r1, a, C, ws, rfl, hl, T, ea, q⟩
  cases r1 with
  | @cons _ u0 _ ur ra rw' =>
    obtain rfl : u0 = Value.ref a := ra
    have hlen : ur.length ≤ sizeLine := by
      rw [← Paired.length rw', sizeLine_eq]
      omega
    exact oinit_ok T I1 ea hlen fun s' J => ⟨.non, H1, J, rfl, q⟩
/-- C(e), C an error of the program -/
theorem g_err (c : Er X.prog X.w X.K X.mg X.base k C x ps sp) (r : Rm (k + 1) X.A) (hg : Gl X x) (hx : Passes (L2.CX X.prog X.w) X (fun _ _ _ => False)) (ha : PA X (e :: es) t)
    (hdb : (x == ("__debug__" : Str)) = false := by decide) (he : starEach (e :: es) X.env = (false, eval e X.env) :: starEach es X.env := by rfl) (hpl : (backTo pos (starEach es X.env)).any (·.1) = false := by rfl) :
    PMk X (.Call (.Name x p) (e :: es) [] pos) (tMkO C sp [] t) := by
  obtain ⟨fI, fd, F1, T, iC, tI, hb, hm⟩ := c
  intro pins s σ H Q I h
  obtain ⟨nm, q, N, bs, bm, sn, sub, ab, col, dd, k0, k1, k2, k3, k5, hC, hbm⟩ := T.cls
  refine wpAny_Call_Name_kw (ld_glob I hg hm ?_ hdb)
  refine PySem.W.callWith_K (h₀ := X.base) I.ok.mod.kin T.kC ?_ he hpl
  refine thn (ha.run pos pins s σ H _ I h) ?_
  rintro us s1 ⟨vs, H1, I1, r1, hz, q1⟩
  refine ⟨I1.kIn, ?_⟩
  show wpAny _ _ (call (.ref C) us) _ _ _
  obtain ⟨hp, g, dr, tk, os⟩ := s1
  have hsz : hp.objs.size ≤ hp.objs.size + 1 := Nat.le_succ _
  have hn : H1 (hp.objs.size + 1) = none := I1.hok.fresh hsz
  have hq := q1 (hp.objs.size + 1) hn
  have kk : ∀ b o, hp.get? b = some o → ((hp.push (PySem.W.kdv_tup us)).push (PySem.HandSPX.excO C hp.objs.size)).get? b = some o := fun b o e => Heap.get?_push_of_some _ (Heap.get?_push_of_some _ e)
  have hget : ((hp.push (PySem.W.kdv_tup us)).push (PySem.HandSPX.excO C hp.objs.size)).get? (hp.objs.size + 1) = some (PySem.HandSPX.excO C hp.objs.size) := by heap_get
  have I2 : Inv X pins σ (upd H1 (hp.objs.size + 1) (exo (hp.objs.size + 1) C none)) ⟨(hp.push (PySem.W.kdv_tup us)).push (PySem.HandSPX.excO C hp.objs.size), g, dr, tk, os⟩ :=
    I1.laid (t' := tk) (a := hp.objs.size + 1) (o := exo (hp.objs.size + 1) C none) (h' := (hp.push (PySem.W.kdv_tup us)).push (PySem.HandSPX.excO C hp.objs.size)) kk hsz (exo_ok hget)
  rw [List.append_nil] at hq
  have r2 : Vals (V.ref (hp.objs.size + 1) :: vs) (Value.ref (hp.objs.size + 1) :: us) := .cons rfl r1
  have hl : (Value.ref (hp.objs.size + 1) :: us).length = ps.length := r2.length.symm.trans (F1.arity _ _ _ _ hq)
  have hb' := hb ⟨(hp.push (PySem.W.kdv_tup us)).push (PySem.HandSPX.excO C hp.objs.size), g, dr, tk, os⟩ (Value.ref (hp.objs.size + 1) :: us) I2.kIn (by rw [List.append_nil]; exact hl)
  rw [List.append_nil] at hb'
  have hus : us.length ≤ sizeLine := by
    rw [← Paired.length r1, sizeLine_eq]
    omega
  refine wpAny_call (PySem.HandSPX.call_own F.excBase_ValueError (fun Y => PySem.HandSPX.refsVE_contains Y bm hbm) (I1.kIn _ _ hC) (PySem.W.looks_findIn I1.kIn iC) (fun self => PySem.W.bind_fn I1.kIn self tI) hus
    (codeAny_mono (F1.go _ X.stack _ _ ⟨Value.ref (hp.objs.size + 1) :: us, []⟩ (Value.ref (hp.objs.size + 1) :: us) _ _ (fun _ _ _ => False) (r.make C us []) (I2.env0.make C us []) hb' r2 hq) fun r s' hq' => ?_))
  match r, hq' with
  | .error er, hq' => exact hx pins σ _ _ er s' I2 hq'
  | .ok .next, hq' => exact hq'.elim
  | .ok .brk, hq' => exact hq'.elim
  | .ok .cont, hq' => exact hq'.elim
  | .ok (.ret u), hq' =>
    obtain ⟨v, H2, os2, bare2, un2, hok2, rv, ev, d, fs, ea, ed, hd1, q2⟩ := hq'
    subst ev
    obtain ⟨h2, g2, d2, t2, os'⟩ := s'
    exact ⟨rv, mk_end (raises_own T.exC T.tyC) I1 hsz kk un2 hok2 os2 bare2 ea ed hd1 q2⟩
end
end G
namespace G
open PySem PySem.Spec PyProof.Rows L2
/-! ### fields -/
def gFld (K : PySem.W.Frag) (to : TE) (f : Str) : TG := fun v σ H Q => to σ H fun x H1 => ∃ a C dx fs, x = .ref a ∧ H1 a = some (.ins C dx fs) ∧ Cls K C ∧ NoAttr K C f ∧ fs.length < 1000 ∧ Q σ (upd H1 a (.ins C dx (putF f v fs)))
section
variable {X : Cx} {K : PySem.W.Frag} {o e : Expr} {f : Str} {to te : TE} {pos pos' : Pos}
theorem pg_fldK (hk : X.K = K) (ho : PE X o to) : PG X (.Attribute o f pos) (gFld K to f) := by
  subst hk
  constructor
  intro pins s σ H v u Q I r h
  show wpAny _ _ (holding [u] (eval o X.env) >>= fun ov => standAt pos.atName >>= fun _ => holding [u, ov] (setAttr ov f u) >>= fun _ => release [u, ov] []) _ _ _
  refine wpAny_bind (wpAny_holding (thn (ho.run pins s σ H _ I h) ?_))
  rintro ov s1 ⟨x, H1, I1, r1, a, C, dx, fs, rfl, ea, c, n, l, q⟩
  obtain rfl : ov = Value.ref a := r1
  refine wpAny_bind (wpAny_standAt (wpAny_bind (wpAny_holding (setattr_ok I1 ea c n l r ?_))))
  intro s2 I2
  exact wpAny_release ⟨σ, _, I2, q⟩
theorem pe_fldK (hk : X.K = K) (he : PE X e te) (hb : attributeBase e f X.env (eval e X.env) = eval e X.env) : PE X (.Attribute e f pos) (tFld K te f) := hk ▸ pe_fld he hb
theorem ps_fldK (hk : X.K = K) (ho : PE X o to) (he : PE X e te) (hs : swapsWith e (some (.Attribute o f pos')) pos.line X.env = pure false) : PS X (.Assign [.Attribute o f pos'] e pos) (sFld K to te f) := hk ▸ ps_fld ho he hs
theorem pg_unlK {es : List Expr} {k n : Nat} {t : TGs} (h : X.K = K) (hc : X.calm = true) (z : PGs X es t)
    (hn : (assignEach es X.env).length = n := by rfl) (hst : (assignEach es X.env).findIdx? (·.1) = none := by rfl) : PG X (.Tuple es k pos) (gUnl K n t) := h ▸ pg_unl hc z hn hst
end
section
variable {K : PySem.W.Frag} {σ : L2.St} {H : Hp} {Q : VK} {te ta : TE} {t : TA} {v : V} {a C dx : Addr} {fs : List (Str × V)} {f m : Str} {sp : Sp} {W : WX}
theorem x_fld (h : te σ H fun x H1 => ∃ a C dx fs v, x = .ref a ∧ H1 a = some (.ins C dx fs) ∧ Cls K C ∧ NoAttr K C f ∧ fs.lookup f = some v ∧ Q v H1) : tFld K te f σ H Q := h
theorem x_fldI {S : V → Prop} (e : H a = some (.ins C dx fs)) (c : Cls K C) (n : NoAttr K C f) (l : fs.lookup f = some v) (q : S v) : ∃ a' C dx fs v, V.ref a = .ref a' ∧ H a' = some (.ins C dx fs) ∧ Cls K C ∧ NoAttr K C f ∧ fs.lookup f = some v ∧ S v := ⟨a, C, dx, fs, v, rfl, e, c, n, l, q⟩
theorem x_sfld {D : Ends} {tv : TE} (h : tv σ H fun y H1 => te σ H1 fun x H2 => ∃ a C dx fs, x = .ref a ∧ H2 a = some (.ins C dx fs) ∧ Cls K C ∧ NoAttr K C f ∧ fs.length < 1000 ∧ D.nx σ (upd H2 a (.ins C dx (putF f y fs)))) : sFld K te tv f D σ H := h
theorem x_sfldI {S : Addr → Addr → Addr → List (Str × V) → Prop} (e : H a = some (.ins C dx fs)) (c : Cls K C) (n : NoAttr K C f) (l : fs.length < 1000) (z : S a C dx fs) : ∃ a' C dx fs, V.ref a = .ref a' ∧ H a' = some (.ins C dx fs) ∧ Cls K C ∧ NoAttr K C f ∧ fs.length < 1000 ∧ S a' C dx fs := ⟨a, C, dx, fs, rfl, e, c, n, l, z⟩
theorem x_gfld {q : L2.St → Hp → Prop} (h : te σ H fun x H1 => ∃ a C dx fs, x = .ref a ∧ H1 a = some (.ins C dx fs) ∧ Cls K C ∧ NoAttr K C f ∧ fs.length < 1000 ∧ q σ (upd H1 a (.ins C dx (putF f v fs)))) : gFld K te f v σ H q := h
theorem x_m (h : ta σ H fun x H1 => ∃ a dx fs, x = .ref a ∧ H1 a = some (.ins C dx fs) ∧ fs.lookup m = none ∧ t σ H1 fun vs H2 => sp (.ref a :: vs) H2 Q (WE W σ)) : tM C m sp W ta t σ H Q := h
theorem x_mr (h : ta σ H fun x H1 => ∃ a dx fs, x = .ref a ∧ H1 a = some (.ins C dx fs) ∧ fs.lookup m = none ∧ t σ H1 fun vs H2 => sp (.ref a :: vs.reverse) H2 Q (WE W σ)) : tMR C m sp W ta t σ H Q := h
theorem x_mI {P : Addr → Prop} (e : H a = some (.ins C dx fs)) (l : fs.lookup m = none) (q : P a) : ∃ a' dx fs, V.ref a = .ref a' ∧ H a' = some (.ins C dx fs) ∧ fs.lookup m = none ∧ P a' := ⟨a, dx, fs, rfl, e, l, q⟩
theorem x_i (h : t σ H fun vs H1 => nI C sp W σ vs H1 Q) : tI C sp W t σ H Q := h
theorem x_ir (h : t σ H fun vs H1 => nI C sp W σ vs.reverse H1 Q) : tIR C sp W t σ H Q := h
theorem x_ul {n : Nat} {u : TGs} {xs : List V} {q : L2.St → Hp → Prop} (h : SqL K H a xs) (hl : xs.length = n) (z : u xs σ H q) : gUnl K n u (.ref a) σ H q := ⟨a, xs, rfl, h, hl, z⟩
end
end G
set_option maxHeartbeats 4000000
/-! Part Y: several except clauses, each with a name; what a suite asks of the error. -/
namespace G
open PySem PySem.Spec PyProof.Rows L2
/-- the clauses, one behind the other; slot i is the name's -/
def wAll (K : PySem.W.Frag) (i : Nat) (Wo : WX) (D : Ends) : List (Value × (Addr → Value → Option Addr → TS)) → WX
  | [] => Wo
  | (c, ts) :: r => wAs K c i ts (wAll K i Wo D r) D
inductive Cls2 (X : Cx) (n : Str) : List ExceptHandler → List (Value × (Addr → Value → Option Addr → TS)) → Prop
  | nil : Cls2 X n [] []
  | cons {x : Str} {c : Value} {ts : Addr → Value → Option Addr → TS} {b₀ : Stmt} {suite : List Stmt} {np q : Pos} {hds : List ExceptHandler} {l : List (Value × (Addr → Value → Option Addr → TS))} (hc : Names X x c)
      (hsu : ∀ (a : Addr) (oe : Obj) (cls : Value) (d : Option Addr) (pn : List (Addr × Obj)), Zc cls d oe → (∃ vs, oe.data = .fields vs) → PSs (X.suite a ((a, oe) :: pn)) (b₀ :: suite) (ts a cls d)) (r : Cls2 X n hds l) :
      Cls2 X n (.ExceptHandler (some (.Name x np)) (some n) (b₀ :: suite) q :: hds) ((c, ts) :: l)
section
variable {X : Cx} {n : Str} {i : Nat} {body : List Stmt} {hd0 : ExceptHandler} {hds : List ExceptHandler} {l : List (Value × (Addr → Value → Option Addr → TS))} {pos : Pos} {tb : WX → TS} {Wo : WX}
theorem g_tries (hs : X.stack = X.env :: X.outer) (hf : X.env.frame = some X.env.locals) (hN : X.N.Nodup) (hi : X.N[i]? = some n) (hln : X.env.kindOf n = some .local) (tk : Takes X Wo)
    (hb : ∀ (W : WX) (pn : List (Addr × Obj)) (xe : Value → Shared → Prop), Takes (X.tr pn xe) W → PassesOwn (model X.prog X.w) X.A X.env xe → PSs (X.tr pn xe) body (tb W))
    (hh : Cls2 X n (hd0 :: hds) l) : PS X (.Try body (hd0 :: hds) [] [] pos) (fun D σ H => tb (wAll X.K i Wo D l) D σ H) := by
  constructor
  intro pins s σ H D I h
  have ok := I.ok
  have hloc : Loc X.env.scope n := .inl hln
  have hfr : X.A.frames = some (X.env :: X.outer) := by rw [ok.frames, hs]
  apply wpAny_Try_except
  refine wpAny_mono ((hb (wAll X.K i Wo D l) (X.pn ++ pins) (fun e s₁ => wpAny (model X.prog X.w) X.A (noteFrame e X.env) (fun _ s₂ => wpAny (model X.prog X.w) X.A (setFlight e none) (fun _ s₃ =>
    wpAny (model X.prog X.w) X.A (handleBy e X.env (hd0 :: hds)) (SP X pins D) X.xe s₃) X.xe s₂) X.xe s₁) (fun u s' xx => ?_) PassesOwn.looking).run [] s σ H D (I.toTry _) h) (fun fl s1 hsp => ?_) (fun e s1 he => he)
  · obtain ⟨a, B, sI, pins', σ', H', cls, d, rfl, J', nb, up, sky, na, os, ag, wsh⟩ := xx
    have J : Inv X pins σ' H' sI := J'.ofTry ok
    have sky' : Sky B (X.env :: X.outer) a (Zc cls d) X.env.locals s'.heap := by rw [← hs]; exact sky
    show wpAny (model X.prog X.w) X.A (noteFrame (.ref a) X.env) _ _ _
    refine Sky.land Zc.steady hfr hf sky' ?_
    intro h3 fl3 up3
    have J3 : Inv X pins σ' H' { s' with heap := h3 } := J.landed nb fl3.1 (up.trans up3) os ag
    obtain ⟨oe3, vs3, he3, hz3, hd3⟩ := fl3.there
    have off : ∀ {h : Heap} {o : Obj} {vs : Array Value}, h.FunFrames B (X.env :: X.outer) → h.get? a = some o → o.data = .fields vs → a ∉ frs (X.env :: X.outer) := by
      intro h o vs ff e dd hm
      obtain ⟨_, o', e', hnf⟩ := ff.mem hm
      rw [e] at e'
      cases e'
      exact hnf _ dd
    have nfr := off fl3.2.2.1 he3 hd3
    have nL : a ≠ X.env.locals := fun z => nfr (List.mem_filterMap.mpr ⟨X.env, List.mem_cons_self, by rw [hf, z]⟩)
    have nF : a ∉ X.fs := by
      intro hm
      obtain ⟨e, he, q⟩ := List.mem_filterMap.mp hm
      exact nfr (List.mem_filterMap.mpr ⟨e, List.mem_cons_of_mem _ he, q⟩)
    have S3 := J3.suite he3 hd3 na nL nF
    have go : ∀ {hs' : List ExceptHandler} {l' : List (Value × (Addr → Value → Option Addr → TS))}, Cls2 X n hs' l' → wAll X.K i Wo D l' cls d σ' H' →
        wpAny (model X.prog X.w) X.A (handleBy (.ref a) X.env hs') (SP X pins D) X.xe { s' with heap := h3 } := by
      intro hs' l' hk
      induction hk with
      | nil =>
        intro wsh
        apply wpAny_handleBy_nil
        obtain ⟨k1, k2, k3, oe, vs, T, oT, ts', he, hz, hd, h1, hr⟩ := id fl3
        unfold PySem.passOn
        refine wpAny_bind (wpAny_field he hd h1 ?_)
        rw [if_neg (show ¬ ((Value.ref T == Value.none) = true) by simp)]
        have fin : wpAny (model X.prog X.w) X.A (setFlight (.ref a) X.env.frame) (fun _ s4 => wpAny (model X.prog X.w) X.A (throw (.ref a) : Sem Flow) (SP X pins D) X.xe s4) X.xe { s' with heap := h3 } := by
          rw [hf]
          refine HandSPX.setFlight_upZ fl3 ?_
          intro h4 hh4 up4
          exact wpAny_throw (tk _ _ ⟨a, B, sI, pins, σ', H', cls, d, rfl, J, nb, (up.trans up3).trans up4, .inr (.inr (by rw [hs]; exact hh4)), na, os, ag, wsh⟩)
        first
          | exact wpAny_bind (wpAny_pure (wpAny_bind fin))
          | exact wpAny_bind fin
      | @cons x c ts b₀ suite np q hds2 l2 hc hsu r ih =>
        intro wsh
        obtain ⟨b, hb1, hyes, hno⟩ := wsh
        refine wpAny_handleBy_cons (codeAny_handlers_test ?_) (by intro q; cases q)
        have LT : PySem.W.Looks (model X.prog X.w) h3 (typeOf (.ref a)) cls := fun A Q E s k q => wpAny_typeOf_ref (k _ _ he3) (by rw [hz3.1]; exact q)
        have LM := PySem.W.exm_one (M := model X.prog X.w) (J3.kIn) LT hb1
        have test : ∀ {Q : Value → Shared → Prop} {E : Value → Shared → Prop}, Q c { s' with heap := h3 } → wpAny (model X.prog X.w) (X.A.mark (some (.ref a))) (eval (.Name x np) X.env) Q E { s' with heap := h3 } := by
          intro Q E q
          obtain ⟨hg, hdbg, hm | ⟨hm, hv, hnn⟩⟩ := hc
          · exact ld_glob (X := X.suite a ((a, oe3) :: (X.pn ++ pins))) S3 hg hm q hdbg
          · exact ld_blt (X := X.suite a ((a, oe3) :: (X.pn ++ pins))) S3 hg hm hv q hnn hdbg
        refine test (LM.here ?_)
        cases b with
        | false =>
          show wpAny _ X.A (handleBy (.ref a) X.env hds2) _ _ _
          exact ih (hno rfl)
        | true =>
          apply codeAny_handlers_suite_as
          refine HandSPX.lands_againZ fl3 ?_
          intro h4 fl4 up4
          have J4 : Inv X pins σ' H' { s' with heap := h4 } := J.landed nb fl4.1 ((up.trans up3).trans up4) os ag
          obtain ⟨oe4, vs4, he4, hz4, hd4⟩ := fl4.there
          have S4 := J4.suite he4 hd4 na nL nF
          refine store_ok (X := X.suite a ((a, oe4) :: (X.pn ++ pins))) (v := .ref a) S4 hN hi hloc rfl ?_ (.inr hln)
          intro s5 S5
          refine wpAny_mono ((hsu a oe4 cls d (X.pn ++ pins) hz4 ⟨_, hd4⟩).run [] s5 _ H' _ S5 (hyes rfl a na)) ?_ (fun _ _ z => False.elim z)
          intro fl s6 hsp
          have end_ : ∀ {σ6 : L2.St} {H6 : Hp} {Q : Shared → Prop}, Inv (X.suite a ((a, oe4) :: (X.pn ++ pins))) [] σ6 H6 s6 → (∀ s7, Inv X pins (σ6.set i none) H6 s7 → Q s7) →
              wpAny (model X.prog X.w) X.A (do bindName X.env n .none; unbindBehindTheSuite X.env n q) (fun _ s7 => Q s7) X.xe s6 := fun S6 hq => gone_ok (S6.unsuite ok) hN hi hln hq
          match fl, hsp with
          | .next, ⟨σ6, H6, S6, q6⟩ => exact end_ S6 fun s7 J7 => ⟨_, _, J7, q6⟩
          | .brk, ⟨σ6, H6, S6, q6⟩ => exact end_ S6 fun s7 J7 => ⟨_, _, J7, q6⟩
          | .cont, ⟨σ6, H6, S6, q6⟩ => exact end_ S6 fun s7 J7 => ⟨_, _, J7, q6⟩
          | .ret u, ⟨v6, σ6, H6, S6, r6, q6⟩ => exact end_ S6 fun s7 J7 => ⟨_, _, _, J7, r6, q6⟩
    exact go hh wsh
  · match fl, hsp with
    | .next, ⟨σ', H', J', q⟩ => exact wpAny_execs_nil ⟨σ', H', J'.ofTry ok, q⟩
    | .brk, ⟨σ', H', J', q⟩ => exact ⟨σ', H', J'.ofTry ok, q⟩
    | .cont, ⟨σ', H', J', q⟩ => exact ⟨σ', H', J'.ofTry ok, q⟩
    | .ret u, ⟨v, σ', H', J', r, q⟩ => exact ⟨v, σ', H', J'.ofTry ok, r, q⟩
end
/-- isinstance(e, c), e the error in hand, of a class of the program, with its dict -/
structure XisC (K : PySem.W.Frag) (C : Addr) : Prop where
  cl : (PySem.W.clsIn K C).isSome = true
  ga : PySem.W.findIn K (.ref C) "__getattribute__" = some (some (.builtin "BaseException.__getattribute__"))
  gt : PySem.W.findIn K (.ref C) "__getattr__" = some none
  sub : PySem.W.subIn K (.ref C) (.type "BaseException") = some true
  ha : PySem.W.findIn K (.ref C) "__class__" = some (some (.builtin "object.__class__"))
  hn : PySem.W.specialIn K (.builtin "object.__class__") "__get__" = some (some (.builtin "getset_descriptor.__get__"))
  ht : PySem.W.takesIn K (.builtin "object.__class__") = some true
  hm : PySem.W.mroIn K C (.type "object") = some true
def aIsX (K : PySem.W.Frag) (a : Addr) (cls : Value) (d : Option Addr) : List V → Hp → VK → Prop := fun xs H Q => ∃ (c : V) (cv : Value) (b : Bool) (C dd : Addr) (fs : List (Str × V)), xs = [.ref a, c] ∧ cls = .ref C ∧ XisC K C ∧ d = some dd ∧ H dd = some (.xd fs) ∧ (∀ u, RelV c u → u = cv) ∧ PySem.W.kitOne K (.ref C) cv = some b ∧ Q (.bl b) H
theorem cIsX {X : Cx} {a : Addr} {cls : Value} {d : Option Addr} {oe : Obj} {pn : List (Addr × Obj)} (hz : Zc cls d oe) (hf : ∃ vs, oe.data = .fields vs) : CallR (X.suite a ((a, oe) :: pn)) (.builtin "isinstance") (aIsX X.K a cls d) := by
  intro pins s σ H xs us Q I r h
  obtain ⟨c, cv, b, C, dd, fs, rfl, rfl, T, rfl, ed, hcv, e, q⟩ := h
  match us, r with
  | [_, _], .cons rx (.cons rt .nil) =>
    cases rx
    have ec := hcv _ rt
    subst ec
    obtain ⟨hget, _⟩ := I.pin (a, oe) (List.mem_append.mpr (.inl List.mem_cons_self))
    obtain ⟨vs, hv⟩ := hf
    obtain ⟨mA, hns, _⟩ := (show ObjOk X.prog X.w H s.heap dd (.xd fs) from I.hok dd _ ed)
    obtain ⟨od, ho, hl⟩ := lookIn_ns hns
    have J : PySem.W.InstAt s.heap a oe C (some od) := ⟨hget, hz.1, by unfold PySem.W.notCls; rw [hv] <;> rfl, by rw [hz.2]; exact ho⟩
    exact PySem.W.kia_one (PySem.W.kitx_exc T.cl T.ga T.gt T.sub T.ha T.hn T.ht T.hm) I.kIn J e (fun z => nomatch z) fun tk => ⟨.bl b, H, I.kept (t' := tk) fun _ _ z => z, rfl, q⟩
end G
set_option maxHeartbeats 4000000
/-! Part U: texts times numbers, a dict of one pair, what is ours in another order, errors of the program. -/
namespace G
open PySem PySem.Spec PyProof.Rows L2
theorem putF_ne {f g : Str} {v u : V} {r : List (Str × V)} (h : ¬ g = f) : putF f v ((g, u) :: r) = (g, u) :: putF f v r := if_neg h
theorem putF_eq {f : Str} {v u : V} {r : List (Str × V)} : putF f v ((f, u) :: r) = (f, v) :: r := if_pos rfl
theorem putF_nil {f : Str} {v : V} : putF f v [] = [(f, v)] := rfl
theorem x_forZ {K : PySem.W.Frag} {σ : L2.St} {H : Hp} {ta : TA} {g : TG} {tb : TS} {D : Ends} (h : ta σ H fun vs H1 => ∃ a b xs ys, vs = [.ref a, .ref b] ∧ SqL K H1 a xs ∧ SqL K H1 b ys ∧ tFor (iAt (Itz K a b)) g tb D σ H1) : tFor (iZip K ta) g tb D σ H := h
theorem x_rep {H : Hp} {Q : VK} {p : Addr} {xs : List V} {n : Int} (h : H p = some (.lst xs)) (h0 : 0 ≤ n) (h1 : n ≤ 1000) (hz : xs.length ≤ 1000) (q : nw (.lst (List.replicate n.toNat xs).flatten) H Q) : aMul (.ref p) (.int n) H Q := by
  refine .inr ⟨p, n, xs, rfl, rfl, h, by omega, by omega, ?_, q⟩
  have h2 : n.toNat ≤ 1000 := by omega
  exact Nat.le_trans (Nat.mul_le_mul hz h2) (by decide)
theorem x_make {C : Addr} {sp : Sp} {W : WX} {σ : L2.St} {vs : List V} {G H : Hp} {L : List (Addr × HO)} {Q : VK} (O : Own G H L)
    (h : ∀ (y dx : Addr) (H' : Hp), Own G H' ((y, .ins C dx []) :: (dx, .own y) :: L) → sp (.ref y :: vs) H' (fun v H2 => v = .non ∧ Q (.ref y) H2) (WE W σ)) : nI C sp W σ vs H Q := fun y dx hy hd hne => by
  have O1 := O.new (o := .own y) hd
  have O2 := O1.new (p := y) (o := .ins C dx []) (by rw [upd_ne (Ne.symm hne)]; exact hy)
  exact h y dx _ O2
theorem ite_nt {A B : Prop} (h : B) : if (!true) = true then A else B := by rw [if_neg (by decide)]; exact h
theorem ite_nf {A B : Prop} (h : A) : if (!false) = true then A else B := by rw [if_pos (by decide)]; exact h
def rRepS : R2 := fun x y H Q => ∃ a n, x = .str a ∧ y = .int n ∧ MulOk a n ∧ Q (.str (Txt.mul a n)) H
theorem op_repS {X : Cx} : OpR X (binaryOp .Mult) rRepS := by
  intro pins s σ H x y v u Q I rx ry h
  obtain ⟨a, n, rfl, rfl, ok, q⟩ := h
  obtain ⟨t, rfl⟩ := rx
  obtain ⟨t2, rfl⟩ := ry
  exact SB.mul ok fun t' k => ⟨.str _, H, I.tok _, ⟨_, rfl⟩, q⟩
theorem mul_small {x : Str} {n : Int} (hx : x.length ≤ 1000) (h0 : 0 ≤ n) (h1 : n ≤ 16000) : MulOk x n := mulOk_of 1000 16000 hx h1 (by omega) (by decide) (by decide)
section
variable {X : Cx} {K : PySem.W.Frag} {σ : L2.St} {H : Hp} {Q : VK} {i : Nat} {v : V} {x : Str} {e1 e2 : Expr} {t1 t2 : TE} {pos : Pos}
theorem x_repS {a : Str} {n : Int} (h : MulOk a n) (q : Q (.str (Txt.mul a n)) H) : rRepS (.str a) (.int n) H Q := ⟨a, n, rfl, rfl, h, q⟩
theorem d_dict1 (h1 : PE X e1 t1) (h2 : PE X e2 t2) : PE X (.Dict [some e1] [e2] pos) (tDisp [(t1, t2)]) := pe_disp (pps_cons h1 h2 pps_nil) rfl rfl (by simp) (by show 1 ≤ 15; decide)
theorem x_dict1 (h : σ[i]? = some (some v)) (q : nw (.dK [(.inr x, v)]) H Q) : tDisp [(tC (.str x), tVar i)] σ H Q := fun p hp =>
  ⟨v, h, upd_same, [(.inr x, v)], rfl, (by show 1 ≤ 15; decide), by rw [upd_upd]; exact q p hp⟩
end
section
variable {G H : Hp} {A B C D R L : List (Addr × HO)}
theorem Own.ab (O : Own G H (A ++ (B ++ R))) : Own G H (B ++ (A ++ R)) := O.perm (by rw [← List.append_assoc, ← List.append_assoc]; exact List.Perm.append_right R List.perm_append_comm)
theorem Own.rab (O : Own G H (L ++ (A ++ (B ++ R)))) : Own G H (L ++ (B ++ (A ++ R))) := O.perm (List.Perm.append_left L (by rw [← List.append_assoc, ← List.append_assoc]; exact List.Perm.append_right R List.perm_append_comm))
/-- the third to the front -/
theorem Own.c1 (O : Own G H (A ++ (B ++ (C ++ R)))) : Own G H (C ++ (A ++ (B ++ R))) := (Own.rab O).ab
theorem Own.c3 (O : Own G H (C ++ (A ++ (B ++ R)))) : Own G H (A ++ (B ++ (C ++ R))) := (O.ab).rab
theorem Own.dropA (O : Own G H (A ++ R)) : Own G H R := by
  induction A with
  | nil => exact O
  | cons a A ih => exact ih O.tail
end
section
variable {G H : Hp} {A R L : List (Addr × HO)} {p : Addr} {o o' : HO} {S : Hp → Prop}
theorem Own.in_ (O : Own G H (A ++ ((p, o) :: R))) : H p = some o := (O.has (p, o) (List.mem_append_right _ List.mem_cons_self)).1
theorem Own.updA (O : Own G H (A ++ ((p, o) :: R))) : Own G (upd H p o') (A ++ ((p, o') :: R)) := by
  have O1 : Own G H ((p, o) :: (A ++ R)) := O.perm List.perm_middle
  exact (O1.upd0 (o' := o')).perm List.perm_middle.symm
theorem Own.dropAt {q : Addr × HO} (O : Own G H (A ++ (q :: R))) : Own G H (A ++ R) := (O.perm List.perm_middle).tail
theorem Own.putAt {q : Addr × HO} (O : Own G H (q :: (A ++ R))) : Own G H (A ++ (q :: R)) := O.perm List.perm_middle.symm
theorem Own.frontAt {q : Addr × HO} (O : Own G H (A ++ (q :: R))) : Own G H (q :: (A ++ R)) := O.perm List.perm_middle
theorem x_mdA (O : Own G H (A ++ ((p, o) :: R))) (k : ∀ H', Own G H' (A ++ ((p, o') :: R)) → S H') : md p o' H S := k _ O.updA
end
/-! ### the errors -/
/-- what __init__(self, given) of an error does -/
def sp_xi (C : Addr) : Sp := fun vs H Q _ => ∃ (a : Addr) (v : V), vs = [.ref a, v] ∧ H a = some (exo a C none) ∧ ∀ d, H d = none → d ≠ a → Q .non (upd (upd H d (exd d [("given", v)])) a (exo a C (some d)))
structure Xk (P : Program) (w : World) (K : PySem.W.Frag) (mg : Str → Option Value) (base : Heap) (k : Nat) (x : Str) (C D : Addr) : Prop where
  at_ : mg x = some (.ref C)
  er : Er P w K mg base k C x ["self", "given"] (sp_xi C)
  xf : XfC K C
  ng : PySem.W.findIn K (.ref C) "given" = some none
  xi : XisC K C
  te : PySem.W.exmOne K (.ref C) (.ref C) = some true
  kf : PySem.W.kitOne K (.ref C) (.ref D) = some true
theorem Xk.up {P : Program} {w : World} {K : PySem.W.Frag} {mg : Str → Option Value} {base : Heap} {j k : Nat} {x : Str} {C D : Addr} (c : Xk P w K mg base j x C D) (h : j ≤ k) : Xk P w K mg base k x C D :=
  ⟨c.at_, c.er.up h, c.xf, c.ng, c.xi, c.te, c.kf⟩
theorem upd_err {H1 : Hp} {a d : Addr} {v : V} {C : Addr} (ha : H1 a = none) (hda : d ≠ a) :
    upd (del (upd (upd (upd H1 a (exo a C none)) d (exd d [("given", v)])) a (exo a C (some d))) a) d (.xd [("given", v)]) = upd H1 d (.xd [("given", v)]) := by
  funext b
  by_cases hb : b = d
  · rw [hb, upd_same, upd_same]
  · rw [upd_ne hb, upd_ne hb]
    by_cases hc : b = a
    · rw [hc, del_same, ha]
    · rw [del_ne hc, upd_ne hc, upd_ne hb, upd_ne hc]
section
variable {σ : L2.St} {H : Hp} {C : Addr} {t : TA} {Wd : Value → Option Addr → Hp → Prop}
theorem x_err {v : V} (h : ∀ d, H d = none → Wd (.ref C) (some d) (upd H d (.xd [("given", v)]))) : [v].length ≤ 1000 ∧ ∀ a, H a = none → sp_xi C (.ref a :: ([v] ++ [])) (upd H a (exo a C none))
    (fun v H2 => v = .non ∧ ∃ (d : Addr) (fs : List (Str × V)), H2 a = some (exo a C (some d)) ∧ H2 d = some (exd d fs) ∧ H d = none ∧ Wd (.ref C) (some d) (upd (del H2 a) d (.xd fs))) (fun _ _ _ => False) := by
  refine ⟨by show 1 ≤ 1000; decide, fun a ha => ⟨a, v, rfl, upd_same, fun d hd hda => ⟨rfl, d, _, upd_same, by rw [upd_ne hda, upd_same], ?_, ?_⟩⟩⟩
  · rw [upd_ne hda] at hd
    exact hd
  · rw [upd_err ha hda]
    rw [upd_ne hda] at hd
    exact h d hd
/-- raise C(v): what is ours stays so -/
theorem x_raise {G : Hp} {L : List (Addr × HO)} {v : V} (O : Own G H L) (h : ∀ (d : Addr) (G' H' : Hp), Same G G' → Own G' H' L → G' d = some (.xd [("given", v)]) → Wd (.ref C) (some d) H') :
    [v].length ≤ 1000 ∧ ∀ a, H a = none → sp_xi C (.ref a :: ([v] ++ [])) (upd H a (exo a C none))
    (fun v H2 => v = .non ∧ ∃ (d : Addr) (fs : List (Str × V)), H2 a = some (exo a C (some d)) ∧ H2 d = some (exd d fs) ∧ H d = none ∧ Wd (.ref C) (some d) (upd (del H2 a) d (.xd fs))) (fun _ _ _ => False) :=
  x_err fun d hd => h d _ _ (Same.new (O.free hd)) (O.fix hd) upd_same
theorem x_mko {sp : Sp} {Q : XK} (h : t σ H fun vs H1 => vs.length ≤ 1000 ∧ ∀ a, H1 a = none → sp (.ref a :: (vs ++ [])) (upd H1 a (exo a C none))
    (fun v H2 => v = .non ∧ ∃ (d : Addr) (fs : List (Str × V)), H2 a = some (exo a C (some d)) ∧ H2 d = some (exd d fs) ∧ H1 d = none ∧ Q (.ref C) (some d) (upd (del H2 a) d (.xd fs))) (fun _ _ _ => False)) : tMkO C sp [] t σ H Q := h
theorem x_vei {K : PySem.W.Frag} {Q : VK} (h : t σ H fun vs H1 => ∃ (a C : Addr) (ws : List V), vs = .ref a :: ws ∧ ws.length ≤ 1000 ∧ OexC K C ∧ H1 a = some (exo a C none) ∧ Q .non H1) : tVeI K t σ H Q := h
theorem x_ost {K : PySem.W.Frag} {D : Ends} {f : Str} {to te : TE} (h : te σ H fun y H1 => to σ H1 fun x H2 => ∃ a C : Addr, x = .ref a ∧ OexC K C ∧ PySem.W.findIn K (.ref C) f = some none ∧
  ((H2 a = some (exo a C none) ∧ ∀ dx, H2 dx = none → dx ≠ a → D.nx σ (upd (upd H2 dx (exd dx [(f, y)])) a (exo a C (some dx)))) ∨
    ∃ (dx : Addr) (fs : List (Str × V)), H2 a = some (exo a C (some dx)) ∧ H2 dx = some (exd dx fs) ∧ fs.length ≤ 900 ∧ D.nx σ (upd H2 dx (exd dx ((f, y) :: fs))))) : tOst K f to te D σ H := h
end
end G
set_option maxHeartbeats 4000000
/-! Part V: small lemmas that more than one law wants. -/
namespace G
open PySem PySem.Spec PyProof.Rows L2
section
variable {K : PySem.W.Frag} {H : Hp} {Q : VK} {a : Addr} {xs : List V} {σ : L2.St} {v : V}
theorem at_0 {α : Type} {a : α} {xs : List α} : atI (a :: xs) 0 = some a := atI_nat (j := 0) rfl
theorem inV_str {x : Str} {ts : List Str} : inV (.str x) (ts.map V.str) = ts.contains x := by
  unfold inV
  rw [List.any_map]
  induction ts with
  | nil => rfl
  | cons t ts ih =>
    rw [List.any_cons, List.contains_cons, ih]
    congr 1
    show eqV (.str t) (.str x) = _
    simp only [eqV]
    rw [Bool.eq_iff_iff]
    simp only [beq_iff_eq, decide_eq_true_eq]
    exact eq_comm
theorem flat_strs {ts : List Str} : (ts.map V.str).all flatV = true := by
  rw [List.all_map]
  exact List.all_eq_true.mpr fun _ _ => rfl
theorem x_inS {H : Hp} {Q : VK} {a : Addr} {x : Str} {ts : List Str} (h : SqL K H a (ts.map V.str) ∨ SqT K H a (ts.map V.str)) (q : Q (.bl (ts.contains x)) H) : rIn K false (.str x) (.ref a) H Q := by
  rcases h with h | h
  · exact x_inl h rfl flat_strs (by rw [inV_str]; exact q)
  · exact x_int h rfl flat_strs (by rw [inV_str]; exact q)
theorem x_ninS {H : Hp} {Q : VK} {a : Addr} {x : Str} {ts : List Str} (h : SqL K H a (ts.map V.str) ∨ SqT K H a (ts.map V.str)) (q : Q (.bl (!ts.contains x)) H) : rIn K true (.str x) (.ref a) H Q := by
  rcases h with h | h
  · exact x_inl h rfl flat_strs (by rw [inV_str]; exact q)
  · exact x_int h rfl flat_strs (by rw [inV_str]; exact q)
theorem Own.sq {G H : Hp} {L : List (Addr × HO)} {a : Addr} {xs : List V} (O : Own G H L) (h : SqL K G a xs ∨ SqT K G a xs) : SqL K H a xs ∨ SqT K H a xs := h.imp O.seq O.set
theorem sq_same {G H : Hp} {a : Addr} {xs : List V} (s : Same G H) (h : SqL K G a xs ∨ SqT K G a xs) : SqL K H a xs ∨ SqT K H a xs := h.imp s.seq (same_t s)
theorem x_lenLT (h : SqL K H a xs ∨ SqT K H a xs) (q : Q (.int xs.length) H) : aLen K [.ref a] H Q := h.elim (fun h => x_lenl h q) fun h => x_lent h q
theorem x_ixLT {j : Int} (h : SqL K H a xs ∨ SqT K H a xs) (e : atI xs j = some v) (q : Q v H) : rIx K (.ref a) (.int j) H Q := h.elim (fun h => x_ixl h e q) fun h => x_ixt h e q
theorem str_eq {x y : Str} : decide (V.str x = V.str y) = (x == y) := by
  rw [Bool.eq_iff_iff, decide_eq_true_eq, beq_iff_eq]
  exact ⟨fun z => by cases z; rfl, fun z => by rw [z]⟩
theorem int_eq {x y : Int} : decide (V.int x = V.int y) = decide (x = y) := decide_eq_decide.mpr ⟨fun z => by cases z; rfl, fun z => by rw [z]⟩
theorem x_eval {te : TE} (R : V → Hp → Prop) (h2 : ∀ Q2 : VK, (∀ v H, R v H → Q2 v H) → te σ H Q2) (h1 : ∀ v H, R v H → Q v H) : te σ H Q := h2 Q h1
theorem x_chain {r r' : R2} {ta tb tc : TE} (h : ta σ H fun x H1 => tb σ H1 fun y H2 => r x y H2 fun z H3 => ∃ k, z = .bl k ∧ (if k = true then tc σ H3 fun w' H4 => r' y w' H4 Q else Q (.bl false) H3)) : tChain r r' ta tb tc σ H Q := h
end
end G
set_option maxHeartbeats 4000000
/-! Part P: errors without a field. -/
namespace G
open PySem PySem.Spec PyProof.Rows L2
section
variable {X : Cx} {pins : List (Addr × Obj)} {σ : L2.St} {H1 H2 : Hp} {Q : XK} {hp hp2 h2 : Heap} {g1 g2 : Array GenState} {d1 d2 : Drawn} {t1 t2 : Nat} {os1 os2 : OsState} {a C : Addr}
/-- the end of C(): the error is let go; it has no dict -/
theorem mk_end00 (T : Raises X (.ref C)) (I1 : Inv X pins σ H1 ⟨hp, g1, d1, t1, os1⟩) (ha : hp.objs.size ≤ a) (k : ∀ b o, hp.get? b = some o → hp2.get? b = some o) (un : Un (frs X.stack) [] (upd H1 a (exo a C none)) H2 hp2 h2)
    (hok : HOk X.prog X.w H2 h2) (ho : os2 = os1) (hb : AllBare g2) (ea : H2 a = some (exo a C none)) (q : Q (.ref C) none (del H2 a)) : MkP X pins σ Q (.ref a) ⟨h2, g2, d2, t2, os2⟩ := by
  obtain ⟨t0, hoe⟩ := exo_at hok ea
  have hn : H1 a = none := I1.hok.fresh ha
  obtain ⟨G, y1, y2⟩ := restrict h2 fun b => decide (b ≠ a)
  have gk : ∀ b, b ≠ a → G.get? b = h2.get? b := fun b hb => y1 b (decide_eq_true hb)
  have ge : G.get? a = none := y2 a (by simp)
  have nha : ∀ {b : Addr} {o : Obj}, hp.get? b = some o → b ≠ a := fun z => Nat.ne_of_lt (Nat.lt_of_lt_of_le (Heap.lt_size z) ha)
  have up : ∀ {b : Addr}, b ≠ a → H1 b = none → upd H1 a (exo a C none) b = none := fun hb n => by rw [upd_ne hb]; exact n
  have U : Un (frs X.stack) [] H1 (del H2 a) hp G := {
    keep := fun b o z n hf hx => by
      rw [gk b (nha z)]
      exact un.keep b o (k b o z) (up (nha z) n) hf hx
    slot := fun b o z n hf hx => by
      rw [gk b (nha z)]
      exact un.slot b o (k b o z) (up (nha z) n) hf hx
    free := fun b o z n hx => by
      rw [del_ne (nha z)]
      exact un.free b o (k b o z) (up (nha z) n) hx
    there := fun b o z hx => by
      rw [gk b (nha z)]
      exact un.there b o (k b o z) hx
    tups := fun b xs z => by
      rw [del_ne (ne_of_none z hn)]
      exact un.tups b xs (by rw [upd_ne (ne_of_none z hn)]; exact z)
    frzs := fun b o v z => by
      rw [del_ne (ne_of_none z hn)]
      exact un.frzs b o v (by rw [upd_ne (ne_of_none z hn)]; exact z)
    tbls := fun b ps z => by
      rw [del_ne (ne_of_none z hn)]
      exact un.tbls b ps (by rw [upd_ne (ne_of_none z hn)]; exact z) }
  have hok3 : HOk X.prog X.w (del H2 a) G := fun b o z => by
    have hba : b ≠ a := fun e => by
      rw [e, del_same] at z
      cases z
    rw [del_ne hba] at z
    have noa : ∀ {c : Addr}, H2 c = some (.own b) → c ≠ a := fun hc => at_ne ea hc exo_own
    refine (hok b o z).stay (fun c v hc y => ?_) (fun c hc => by rw [del_ne (noa hc)]; exact hc) (fun c xs hc => by rw [del_ne (at_ne ea hc exo_tup)]; exact hc)
    have hca : c ≠ a := by
      rcases hc with hc | hc
      · rw [hc]
        exact hba
      · exact noa hc
    rw [gk c hca]
    exact y
  have J : Inv X pins σ (del H2 a) ⟨G, g2, d2, t2, os2⟩ := I1.call' (ch := []) ho U hok3 hb (fun b z => absurd z (by simp))
  refine ⟨a, _, _, ⟨G, g2, d2, t2, os2⟩, _, .ref C, none, rfl, J, fun b o z => ?_, ge, hoe, ⟨rfl, rfl⟩, rfl, rfl, del_same, rfl, hb, T, q⟩
  by_cases hba : b = a
  · have z' : G.get? b = some o := z
    rw [hba, ge] at z'
    cases z'
  · exact (gk b hba).symm.trans z
end
section
variable {X : Cx} {k : Nat} {C : Addr} {sp : Sp} {x : Str} {p pos : Pos}
def tMk0 (C : Addr) (sp : Sp) : L2.St → Hp → XK → Prop := fun _ H Q => ∀ a, H a = none → sp [.ref a] (upd H a (exo a C none)) (fun v H2 => v = .non ∧ H2 a = some (exo a C none) ∧ Q (.ref C) none (del H2 a)) (fun _ _ _ => False)
/-- C(), C an error of the program -/
theorem g_err0 (c : Er X.prog X.w X.K X.mg X.base k C x ["self"] sp) (r : Rm (k + 1) X.A) (hg : Gl X x) (hx : Passes (L2.CX X.prog X.w) X (fun _ _ _ => False)) (hdb : (x == ("__debug__" : Str)) = false := by decide) : PMk X (.Call (.Name x p) [] [] pos) (tMk0 C sp) := by
  obtain ⟨fI, fd, F1, T, iC, tI, hb, hm⟩ := c
  intro pins s σ H Q I h
  obtain ⟨nm, q, N, bs, bm, sn, sub, ab, col, dd, k0, k1, k2, k3, k5, hC, hbm⟩ := T.cls
  refine wpAny_Call_Name_kw (ld_glob I hg hm ?_ hdb)
  refine PySem.W.callWith_K0 I.kIn T.kC ?_
  show wpAny _ _ (call (.ref C) []) _ _ _
  obtain ⟨hp, g, dr, tk, os⟩ := s
  have hsz : hp.objs.size ≤ hp.objs.size + 1 := Nat.le_succ _
  have hn : H (hp.objs.size + 1) = none := I.hok.fresh hsz
  have hq := h (hp.objs.size + 1) hn
  have kk : ∀ b o, hp.get? b = some o → ((hp.push (PySem.W.kdv_tup [])).push (PySem.HandSPX.excO C hp.objs.size)).get? b = some o := fun b o e => Heap.get?_push_of_some _ (Heap.get?_push_of_some _ e)
  have hget : ((hp.push (PySem.W.kdv_tup [])).push (PySem.HandSPX.excO C hp.objs.size)).get? (hp.objs.size + 1) = some (PySem.HandSPX.excO C hp.objs.size) := by heap_get
  have I2 : Inv X pins σ (upd H (hp.objs.size + 1) (exo (hp.objs.size + 1) C none)) ⟨(hp.push (PySem.W.kdv_tup [])).push (PySem.HandSPX.excO C hp.objs.size), g, dr, tk, os⟩ :=
    I.laid (t' := tk) (a := hp.objs.size + 1) (o := exo (hp.objs.size + 1) C none) (h' := (hp.push (PySem.W.kdv_tup [])).push (PySem.HandSPX.excO C hp.objs.size)) kk hsz (exo_ok hget)
  have hb' := hb ⟨(hp.push (PySem.W.kdv_tup [])).push (PySem.HandSPX.excO C hp.objs.size), g, dr, tk, os⟩ [Value.ref (hp.objs.size + 1)] I2.kIn rfl
  have r2 : Vals [V.ref (hp.objs.size + 1)] [Value.ref (hp.objs.size + 1)] := .cons rfl .nil
  refine wpAny_call (PySem.HandSPX.call_own F.excBase_ValueError (fun Y => PySem.HandSPX.refsVE_contains Y bm hbm) (I.kIn _ _ hC) (PySem.W.looks_findIn I.kIn iC) (fun self => PySem.W.bind_fn I.kIn self tI) (by show 0 ≤ sizeLine; decide)
    (codeAny_mono (F1.go _ X.stack _ _ ⟨[Value.ref (hp.objs.size + 1)], []⟩ [Value.ref (hp.objs.size + 1)] _ _ (fun _ _ _ => False) (r.make C [] []) (I2.env0.make C [] []) hb' r2 hq) fun r s' hq' => ?_))
  match r, hq' with
  | .error er, hq' => exact hx pins σ _ _ er s' I2 hq'
  | .ok .next, hq' => exact hq'.elim
  | .ok .brk, hq' => exact hq'.elim
  | .ok .cont, hq' => exact hq'.elim
  | .ok (.ret u), hq' =>
    obtain ⟨v, H2, os2, bare2, un2, hok2, rv, ev, ea, q2⟩ := hq'
    subst ev
    obtain ⟨h2, g2, d2, t2, os'⟩ := s'
    exact ⟨rv, mk_end00 (raises_own T.exC T.tyC) I hsz kk un2 hok2 os2 bare2 ea q2⟩
/-- what __init__(self) of an error does -/
def sp_x0 (C : Addr) : Sp := fun vs H Q _ => ∃ a : Addr, vs = [.ref a] ∧ H a = some (exo a C none) ∧ Q .non H
theorem x_raise0 {H : Hp} {σ : L2.St} {Wd : Value → Option Addr → Hp → Prop} (h : Wd (.ref C) none H) : tMk0 C (sp_x0 C) σ H (fun cls d H' => Wd cls d H') := fun a ha => by
  refine ⟨a, rfl, upd_same, rfl, upd_same, ?_⟩
  have e : del (upd H a (exo a C none)) a = H := by
    funext b
    by_cases hb : b = a
    · rw [hb, del_same, ha]
    · rw [del_ne hb, upd_ne hb]
  rw [e]
  exact h
end
structure Xk0 (P : Program) (w : World) (K : PySem.W.Frag) (mg : Str → Option Value) (base : Heap) (k : Nat) (x : Str) (C D : Addr) : Prop where
  at_ : mg x = some (.ref C)
  er : Er P w K mg base k C x ["self"] (sp_x0 C)
  xi : XisC K C
  te : PySem.W.exmOne K (.ref C) (.ref C) = some true
  kf : PySem.W.kitOne K (.ref C) (.ref D) = some true
theorem Xk0.up {P : Program} {w : World} {K : PySem.W.Frag} {mg : Str → Option Value} {base : Heap} {j k : Nat} {x : Str} {C D : Addr} (c : Xk0 P w K mg base j x C D) (h : j ≤ k) : Xk0 P w K mg base k x C D := ⟨c.at_, c.er.up h, c.xi, c.te, c.kf⟩
def aIsX0 (K : PySem.W.Frag) (a : Addr) (cls : Value) (d : Option Addr) : List V → Hp → VK → Prop := fun xs H Q => ∃ (c : V) (cv : Value) (b : Bool) (C : Addr), xs = [.ref a, c] ∧ cls = .ref C ∧ XisC K C ∧ d = none ∧ (∀ u, RelV c u → u = cv) ∧ PySem.W.kitOne K (.ref C) cv = some b ∧ Q (.bl b) H
theorem cIsX0 {X : Cx} {a : Addr} {cls : Value} {d : Option Addr} {oe : Obj} {pn : List (Addr × Obj)} (hz : Zc cls d oe) (hf : ∃ vs, oe.data = .fields vs) : CallR (X.suite a ((a, oe) :: pn)) (.builtin "isinstance") (aIsX0 X.K a cls d) := by
  intro pins s σ H xs us Q I r h
  obtain ⟨c, cv, b, C, rfl, rfl, T, rfl, hcv, e, q⟩ := h
  match us, r with
  | [_, _], .cons rx (.cons rt .nil) =>
    cases rx
    have ec := hcv _ rt
    subst ec
    obtain ⟨hget, _⟩ := I.pin (a, oe) (List.mem_append.mpr (.inl List.mem_cons_self))
    obtain ⟨vs, hv⟩ := hf
    have J : PySem.W.InstAt s.heap a oe C none := ⟨hget, hz.1, by unfold PySem.W.notCls; rw [hv] <;> rfl, by rw [hz.2]; trivial⟩
    exact PySem.W.kia_one (PySem.W.kitx_exc T.cl T.ga T.gt T.sub T.ha T.hn T.ht T.hm) I.kIn J e (fun z => nomatch z) fun tk => ⟨.bl b, H, I.kept (t' := tk) fun _ _ z => z, rfl, q⟩
end G
set_option maxHeartbeats 4000000
/-! Part Q: zip of a tuple and a list: zip's steps, told by what its two iterators do. -/
namespace G
open PySem PySem.Spec PyProof.Rows L2
/-- the iterator at i, as P says, gives x and stands then as P' says -/
def Nx (i : Addr) (P P' : Heap → Prop) (x : Value) : Prop := ∀ (prog : Program) (w : World) (A : Around) (E : Value → Shared → Prop) (s : Shared) (Q : Value → Shared → Prop), P s.heap →
  (∀ h', P' h' → Heap.SameBut i s.heap h' → Q x { s with heap := h' }) → wpAny (model prog w) A (Builtin.SmallTypes.nextOf (.ref i)) Q E s
/-- .. has no more -/
def NxE (i : Addr) (P : Heap → Prop) : Prop := ∀ (prog : Program) (w : World) (A : Around) (E : Value → Shared → Prop) (s : Shared) (Q : Value → Shared → Prop), A.handled = none → P s.heap →
  (∀ h' e, Heap.ExtBut i s.heap h' → (∃ o, h'.get? e = some o ∧ o.cls = .type "StopIteration") → E (.ref e) { s with heap := h' }) → wpAny (model prog w) A (Builtin.SmallTypes.nextOf (.ref i)) Q E s
def Stb (P : Heap → Prop) (c : Addr) : Prop := ∀ h h', Heap.ExtBut c h h' → P h → P h'
section
variable {prog : Program} {w : World} {A : Around} {E : Value → Shared → Prop} {s : Shared} {z TI TO i1 i2 l1 l2 : Addr} {a b x y : Value} {P1 P1' P2 P2' : Heap → Prop}
theorem zg_item {Q : Option Value → Shared → Prop} (D : ZipApart z TI TO i1 i2 l1 l2) (hz : IsZip s.heap z TI TO .none) (hTI : IsPair s.heap TI (.ref i1) (.ref i2)) (hTO : IsPair s.heap TO a b)
    (n1 : Nx i1 P1 P1' x) (n2 : Nx i2 P2 P2' y) (p1 : P1 s.heap) (p2 : P2 s.heap) (s1z : Stb P1 z) (s1t : Stb P1' TO) (s1i : Stb P1' i2) (s1y : Stb P1' z) (s2z : Stb P2 z) (s2i : Stb P2 i1) (s2t : Stb P2 TO) (s2y : Stb P2' TO) (s2x : Stb P2' z)
    (hQ : ∀ h', IsZip h' z TI TO (rawInt s.heap.objs.size) → IsPair h' TO x y → P1' h' → P2' h' → IsPair h' s.heap.objs.size x y → (∀ c o, c ≠ z → c ≠ TO → c ≠ i1 → c ≠ i2 → s.heap.get? c = some o → h'.get? c = some o) → Q (some (.ref s.heap.objs.size)) { s with heap := h' }) :
    wpAny (model prog w) A (pyNext (.ref z)) Q E s := by
  have hT : s.TypeIs (.ref z) "zip" := ⟨_, hz, rfl⟩
  unfold pyNext
  refine wpAny_bind (wpAny_attempt (wpAny_callSpecial?_slot (name := Str.ofString "__next__") hT F.slot_zip_next (wpAny_call_entry F.slot_zip_next hT F.entry_zip_next ?_ (F.args_zip_next_1 _))))
  show wpAny _ _ (field (.ref z) 2 >>= _) _ _ _
  refine wpAny_bind (wpAny_field hz rfl (x := .bool false) rfl ?_)
  show wpAny _ _ (field (.ref z) 3 >>= _) _ _ _
  refine wpAny_bind (wpAny_field hz rfl (x := .ref TI) rfl (wpAny_bind (wpAny_seqItems hTI rfl ?_)))
  show wpAny _ _ (Builtin.SmallTypes.ownedTupleIsFree (.ref z) >>= _) _ _ _
  refine wpAny_bind ?_
  unfold Builtin.SmallTypes.ownedTupleIsFree
  refine wpAny_bind (wpAny_field hz rfl (x := .none) rfl (wpAny_pure ?_))
  simp only [if_true]
  refine wpAny_bind (wpAny_rule (wpAny_bind (wpAny_field hz rfl (x := .ref TO) rfl (wpAny_bind (wpAny_setField_rec hz (by simp) ?_)))))
  intro h₁ hz₁ hs₁
  replace hz₁ : IsZip h₁ z TI TO .ellipsis := hz₁
  refine wpAny_bind ?_
  simp only [List.zipIdx_cons, List.zipIdx_nil, List.forIn_cons, List.forIn_nil]
  refine wpAny_bind (wpAny_bind (wpAny_onRaise ?_))
  show wpAny _ _ (Builtin.SmallTypes.nextOf (.ref i1) >>= _) _ _ _
  refine wpAny_bind (n1 _ _ _ _ _ _ (s1z _ _ hs₁.extBut p1) ?_)
  intro h₂ p1₂ hs₂
  have hTO₂ : IsPair h₂ TO a b := hs₂.extBut _ _ D.TOi1 (hs₁.extBut _ _ D.TOz hTO)
  refine wpAny_pure (wpAny_bind (wpAny_seqItems hTO₂ rfl (wpAny_bind (wpAny_updateSeq_pair hTO₂ ?_))))
  intro h₃ hTO₃ hs₃
  replace hTO₃ : IsPair h₃ TO x b := hTO₃
  refine wpAny_bind (wpAny_letGo (wpAny_pure ?_))
  refine wpAny_bind (wpAny_bind (wpAny_onRaise ?_))
  show wpAny _ _ (Builtin.SmallTypes.nextOf (.ref i2) >>= _) _ _ _
  refine wpAny_bind (n2 _ _ _ _ _ _ (s2t _ _ hs₃.extBut (s2i _ _ hs₂.extBut (s2z _ _ hs₁.extBut p2))) ?_)
  intro h₄ p2₄ hs₄
  have hTO₄ : IsPair h₄ TO x b := hs₄.extBut _ _ D.TOi2 hTO₃
  refine wpAny_pure (wpAny_bind (wpAny_seqItems hTO₄ rfl (wpAny_bind (wpAny_updateSeq_pair hTO₄ ?_))))
  intro h₅ hTO₅ hs₅
  replace hTO₅ : IsPair h₅ TO x y := hTO₅
  refine wpAny_bind (wpAny_letGo (wpAny_pure (wpAny_pure (wpAny_bind (wpAny_seqItems hTO₅ rfl (wpAny_bind (wpAny_newTuple ?_)))))))
  have hsz : h₅.objs.size = s.heap.objs.size := by rw [hs₅.1, hs₄.1, hs₃.1, hs₂.1, hs₁.1]
  have hz₅ : IsZip h₅ z TI TO .ellipsis := hs₅.extBut _ _ D.TOz.symm (hs₄.extBut _ _ D.i2z.symm (hs₃.extBut _ _ D.TOz.symm (hs₂.extBut _ _ D.i1z.symm hz₁)))
  have hk₅ : ∀ c o, c ≠ z → c ≠ TO → c ≠ i1 → c ≠ i2 → s.heap.get? c = some o → h₅.get? c = some o := fun c o c1 c2 c3 c4 e => hs₅.extBut _ _ c2 (hs₄.extBut _ _ c4 (hs₃.extBut _ _ c2 (hs₂.extBut _ _ c3 (hs₁.extBut _ _ c1 e))))
  have p1₅ : P1' h₅ := s1t _ _ hs₅.extBut (s1i _ _ hs₄.extBut (s1t _ _ hs₃.extBut p1₂))
  have p2₅ : P2' h₅ := s2y _ _ hs₅.extBut p2₄
  have hzlt : z < h₅.objs.size := Heap.lt_size hz₅
  show wpAny _ _ (Builtin.SmallTypes.ownedTupleHandOut (.ref z) (.ref h₅.objs.size) >>= _) _ _ _
  refine wpAny_bind ?_
  unfold Builtin.SmallTypes.ownedTupleHandOut
  have hz₆ : IsZip (h₅.push { cls := .type "tuple", data := .seq #[x, y] }) z TI TO .ellipsis := Heap.get?_push_of_some _ hz₅
  refine wpAny_bind (wpAny_setField_rec hz₆ (by simp) ?_)
  intro h₇ hz₇ hs₇
  replace hz₇ : IsZip h₇ z TI TO (rawInt h₅.objs.size) := hz₇
  refine wpAny_setField_rec hz₇ (by simp) ?_
  intro h₈ hz₈ hs₈
  replace hz₈ : IsZip h₈ z TI TO (rawInt h₅.objs.size) := hz₈
  have up : ∀ c o, c ≠ z → h₅.get? c = some o → h₈.get? c = some o := fun c o c1 e => hs₈.extBut _ _ c1 (hs₇.extBut _ _ c1 (Heap.get?_push_of_some _ e))
  have hT₈ : IsPair h₈ h₅.objs.size x y := hs₈.extBut _ _ (Nat.ne_of_gt hzlt) (hs₇.extBut _ _ (Nat.ne_of_gt hzlt) (Heap.get?_push_size _ rfl))
  have q1 : P1' h₈ := s1y _ _ up p1₅
  have q2 : P2' h₈ := s2x _ _ up p2₅
  have q3 : IsPair h₈ TO x y := up _ _ D.TOz hTO₅
  have q4 : ∀ c o, c ≠ z → c ≠ TO → c ≠ i1 → c ≠ i2 → s.heap.get? c = some o → h₈.get? c = some o := fun c o c1 c2 c3 c4 e => up c o c1 (hk₅ c o c1 c2 c3 c4 e)
  rw [hsz] at hz₈ hT₈
  refine wpAny_pure ⟨_, rfl, wpAny_pure ?_⟩
  show Q (some (.ref h₅.objs.size)) _
  rw [hsz]
  exact hQ h₈ hz₈ q3 q1 q2 hT₈ q4
theorem zg_end {Q : Option Value → Shared → Prop} (hh : A.handled = none) (D : ZipApart z TI TO i1 i2 l1 l2) (hz : IsZip s.heap z TI TO .none) (hTI : IsPair s.heap TI (.ref i1) (.ref i2)) (hTO : IsPair s.heap TO a b)
    (p1 : P1 s.heap) (p2 : P2 s.heap) (s1z : Stb P1 z) (s2z : Stb P2 z) (s2i : Stb P2 i1) (s2t : Stb P2 TO) (n : NxE i1 P1 ∨ ((∃ x P1', Nx i1 P1 P1' x) ∧ NxE i2 P2))
    (hQ : ∀ h', (∀ c o, c ≠ z → c ≠ TO → c ≠ i1 → c ≠ i2 → s.heap.get? c = some o → h'.get? c = some o) → Q none { s with heap := h' }) : wpAny (model prog w) A (pyNext (.ref z)) Q E s := by
  have hT : s.TypeIs (.ref z) "zip" := ⟨_, hz, rfl⟩
  have stop : ∀ (h' : Heap) (e : Addr), (∀ c o, c ≠ z → c ≠ TO → c ≠ i1 → c ≠ i2 → s.heap.get? c = some o → h'.get? c = some o) → (∃ o, h'.get? e = some o ∧ o.cls = .type "StopIteration") →
      wpAny (model prog w) A (do if ← isInstance (.ref e) (.type "StopIteration") then pure none else throw (.ref e)) Q E { s with heap := h' } := fun h' e hk ⟨o, ho, hc⟩ =>
    wpAny_bind (wpAny_isInstance (T := "StopIteration") (b := true) ⟨o, ho, hc⟩ isSubtype_stop (wpAny_pure (hQ _ hk)))
  unfold pyNext
  refine wpAny_bind (wpAny_attempt (wpAny_callSpecial?_slot (name := Str.ofString "__next__") hT F.slot_zip_next (wpAny_call_entry F.slot_zip_next hT F.entry_zip_next ?_ (F.args_zip_next_1 _))))
  show wpAny _ _ (field (.ref z) 2 >>= _) _ _ _
  refine wpAny_bind (wpAny_field hz rfl (x := .bool false) rfl ?_)
  show wpAny _ _ (field (.ref z) 3 >>= _) _ _ _
  refine wpAny_bind (wpAny_field hz rfl (x := .ref TI) rfl (wpAny_bind (wpAny_seqItems hTI rfl ?_)))
  show wpAny _ _ (Builtin.SmallTypes.ownedTupleIsFree (.ref z) >>= _) _ _ _
  refine wpAny_bind ?_
  unfold Builtin.SmallTypes.ownedTupleIsFree
  refine wpAny_bind (wpAny_field hz rfl (x := .none) rfl (wpAny_pure ?_))
  simp only [if_true]
  refine wpAny_bind (wpAny_rule (wpAny_bind (wpAny_field hz rfl (x := .ref TO) rfl (wpAny_bind (wpAny_setField_rec hz (by simp) ?_)))))
  intro h₁ hz₁ hs₁
  replace hz₁ : IsZip h₁ z TI TO .ellipsis := hz₁
  refine wpAny_bind ?_
  simp only [List.zipIdx_cons, List.zipIdx_nil, List.forIn_cons, List.forIn_nil]
  refine wpAny_bind (wpAny_bind (wpAny_onRaise ?_))
  show wpAny _ _ (Builtin.SmallTypes.nextOf (.ref i1) >>= _) _ _ _
  have p1₁ := s1z _ _ hs₁.extBut p1
  rcases n with n | ⟨⟨x, P1', n1⟩, n⟩
  · refine wpAny_bind (n _ _ _ _ _ _ hh p1₁ ?_)
    rintro h₂ e hs₂ ⟨oe, hoe, hce⟩
    have hz₂ : IsZip h₂ z TI TO .ellipsis := hs₂ _ _ D.i1z.symm hz₁
    have hez : e ≠ z := fun q => by
      subst q
      rw [hz₂] at hoe
      cases hoe
      simp at hce
    refine wpAny_setField_rec hz₂ (by simp) ?_
    intro h₃ _ hs₃
    exact stop h₃ e (fun c o c1 _ c3 _ q => hs₃.extBut _ _ c1 (hs₂ _ _ c3 (hs₁.extBut _ _ c1 q))) ⟨oe, hs₃.extBut _ _ hez hoe, hce⟩
  · refine wpAny_bind (n1 _ _ _ _ _ _ p1₁ ?_)
    intro h₂ _ hs₂
    have hTO₂ : IsPair h₂ TO a b := hs₂.extBut _ _ D.TOi1 (hs₁.extBut _ _ D.TOz hTO)
    refine wpAny_pure (wpAny_bind (wpAny_seqItems hTO₂ rfl (wpAny_bind (wpAny_updateSeq_pair hTO₂ ?_))))
    intro h₃ hTO₃ hs₃
    refine wpAny_bind (wpAny_letGo (wpAny_pure ?_))
    refine wpAny_bind (wpAny_bind (wpAny_onRaise ?_))
    show wpAny _ _ (Builtin.SmallTypes.nextOf (.ref i2) >>= _) _ _ _
    refine wpAny_bind (n _ _ _ _ _ _ hh (s2t _ _ hs₃.extBut (s2i _ _ hs₂.extBut (s2z _ _ hs₁.extBut p2))) ?_)
    rintro h₄ e hs₄ ⟨oe, hoe, hce⟩
    have hz₄ : IsZip h₄ z TI TO .ellipsis := hs₄ _ _ D.i2z.symm (hs₃.extBut _ _ D.TOz.symm (hs₂.extBut _ _ D.i1z.symm hz₁))
    have hez : e ≠ z := fun q => by
      subst q
      rw [hz₄] at hoe
      cases hoe
      simp at hce
    refine wpAny_setField_rec hz₄ (by simp) ?_
    intro h₅ _ hs₅
    exact stop h₅ e (fun c o c1 c2 c3 c4 q => hs₅.extBut _ _ c1 (hs₄ _ _ c4 (hs₃.extBut _ _ c2 (hs₂.extBut _ _ c3 (hs₁.extBut _ _ c1 q))))) ⟨oe, hs₅.extBut _ _ hez hoe, hce⟩
end
end G
set_option maxHeartbeats 4000000
/-! Part N: zip of a tuple and a list, as a turn; a rule for zip that takes both. -/
namespace G
open PySem PySem.Spec PyProof.Rows L2
section
abbrev zmH1 (h : Heap) (l1 : Addr) : Heap := h.push { cls := .type "tuple_iterator", data := .fields #[.ref l1, .int 0 0] }
abbrev zmH2 (h : Heap) (l1 l2 : Addr) : Heap := (zmH1 h l1).push { cls := .type "list_iterator", data := .fields #[.ref l2, .int 0 0] }
abbrev zmH3 (h : Heap) (l1 l2 : Addr) : Heap := (zmH2 h l1 l2).push { cls := .type "tuple", data := .seq #[.ref h.objs.size, .ref (zmH1 h l1).objs.size] }
abbrev zmH4 (h : Heap) (l1 l2 : Addr) : Heap := (zmH3 h l1 l2).push { cls := .type "tuple", data := .seq #[.none, .none] }
abbrev zmH5 (h : Heap) (l1 l2 : Addr) : Heap := (zmH4 h l1 l2).push { cls := .type "zip", data := .fields #[.none, .bool false, .bool false, .ref (zmH2 h l1 l2).objs.size, .ref (zmH3 h l1 l2).objs.size] }
theorem meets_zipM_new (l1 l2 : Addr) (xs ys : Array Value) :
    Meets (Builtin.«zip.__new__» ⟨[.type "zip", .ref l1, .ref l2], []⟩) (fun _ R s => s.heap.IsTuple l1 xs ∧ s.heap.IsList l2 ys ∧
      R (.ok (.ret (.ref (zmH4 s.heap l1 l2).objs.size))) { s with heap := zmH5 s.heap l1 l2 }) :=
  .of_wp fun prog w A R s h => by
    obtain ⟨hp, g, d, tk, os⟩ := s; obtain ⟨hl1, hl2, h⟩ := h
    have hsub := sub_zip
    have hL1 : Heap.IsTuple (Shared.heap ⟨hp, g, d, tk, os⟩) l1 xs := hl1
    have hL2 : Heap.IsList (Shared.heap ⟨hp.push { cls := .type "tuple_iterator", data := .fields #[.ref l1, .int 0 0] }, g, d, tk, os⟩) l2 ys := Heap.IsList.push hl2 _
    wp_walk using wpAny_pyIter_tuple hL1, wpAny_pyIter_list hL2
    exact ⟨_, rfl, h⟩
end
section
variable {prog : Program} {w : World} {A : Around} {E : Value → Shared → Prop} {s : Shared}
theorem call_zipM {l1 l2 : Addr} {xs ys : Array Value} {Q : Value → Shared → Prop} (hl1 : s.heap.IsTuple l1 xs) (hl2 : s.heap.IsList l2 ys)
    (h : ∀ h', IsZip h' (s.heap.objs.size + 4) (s.heap.objs.size + 2) (s.heap.objs.size + 3) .none → IsPair h' (s.heap.objs.size + 2) (.ref s.heap.objs.size) (.ref (s.heap.objs.size + 1)) →
      IsPair h' (s.heap.objs.size + 3) .none .none → h'.IsTupleIter s.heap.objs.size l1 0 → h'.IsListIter (s.heap.objs.size + 1) l2 0 → h'.objs.size = s.heap.objs.size + 5 →
      (∀ c o, s.heap.get? c = some o → h'.get? c = some o) → Q (.ref (s.heap.objs.size + 4)) { s with heap := h' }) :
    wpAny (model prog w) A (call (.type "zip") [.ref l1, .ref l2]) Q E s := by
  refine callType_new F.called_zip (by decide) (F.typeCall_zip_2 _ _) (F.newCall_zip_2 _ _) (fun obj => F.args_object_init_3 obj _ _) F.entry_zip_new
    (meets_zipM_new l1 l2 xs ys) ⟨hl1, hl2, ?_⟩
  have z1 : (zmH1 s.heap l1).objs.size = s.heap.objs.size + 1 := Heap.size_push ..
  have z2 : (zmH2 s.heap l1 l2).objs.size = s.heap.objs.size + 2 := by rw [Heap.size_push, z1]
  have z3 : (zmH3 s.heap l1 l2).objs.size = s.heap.objs.size + 3 := by rw [Heap.size_push, z2]
  have z4 : (zmH4 s.heap l1 l2).objs.size = s.heap.objs.size + 4 := by rw [Heap.size_push, z3]
  have z5 : (zmH5 s.heap l1 l2).objs.size = s.heap.objs.size + 5 := by rw [Heap.size_push, z4]
  have g5 : (zmH5 s.heap l1 l2).get? (zmH4 s.heap l1 l2).objs.size = some _ := Heap.get?_push_size _ rfl
  have g4 : (zmH5 s.heap l1 l2).get? (zmH3 s.heap l1 l2).objs.size = some _ := Heap.get?_push_of_some _ (Heap.get?_push_size _ rfl)
  have g3 : (zmH5 s.heap l1 l2).get? (zmH2 s.heap l1 l2).objs.size = some _ := Heap.get?_push_of_some _ (Heap.get?_push_of_some _ (Heap.get?_push_size _ rfl))
  have g2 : (zmH5 s.heap l1 l2).get? (zmH1 s.heap l1).objs.size = some _ := Heap.get?_push_of_some _ (Heap.get?_push_of_some _ (Heap.get?_push_of_some _ (Heap.get?_push_size _ rfl)))
  have g1 : (zmH5 s.heap l1 l2).get? s.heap.objs.size = some _ := Heap.get?_push_of_some _ (Heap.get?_push_of_some _ (Heap.get?_push_of_some _ (Heap.get?_push_of_some _ (Heap.get?_push_size _ rfl))))
  show _ ∧ _
  rw [z2, z3, z4] at g5
  rw [z1, z2] at g3
  rw [z3] at g4
  rw [z1] at g2
  rw [z4]
  exact ⟨⟨_, g5, rfl⟩, h _ g5 g3 g4 ⟨_, g1, rfl, rfl⟩ ⟨_, g2, rfl, rfl⟩ z5 fun c o x =>
    Heap.get?_push_of_some _ (Heap.get?_push_of_some _ (Heap.get?_push_of_some _ (Heap.get?_push_of_some _ (Heap.get?_push_of_some _ x))))⟩
end
/-- the tuple at a and the list at b as they stand at each turn, the items in new pairs -/
def ItzM (K : PySem.W.Frag) (a b : Addr) : It :=
  ⟨fun i H => ∃ (xs ys : List V) (x y : V), SqT K H a xs ∧ SqL K H b ys ∧ xs[i]? = some x ∧ ys[i]? = some y,
    fun i H v H' => ∃ T x y, v = .ref T ∧ H T = none ∧ H' = upd H T (.tup [x, y]) ∧ (∀ xs, SqT K H a xs → xs[i]? = some x) ∧ ∀ ys, SqL K H b ys → ys[i]? = some y,
    fun i H => ∃ xs ys : List V, SqT K H a xs ∧ SqL K H b ys ∧ (xs.length ≤ i ∨ ys.length ≤ i)⟩
theorem stb_ti {i1 a c : Addr} {i : Nat} {xs : Array Value} (h1 : i1 ≠ c) (h2 : a ≠ c) : Stb (fun h => h.IsTupleIter i1 a i ∧ h.IsTuple a xs) c := fun _ _ hs ⟨p, q⟩ => ⟨p.extBut hs h1, q.extBut hs h2⟩
theorem stb_li {i1 a c : Addr} {i : Nat} {xs : Array Value} (h1 : i1 ≠ c) (h2 : a ≠ c) : Stb (fun h => h.IsListIter i1 a i ∧ h.IsList a xs) c := fun _ _ hs ⟨p, q⟩ => ⟨p.extBut hs h1, q.extBut hs h2⟩
theorem nx_ti {i1 a : Addr} {i : Nat} {xs : Array Value} {x : Value} (h : a ≠ i1) (hx : xs[i]? = some x) : Nx i1 (fun h => h.IsTupleIter i1 a i ∧ h.IsTuple a xs) (fun h => h.IsTupleIter i1 a (i + 1) ∧ h.IsTuple a xs) x :=
  fun _ _ _ _ _ _ p q => RZ.nextOf_tuple_item p.1 p.2 hx fun h' it sb => q h' ⟨it, p.2.extBut sb.extBut h⟩ sb
theorem nx_li {i1 a : Addr} {i : Nat} {xs : Array Value} {x : Value} (h : a ≠ i1) (hx : xs[i]? = some x) : Nx i1 (fun h => h.IsListIter i1 a i ∧ h.IsList a xs) (fun h => h.IsListIter i1 a (i + 1) ∧ h.IsList a xs) x :=
  fun _ _ _ _ _ _ p q => wpAny_nextOf_list_item p.1 p.2 hx fun h' it sb => q h' ⟨it, p.2.extBut sb.extBut h⟩ sb
theorem nxe_ti {i1 a : Addr} {i : Nat} {xs : Array Value} (hx : xs[i]? = none) : NxE i1 (fun h => h.IsTupleIter i1 a i ∧ h.IsTuple a xs) :=
  fun _ _ _ _ _ _ hh p q => RZ.nextOf_tuple_end hh p.1 p.2 hx q
theorem nxe_li {i1 a : Addr} {i : Nat} {xs : Array Value} (hx : xs[i]? = none) : NxE i1 (fun h => h.IsListIter i1 a i ∧ h.IsList a xs) :=
  fun _ _ _ _ _ _ hh p q => wpAny_nextOf_list_end hh p.1 p.2 hx q
theorem turn_zipM {P : Program} {w : World} {K : PySem.W.Frag} {elts : List Expr} {kk : Nat} {tpos : Pos} {a b z TI TO i1 i2 : Addr} (D : ZipApart z TI TO i1 i2 a b) :
    Turn P w K (.Tuple elts kk tpos) (ItzM K a b) [z, TI, TO, i1, i2] z (fun i h => IsZip h z TI TO .none ∧ IsPair h TI (.ref i1) (.ref i2) ∧ (∃ x y, IsPair h TO x y) ∧ h.IsTupleIter i1 a i ∧ h.IsListIter i2 b i) where
  mem := by simp
  obj := fun i h st c hc => by
    obtain ⟨hz, hTI, ⟨x, y, hTO⟩, ⟨o1, e1, _, d1⟩, ⟨o2, e2, _, d2⟩⟩ := st
    have e' : c = z ∨ c = TI ∨ c = TO ∨ c = i1 ∨ c = i2 := by simpa using hc
    rcases e' with q | q | q | q | q
    · rw [q]; exact ⟨_, hz, fun v q => nomatch q⟩
    · rw [q]; exact ⟨_, hTI, fun v q => nomatch q⟩
    · rw [q]; exact ⟨_, hTO, fun v q => nomatch q⟩
    · rw [q]; exact ⟨o1, e1, fun v q => by rw [d1] at q; cases q⟩
    · rw [q]; exact ⟨o2, e2, fun v q => by rw [d2] at q; cases q⟩
  keep := fun i h h' st k => by
    obtain ⟨hz, hTI, ⟨x, y, hTO⟩, h1, h2⟩ := st
    exact ⟨k z (by simp) _ hz, k TI (by simp) _ hTI, ⟨x, y, k TO (by simp) _ hTO⟩, h1.at fun o q => k i1 (by simp) o q, h2.at fun o q => k i2 (by simp) o q⟩
  item := by
    intro X hP hw hK hc i pins s σ H E I hf st hg
    subst hP hw hK
    obtain ⟨hz, hTI, ⟨x0, y0, hTO⟩, h1, h2⟩ := st
    obtain ⟨xs, ys, x, y, hqx, hqy, hx, hy⟩ := hg
    obtain ⟨its, rv, p, _⟩ := I.tuple hqx
    obtain ⟨its2, rv2, p2, _⟩ := I.list hqy
    obtain ⟨u, hu, ru⟩ := rv.get hx
    obtain ⟨u2, hu2, ru2⟩ := rv2.get hy
    have hzl : z < s.heap.objs.size := Heap.lt_size hz
    refine zg_item D hz hTI hTO (nx_ti (xs := its.toArray) (x := u) D.l1i1 (by simpa using hu)) (nx_li (xs := its2.toArray) (x := u2) D.l2i2 (by simpa using hu2)) ⟨h1, p⟩ ⟨h2, p2.isList⟩
      (stb_ti D.i1z D.l1z) (stb_ti D.TOi1.symm D.l1TO) (stb_ti D.i12 D.l1i2) (stb_ti D.i1z D.l1z) (stb_li D.i2z D.l2z) (stb_li D.i12.symm D.l2i1) (stb_li D.TOi2.symm D.l2TO) (stb_li D.TOi2.symm D.l2TO) (stb_li D.i2z D.l2z) fun h' z' TO' q1 q2 hT hk => ?_
    obtain ⟨h1', _⟩ := q1
    obtain ⟨h2', _⟩ := q2
    refine ⟨_, rfl, wpAny_letOwnedTupleGo_zip (s := { s with heap := h' }) z' fun h'' z'' sb => ?_⟩
    have hT2 : h''.get? s.heap.objs.size = some { cls := .type "tuple", data := .seq #[u, u2] } := (sb.2 _ (Nat.ne_of_gt hzl)).trans hT
    have new : ObjOk X.prog X.w (upd H s.heap.objs.size (.tup [x, y])) h'' s.heap.objs.size (.tup [x, y]) :=
      ⟨by show 2 ≤ sizeLine; decide, [u, u2], .cons ru (.cons ru2 .nil), ⟨_, hT2, rfl, _, rfl⟩⟩
    have I1 : Inv X pins σ (upd H s.heap.objs.size (.tup [x, y])) { s with heap := h'' } :=
      I.turnedNew (t' := s.toks) (ch := [z, TI, TO, i1, i2]) (fun c o hb q => (sb.2 c (fun q' => hb (by simp [q']))).trans (hk c o (fun q' => hb (by simp [q'])) (fun q' => hb (by simp [q'])) (fun q' => hb (by simp [q'])) (fun q' => hb (by simp [q'])) q)) hf (Nat.le_refl _) new
    refine ⟨.ref s.heap.objs.size, _, I1, rfl, ⟨_, x, y, rfl, I.hok.fresh (Nat.le_refl _), rfl, fun l hl => by rw [I.tuple_inj hl hqx]; exact hx, fun l hl => by rw [I.list_inj hl hqy]; exact hy⟩, ⟨z'', ?_, ⟨u, u2, ?_⟩, ?_, ?_⟩, fun c hcm => ?_⟩
    · exact (sb.2 _ D.TIz).trans (hk _ _ D.TIz D.TITO D.TIi1 D.TIi2 hTI)
    · exact (sb.2 _ D.TOz).trans TO'
    · exact h1'.at fun o q => (sb.2 _ D.i1z).trans q
    · exact h2'.at fun o q => (sb.2 _ D.i2z).trans q
    · have hlt : c < s.heap.objs.size := by
        have e' : c = z ∨ c = TI ∨ c = TO ∨ c = i1 ∨ c = i2 := by simpa using hcm
        rcases e' with q | q | q | q | q
        · rw [q]; exact hzl
        · rw [q]; exact Heap.lt_size hTI
        · rw [q]; exact Heap.lt_size hTO
        · rw [q]; obtain ⟨_, e1, _⟩ := h1; exact Heap.lt_size e1
        · rw [q]; obtain ⟨_, e2, _⟩ := h2; exact Heap.lt_size e2
      rw [upd_ne (Nat.ne_of_lt hlt)]
      exact (hf c hcm).1
  done := by
    intro X hP hw hK hc i pins s σ H E I hf st hg
    subst hP hw hK
    obtain ⟨hz, hTI, ⟨x0, y0, hTO⟩, h1, h2⟩ := st
    obtain ⟨xs, ys, hqx, hqy, hend⟩ := hg
    obtain ⟨its, rv, p, _⟩ := I.tuple hqx
    obtain ⟨its2, rv2, p2, _⟩ := I.list hqy
    have l1 := rv.length
    have l2 := rv2.length
    have fin : ∀ h' : Heap, (∀ c o, c ≠ z → c ≠ TO → c ≠ i1 → c ≠ i2 → s.heap.get? c = some o → h'.get? c = some o) → _ := fun h' hk => (⟨rfl, I.turnedL (t' := s.toks) (ch := [z, TI, TO, i1, i2]) (fun c o hb q =>
      hk c o (fun q' => hb (by simp [q'])) (fun q' => hb (by simp [q'])) (fun q' => hb (by simp [q'])) (fun q' => hb (by simp [q'])) q) hf⟩ : (none : Option Value) = none ∧ Inv X pins σ H { s with heap := h' })
    refine zg_end (I.ok.hd hc) D hz hTI hTO ⟨h1, p⟩ ⟨h2, p2.isList⟩ (stb_ti D.i1z D.l1z) (stb_li D.i2z D.l2z) (stb_li D.i12.symm D.l2i1) (stb_li D.TOi2.symm D.l2TO) ?_ fin
    by_cases hi : its.length ≤ i
    · exact .inl (nxe_ti (by simp; omega))
    · refine .inr ⟨⟨its.toArray[i]'(by simp; omega), _, nx_ti D.l1i1 (by simp)⟩, nxe_li ?_⟩
      have : its2.length ≤ i := by omega
      simp
      omega
  self := fun A i s Q E st h => wpAny_pyIter_zip st.1 h
theorem walk_zipM {K : PySem.W.Frag} {a b : Addr} {xs ys : List V} {n : Nat} (hn : n = min xs.length ys.length) : Walk (ItzM K a b) n (fun H => SqT K H a xs ∧ SqL K H b ys) (YPair (fun i => xs[i]?) (fun i => ys[i]?)) := by
  subst hn
  refine ⟨fun i _ hi q => ?_, fun _ q => ⟨xs, ys, q.1, q.2, by omega⟩, fun i H v H' _ q y => ?_⟩
  · have h1 : i < xs.length := by omega
    have h2 : i < ys.length := by omega
    exact ⟨xs, ys, xs[i], ys[i], q.1, q.2, by simp [h1], by simp [h2]⟩
  · obtain ⟨T, x, z, h1, h2, h3, h4, h5⟩ := y
    exact ⟨T, x, z, h1, h2, h3, h4 xs q.1, h5 ys q.2⟩
/-- zip of a list or a tuple, and a list -/
def iZipM (K : PySem.W.Frag) (ta : TA) : TI := fun σ H R => ta σ H fun vs H1 => ∃ a b xs ys J, vs = [.ref a, .ref b] ∧ SqL K H1 b ys ∧ ((J = Itz K a b ∧ SqL K H1 a xs) ∨ (J = ItzM K a b ∧ SqT K H1 a xs)) ∧ R J H1
theorem pi_zipM {X : Cx} {e e2 : Expr} {ta : TA} {p pos tpos : Pos} {elts : List Expr} {kk : Nat} (hg : Gl X "zip") (hm : X.mg "zip" = none) (ha : PA X [e, e2] ta)
    (hs : starEach [e, e2] X.env = (false, eval e X.env) :: starEach [e2] X.env := by rfl) (hpl : (backTo pos (starEach [e2] X.env)).any (·.1) = false := by rfl) :
    PI X (.Tuple elts kk tpos) (.Call (.Name "zip" p) [e, e2] [] pos) (iZipM X.K ta) := by
  refine ⟨fun pins s σ H R I h => ?_⟩
  refine Call_ (ld_blt I hg hm PyProof.Rows.boot_zip (PyProof.Rows.callWith_type1 (thn (ha.run pos pins s σ H _ I h) fun us s1 ⟨vs, H1, I1, r1, q1⟩ => ?_) hs hpl))
  obtain ⟨a, b, xs, ys, J, ex, hqy, hJ, q⟩ := q1
  subst ex
  cases r1 with
  | cons r rr =>
    cases rr with
    | cons r' rr =>
      cases rr
      cases r
      cases r'
      have fresh5 : ∀ c, c ∈ [s1.heap.objs.size + 4, s1.heap.objs.size + 2, s1.heap.objs.size + 3, s1.heap.objs.size, s1.heap.objs.size + 1] → FpOk X pins H1 c := fun c hcm => by
        have e' : c = s1.heap.objs.size + 4 ∨ c = s1.heap.objs.size + 2 ∨ c = s1.heap.objs.size + 3 ∨ c = s1.heap.objs.size ∨ c = s1.heap.objs.size + 1 := by simpa using hcm
        have hle : s1.heap.objs.size ≤ c := by
          rcases e' with z | z | z | z | z
          · rw [z]; exact Nat.le_add_right _ _
          · rw [z]; exact Nat.le_add_right _ _
          · rw [z]; exact Nat.le_add_right _ _
          · rw [z]; exact Nat.le_refl _
          · rw [z]; exact Nat.le_add_right _ _
        exact I1.fpOk hle (I1.hok.fresh hle)
      obtain ⟨its2, rv2, p2, _⟩ := I1.list hqy
      rcases hJ with ⟨rfl, hqx⟩ | ⟨rfl, hqx⟩
      · obtain ⟨its, rv, p1, _⟩ := I1.list hqx
        refine call_zip_2 p1.isList p2.isList fun h' hz hTI hTO h1 h2 hsz hk => wpAny_pyIter_zip hz ?_
        have I2 : Inv X pins σ H1 { s1 with heap := h' } := I1.kept (t' := s1.toks) hk
        exact ⟨s1.heap.objs.size + 4, [s1.heap.objs.size + 4, s1.heap.objs.size + 2, s1.heap.objs.size + 3, s1.heap.objs.size, s1.heap.objs.size + 1], _, _, H1, rfl, I2, turn_zip (PySem.W.ktu_apart s1.heap.objs.size a b p1.lt p2.lt), ⟨hz, hTI, ⟨_, _, hTO⟩, h1, h2⟩, fresh5, q⟩
      · obtain ⟨its, rv, p1, _⟩ := I1.tuple hqx
        obtain ⟨o1, ho1, _⟩ := id p1
        refine call_zipM (show s1.heap.IsTuple a its.toArray from p1) p2.isList fun h' hz hTI hTO h1 h2 hsz hk => wpAny_pyIter_zip hz ?_
        have I2 : Inv X pins σ H1 { s1 with heap := h' } := I1.kept (t' := s1.toks) hk
        exact ⟨s1.heap.objs.size + 4, [s1.heap.objs.size + 4, s1.heap.objs.size + 2, s1.heap.objs.size + 3, s1.heap.objs.size, s1.heap.objs.size + 1], _, _, H1, rfl, I2, turn_zipM (PySem.W.ktu_apart s1.heap.objs.size a b (Heap.lt_size ho1) p2.lt), ⟨hz, hTI, ⟨_, _, hTO⟩, h1, h2⟩, fresh5, q⟩
theorem x_forZM {K : PySem.W.Frag} {σ : L2.St} {H : Hp} {ta : TA} {g : TG} {tb : TS} {D : Ends}
    (h : ta σ H fun vs H1 => ∃ a b xs ys J, vs = [.ref a, .ref b] ∧ SqL K H1 b ys ∧ ((J = Itz K a b ∧ SqL K H1 a xs) ∨ (J = ItzM K a b ∧ SqT K H1 a xs)) ∧ tFor (iAt J) g tb D σ H1) : tFor (iZipM K ta) g tb D σ H := h
end G
set_option maxHeartbeats 4000000
namespace M85
open PySem PySem.Spec PyProof.Rows L2 G
def top (i : Nat) : Stmt := PySem.Challenge.pw_mayforget_k85_limits_and_remains.main.body.getD i (.Pass ⟨0, 0, 0, 0⟩)
local macro_rules | `(tactic| walk_at "hp") => `(tactic| first | assumption | exact Own.at0 (by assumption) | exact Own.at1 (by assumption) | exact Own.at2 (by assumption) | exact Own.at3 (by assumption) | exact Own.sub (by assumption) _ _ (by assumption) | exact upd_same)
local macro_rules | `(tactic| walk_at "hl") => `(tactic| first | assumption | exact SqL.of (by walk_at "hp") | exact Own.seq (by assumption) (by assumption) | exact Own.seq (by assumption) (SqL.of (by assumption)))
local macro_rules | `(tactic| walk_at "ht") => `(tactic| first | assumption | exact SqT.of (by walk_at "hp") | exact Own.set (by assumption) (by assumption) | exact Own.set (by assumption) (SqT.of (by assumption)))
local macro_rules | `(tactic| walk_at "n") => `(tactic| (intros; (try dsimp only [List.set, wipe, List.map, List.set_cons_succ, List.set_cons_zero]); (try exact rfl)))
local macro_rules | `(tactic| walk_at "n1") => `(tactic| with_reducible first | (refine x_asgN (σ' := ?s) ?hs ?q; (case hs => walk_at "n")) | (refine x_gN (σ' := ?s) ?hs ?q; (case hs => walk_at "n")) | (refine And.intro (show wipe _ _ = _ from (by walk_at "n")) ?_) | (refine x_parN (σ' := ?s) ?hs ?q; (case hs => walk_at "n")) | (refine x_par3N (σ' := ?s) ?hs ?q; (case hs => walk_at "n")))
local macro_rules | `(tactic| walk_at "v1") => `(tactic| ((with_reducible refine x_var (v := ?v) ?h ?q); (case h => first | exact rfl | assumption)))
local macro_rules | `(tactic| walk_at "s1") => `(tactic| with_reducible first | refine x_op ?_ | refine x_acons ?_ | refine x_c ?_ | refine x_call ?_ | refine x_anil ?_ | refine x_cb ?_ | refine x_seq ?_ | refine x_asgG ?_ | refine x_gC ?_ | refine x_gNl ?_ | refine x_ret ?_ | refine x_ifs ?_ | refine x_test ?_ | refine x_testb ?_ | refine x_and ?_ | refine x_or ?_ | refine x_andV ?_ | refine x_isB ?_ | refine x_add ?_ | refine x_lt ?_ | refine x_inti ?_ | refine x_isI ?_ | refine x_lst ?_ | refine x_tup ?_ | refine x_slice ?_ | refine x_nop ?_ | refine x_part ?_ | refine x_bm ?_ | refine x_sub ?_ | refine x_rI0 ?_ | refine x_drop ?_ | refine x_next ?_ | refine x_brk ?_ | refine x_cnt ?_ | refine x_par2 ?_ | refine x_par33 ?_ | refine x_un ?_ | refine x_rU ?_ | refine x_le ?_ | refine x_gt ?_ | refine x_ge ?_ | refine x_lts ?_ | refine x_intb ?_ | refine x_abs ?_ | refine x_tru ?_ | refine x_trub ?_ | refine x_trui ?_ | refine x_not ?_ | refine x_orV ?_ | refine x_notV ?_ | refine x_if ?_ | refine x_isN ?_ | refine x_isnN ?_ | refine x_dict ?_ | refine x_bm0 ?_ | refine x_revL ?_ | refine x_lcR ?_ | refine x_lcS ?_ | refine x_forR ?_ | refine x_forS ?_ | refine x_yes ?_ | refine ite_t ?_ | refine ite_f ?_)
local macro_rules | `(tactic| walk_at "s") => `(tactic| repeat (first | walk_at "v1" | walk_at "s1" | walk_at "n1"))
local macro_rules | `(tactic| walk_at "bd") => `(tactic| first | decide | omega | exact Nat.le_refl _)
local macro_rules | `(tactic| walk_at "ft") => `(tactic| first
  | with_reducible exact la_nil | with_reducible exact fa_nil | with_reducible exact ft_non | with_reducible exact ft_bl | with_reducible exact ft_dict | ((with_reducible refine ft_str (n := 10) (x := ?x) ?h); (case h => exact And.intro rfl (by decide))) | ((with_reducible refine ft_int (i := ?i) ?h); (case h => decide))
  | ((with_reducible refine ft_var (v := ?v) (m := ?m) (n := ?n) ?h ?f); (case h => exact rfl); (case f => assumption))
  | ((with_reducible refine fa_cons (m1 := ?a) (n1 := ?b) (m2 := ?c) (n2 := ?d) ?f ?g); (case f => walk_at "ft"); (case g => walk_at "ft"))
  | ((with_reducible refine ft_tup (m := ?m) (n := ?n) ?f ?h); (case f => walk_at "ft"); (case h => walk_at "bd"))
  | ((with_reducible refine ft_lst (m := ?m) (n := ?n) ?f ?h); (case f => walk_at "ft"); (case h => walk_at "bd"))
  | ((with_reducible refine la_cons (m1 := ?a) (n1 := ?b) (B := ?c) ?f ?g ?h ?i); (case f => walk_at "ft"); (case h => walk_at "bd"); (case i => walk_at "bd"); (case g => walk_at "ft"))
  | ((with_reducible refine lt_var (v := ?v) (m := ?m) (n := ?n) (B := ?b) ?h ?f); (case h => exact rfl); (case f => assumption))
  | ((with_reducible refine lt_add (B1 := ?a) (B2 := ?b) ?f ?g ?h); (case f => walk_at "ft"); (case g => walk_at "ft"); (case h => walk_at "bd"))
  | ((with_reducible refine ft_addsv (x := ?x) (m := ?m) (n := 10) ?h ?s ?a ?z); (case h => exact rfl); (case s => assumption); (case a => exact And.intro rfl (by decide)); (case z => decide))
  | ((with_reducible refine lt_lst ?f ?h); (case f => walk_at "ft"); (case h => walk_at "bd")))
section
variable {P : Program} {w : World} {K : PySem.W.Frag} {mg : Str → Option Value} {base : Heap} {k : Nat}
/-! ### a draw -/
abbrev s__law_take : Stmt := top 25
theorem sc__law_take : FnScope ["box", "many", "digit", "mixed"] ["box", "many"] (defScope s__law_take) := ⟨rfl, rfl, rfl, by decide +kernel, rfl, by decide +kernel, by decide +kernel⟩
def sp_take : Sp := fun vs H Q _ => ∃ (G : Hp) (R : List (Addr × HO)) (b : Addr) (n : Int) (N : Nat) (bx : List V), vs = [.ref b, .int n] ∧ Own G H ((b, .lst bx) :: R) ∧ Box (N + 1) bx ∧ 0 < n ∧ n < 1000000000 ∧
  ∀ (H' : Hp) (r : Int) bx', 0 ≤ r → r < n → Own G H' ((b, .lst bx') :: R) → Box N bx' → Q (.int r) H'
theorem ok_take {f : Addr} {fd : FuncData} (F : Fun K "_law_take" "_law_take" s__law_take f fd) (B : Bt mg) : FnG P w K mg base (k + 1) f fd ["box", "many"] sp_take := by
  refine fnG_of F sc__law_take (fun vs H Q E h => ?_) (fun cdv A outer s H vs Q E r h => ?_)
  · obtain ⟨_, _, b, n, N, bx, rfl, _⟩ := h
    rfl
  · obtain ⟨G, R, b, n, N, bx, rfl, O, ⟨m, sd, c, fl, rfl, m0, s0, s1, c0, c1⟩, n0, n1, q⟩ := h
    refine ⟨_, (pss_cons (ps_if (PW.pt (pw_and (pt_truK (K := K) rfl (pe_ix (ixK (K := K) rfl) (pv 0) pe_int (fun _ _ => rfl))) (pw_and1 (pt_cmpR oGt (pe_ix (ixK (K := K) rfl) (pv 0) pe_int (fun _ _ => rfl)) pe_int (nomark _)))))
       (pss_cons (ps_set (i := 2) sc__law_take.nd rfl (Or.inl rfl) (pe_op op_modN (pe_callTy cInt (by rfl) B.int (by decide +kernel) (pa_cons (pe_ix (ixK (K := K) rfl) (pv 0) pe_int (fun _ _ => rfl)) pa_nil)) (pv 1)))
       (pss_cons (ps_asg (pe_op op_fdivN (pe_ix (ixK (K := K) rfl) (pv 0) pe_int (fun _ _ => rfl)) (pv 1)) (pg_sub (pv 0) pe_int sSet))
       (pss_one (ps_ret (pv 2)))))
       pss_nil)
       (pss_cons (ps_asg (pe_op (oAddK (K := K) rfl) (pe_ix (ixK (K := K) rfl) (pv 0) pe_int (fun _ _ => rfl)) pe_int) (pg_sub (pv 0) pe_int sSet))
       (pss_cons (ps_set (i := 3) sc__law_take.nd rfl (Or.inl rfl) (pe_op op_modN (pe_callTy cInt (by rfl) B.int (by decide +kernel) (pa_cons (pe_op op_pow (pe_op (oAddK (K := K) rfl) (pe_op (oAddK (K := K) rfl) (pe_ix (ixK (K := K) rfl) (pv 0) pe_int (fun _ _ => rfl)) (pe_op oMul pe_int (pe_ix (ixK (K := K) rfl) (pv 0) pe_int (fun _ _ => rfl)))) pe_int) pe_int) pa_nil)) pe_int))
       (pss_one (ps_ret (pe_op op_modN (pe_op op_fdivN (pe_op op_modN (pe_callTy cInt (by rfl) B.int (by decide +kernel) (pa_cons (pe_op op_pow (pe_op (oAddK (K := K) rfl) (pe_op oMul (pv 3) pe_int) (pe_op oMul pe_int (pe_ix (ixK (K := K) rfl) (pv 0) pe_int (fun _ _ => rfl)))) pe_int) pa_nil)) pe_int) pe_int) (pv 1))))))), ?_⟩
    try dsimp only [cxOf]
    refine x_start (σ' := [some _, some _, none, none]) rfl ?_
    refine x_seq ?_
    refine x_when ?rest (fun tl => ?_)
    case rest =>
      walk_at "s"
      refine x_ixl (SqL.of O.at0) rfl ?_
      walk_at "s"
      refine x_setl O.at0 rfl (x_md0 O fun H1 O1 => ?_)
      walk_at "s"
      refine x_ixl (SqL.of O1.at0) rfl ?_
      walk_at "s"
      refine x_ixl (SqL.of O1.at0) rfl ?_
      walk_at "s"
      refine x_mul (.inl ⟨by decide, by decide⟩) ?_
      walk_at "s"
      refine x_rI ⟨by decide, by decide, by omega⟩ ?_
      walk_at "s"
      refine x_rI (by decide) ?_
      walk_at "s"
      rw [Int.fmod_eq_emod_of_nonneg _ (by decide)]
      have x0 := Int.emod_nonneg ((sd + 15485863 * (c + 1) + 179424673) ^ Int.toNat 5) (show (2147483647 : Int) ≠ 0 by decide)
      have x1 := Int.emod_lt_of_pos ((sd + 15485863 * (c + 1) + 179424673) ^ Int.toNat 5) (show (0 : Int) < 2147483647 by decide)
      generalize ((sd + 15485863 * (c + 1) + 179424673) ^ Int.toNat 5) % 2147483647 = x at x0 x1 ⊢
      refine x_mul (.inr ⟨by decide, by decide⟩) ?_
      walk_at "s"
      refine x_ixl (SqL.of O1.at0) rfl ?_
      walk_at "s"
      refine x_mul (.inl ⟨by decide, by decide⟩) ?_
      walk_at "s"
      refine x_rI ⟨by decide, by decide, by omega⟩ ?_
      walk_at "s"
      refine x_rI (by decide) ?_
      walk_at "s"
      refine x_rI ⟨by decide, by decide⟩ ?_
      walk_at "s"
      refine x_rI (by omega) ?_
      rw [Int.fmod_eq_emod_of_nonneg _ (by omega)]
      exact q _ _ _ (Int.emod_nonneg _ (by omega)) (Int.emod_lt_of_pos _ n0) O1 ⟨m, sd, c + 1, fl, rfl, m0, s0, s1, by omega, by omega⟩
    walk_at "s"
    refine x_ixl (SqL.of O.at0) rfl ?_
    walk_at "s"
    refine ite_b (fun e1 => ?_) (fun e1 => tl)
    walk_at "s"
    refine x_ixl (SqL.of O.at0) rfl ?_
    walk_at "s"
    refine ite_b (fun e2 => ?_) (fun e2 => tl)
    have m1 : 0 < m := of_decide_eq_true e2
    walk_at "s"
    refine x_ixl (SqL.of O.at0) rfl ?_
    walk_at "s"
    refine x_rI (by omega) ?_
    walk_at "s"
    refine x_ixl (SqL.of O.at0) rfl ?_
    walk_at "s"
    refine x_rI ⟨by omega, by omega⟩ ?_
    walk_at "s"
    refine x_setl O.at0 rfl (x_md0 O fun H1 O1 => ?_)
    walk_at "s"
    rw [Int.fmod_eq_emod_of_nonneg m (by omega)]
    refine q _ _ _ (Int.emod_nonneg _ (by omega)) (Int.emod_lt_of_pos _ n0) O1 ⟨m.fdiv n, sd, c, fl, rfl, ?_, s0, s1, c0, by omega⟩
    rw [Int.fdiv_eq_ediv_of_nonneg _ (by omega)]
    exact Int.ediv_nonneg m0 (by omega)
theorem use_take {G H : Hp} {R : List (Addr × HO)} {b : Addr} {n : Int} {N : Nat} {bx : List V} {Q : VK} {E : XK} (O : Own G H ((b, .lst bx) :: R)) (B : Box (N + 1) bx) (n0 : 0 < n) (n1 : n < 1000000000)
    (k : ∀ (H' : Hp) (r : Int) bx', 0 ≤ r → r < n → Own G H' ((b, .lst bx') :: R) → Box N bx' → Q (.int r) H') : sp_take [.ref b, .int n] H Q E := ⟨G, R, b, n, N, bx, rfl, O, B, n0, n1, k⟩
/-! ### the cells -/
abbrev s__law_cell : Stmt := top 23
theorem sc__law_cell : FnScope ["script", "k"] ["script", "k"] (defScope s__law_cell) := ⟨rfl, rfl, rfl, by decide +kernel, rfl, by decide +kernel, by decide +kernel⟩
def sp_cell (K : PySem.W.Frag) : Sp := fun vs H Q _ => ∃ (G : Hp) (R : List (Addr × HO)) (a : Addr) (ns : List Int) (j : Nat), vs = [.ref a, .int j] ∧ Own G H R ∧ SqL K G a (ns.map V.int) ∧ ns.length ≤ 63 ∧ j < 100 ∧
  ∀ (G' H' : Hp) (i : Int), Same G G' → Own G' H' R → Q (.int i) H'
theorem ok_cell {f : Addr} {fd : FuncData} (F : Fun K "_law_cell" "_law_cell" s__law_cell f fd) (B : Bt mg) : FnG P w K mg base (k + 1) f fd ["script", "k"] (sp_cell K) := by
  refine fnG_of F sc__law_cell (fun vs H Q E h => ?_) (fun cdv A outer s H vs Q E r h => ?_)
  · obtain ⟨_, _, a, ns, j, rfl, _⟩ := h
    rfl
  · obtain ⟨G, R, a, ns, j, rfl, O, hs, hl, hj, q⟩ := h
    refine ⟨_, (pss_one (ps_ret (pe_ifExp (pt_cmpR oLt (pv 1) (pe_callB (cLenK (K := K) rfl) (by rfl) B.len (by decide +kernel) (pa_cons (pv 0) pa_nil)) (nomark _)) (pe_ix (ixK (K := K) rfl) (pv 0) (pv 1) (fun _ _ => rfl)) (pe_op (oAddK (K := K) rfl) (pe_op oMul pe_int (pv 1)) (pe_op op_modN (pe_callB (cSumK (K := K) rfl rfl) (by rfl) B.sum (by decide +kernel) (pa_cons (pe_slice (oSlK (K := K) rfl) (pv 0) po_none (po_some pe_int)) pa_nil)) pe_int))))), ?_⟩
    try dsimp only [cxOf]
    refine x_start (σ' := [some _, some _]) rfl ?_
    walk_at "s"
    refine x_lenl (O.seq hs) ?_
    walk_at "s"
    refine ite_b (fun e1 => ?_) (fun e1 => ?_)
    · have e2 := of_decide_eq_true e1
      rw [List.length_map] at e2
      have e3 : j < ns.length := by omega
      walk_at "s"
      refine x_ixl (v := .int ns[j]) (O.seq hs) (atI_nat (by simp [e3])) ?_
      exact q _ _ _ (Same.refl G) O
    · walk_at "s"
      refine x_mul (.inl ⟨by decide, by decide⟩) ?_
      walk_at "s"
      refine x_slL (O.seq hs) (x_fix O fun p G1 H1 s1 O1 h1 => ?_)
      walk_at "s"
      have ec : ∃ ms : List Int, cutV (ns.map V.int) none (some 1) = ms.map V.int := ⟨(ns.drop (HT.sIx (ns.map V.int).length 0 none)).take (HT.sIx (ns.map V.int).length (ns.map V.int).length (some 1) - HT.sIx (ns.map V.int).length 0 none), by
        unfold cutV
        rw [List.map_take, List.map_drop]⟩
      obtain ⟨ms, em⟩ := ec
      rw [em] at h1
      refine ⟨p, ms, rfl, O1.seq (SqL.of h1), ?_⟩
      walk_at "s"
      refine x_rI (by decide) ?_
      walk_at "s"
      exact q _ _ _ s1 O1
abbrev s__law_box : Stmt := top 24
theorem sc__law_box : FnScope ["great"] ["great"] (defScope s__law_box) := ⟨rfl, rfl, rfl, by decide +kernel, rfl, by decide +kernel, by decide +kernel⟩
def sp_box : Sp := fun vs H Q _ => ∃ (G : Hp) (R : List (Addr × HO)) (i : Int), vs = [.int i] ∧ Own G H R ∧
  ∀ (H' : Hp) (p : Addr) (bx : List V), Own G H' ((p, .lst bx) :: R) → Box 1000000000 bx → Q (.ref p) H'
theorem ok_box {f : Addr} {fd : FuncData} (F : Fun K "_law_box" "_law_box" s__law_box f fd) (B : Bt mg) : FnG P w K mg base (k + 1) f fd ["great"] sp_box := by
  refine fnG_of F sc__law_box (fun vs H Q E h => ?_) (fun cdv A outer s H vs Q E r h => ?_)
  · obtain ⟨_, _, i, rfl, _⟩ := h
    rfl
  · obtain ⟨G, R, i, rfl, O, q⟩ := h
    refine ⟨_, (pss_one (ps_ret (d_lst (pa_cons (pe_callB cAbs (by rfl) B.abs (by decide +kernel) (pa_cons (pv 0) pa_nil)) (pa_cons (pe_cmpR oGe (pe_callB cAbs (by rfl) B.abs (by decide +kernel) (pa_cons (pv 0) pa_nil)) (pe_op op_pow pe_int pe_int) (nomark _)) (pa_cons (pe_op op_modN (pe_callTy cInt (by rfl) B.int (by decide +kernel) (pa_cons (pe_callB cAbs (by rfl) B.abs (by decide +kernel) (pa_cons (pv 0) pa_nil)) pa_nil)) pe_int) (pa_cons pe_int pa_nil))))))), ?_⟩
    try dsimp only [cxOf]
    refine x_start (σ' := [some _]) rfl ?_
    walk_at "s"
    refine x_rI ⟨by decide, by decide, by decide⟩ ?_
    walk_at "s"
    refine x_rI (by decide) ?_
    walk_at "s"
    refine ⟨(show (4 : Nat) ≤ sizeLine by decide), x_new O fun p H1 O1 => ?_⟩
    rw [Int.fmod_eq_emod_of_nonneg _ (by decide)] at O1
    refine q _ _ _ O1 (show Box 1000000000 _ from ⟨_, _, 0, _, rfl, ?_, Int.emod_nonneg _ (by decide), Int.emod_lt_of_pos _ (by decide), by decide, by decide⟩)
    split <;> omega
end
end M85
set_option maxHeartbeats 4000000
namespace M85
open PySem PySem.Spec PyProof.Rows L2 G
local macro_rules | `(tactic| walk_at "hp") => `(tactic| first | assumption | exact Own.at0 (by assumption) | exact Own.at1 (by assumption) | exact Own.at2 (by assumption) | exact Own.at3 (by assumption) | exact Own.sub (by assumption) _ _ (by assumption) | exact upd_same)
local macro_rules | `(tactic| walk_at "hl") => `(tactic| first | assumption | exact SqL.of (by walk_at "hp") | exact Own.seq (by assumption) (by assumption) | exact Own.seq (by assumption) (SqL.of (by assumption)))
local macro_rules | `(tactic| walk_at "ht") => `(tactic| first | assumption | exact SqT.of (by walk_at "hp") | exact Own.set (by assumption) (by assumption) | exact Own.set (by assumption) (SqT.of (by assumption)))
local macro_rules | `(tactic| walk_at "n") => `(tactic| (intros; (try dsimp only [List.set, wipe, List.map, List.set_cons_succ, List.set_cons_zero]); (try exact rfl)))
local macro_rules | `(tactic| walk_at "n1") => `(tactic| with_reducible first | (refine x_asgN (σ' := ?s) ?hs ?q; (case hs => walk_at "n")) | (refine x_gN (σ' := ?s) ?hs ?q; (case hs => walk_at "n")) | (refine And.intro (show wipe _ _ = _ from (by walk_at "n")) ?_) | (refine x_parN (σ' := ?s) ?hs ?q; (case hs => walk_at "n")) | (refine x_par3N (σ' := ?s) ?hs ?q; (case hs => walk_at "n")))
local macro_rules | `(tactic| walk_at "v1") => `(tactic| ((with_reducible refine x_var (v := ?v) ?h ?q); (case h => first | exact rfl | assumption)))
local macro_rules | `(tactic| walk_at "s1") => `(tactic| with_reducible first | refine x_op ?_ | refine x_acons ?_ | refine x_c ?_ | refine x_call ?_ | refine x_anil ?_ | refine x_cb ?_ | refine x_seq ?_ | refine x_asgG ?_ | refine x_gC ?_ | refine x_gNl ?_ | refine x_ret ?_ | refine x_ifs ?_ | refine x_test ?_ | refine x_testb ?_ | refine x_and ?_ | refine x_or ?_ | refine x_andV ?_ | refine x_isB ?_ | refine x_add ?_ | refine x_lt ?_ | refine x_inti ?_ | refine x_isI ?_ | refine x_lst ?_ | refine x_tup ?_ | refine x_slice ?_ | refine x_nop ?_ | refine x_part ?_ | refine x_bm ?_ | refine x_sub ?_ | refine x_rI0 ?_ | refine x_drop ?_ | refine x_next ?_ | refine x_brk ?_ | refine x_cnt ?_ | refine x_par2 ?_ | refine x_par33 ?_ | refine x_un ?_ | refine x_rU ?_ | refine x_le ?_ | refine x_gt ?_ | refine x_ge ?_ | refine x_lts ?_ | refine x_intb ?_ | refine x_abs ?_ | refine x_tru ?_ | refine x_trub ?_ | refine x_trui ?_ | refine x_not ?_ | refine x_orV ?_ | refine x_notV ?_ | refine x_if ?_ | refine x_isN ?_ | refine x_isnN ?_ | refine x_dict ?_ | refine x_bm0 ?_ | refine x_revL ?_ | refine x_lcR ?_ | refine x_lcS ?_ | refine x_forR ?_ | refine x_forS ?_ | refine x_yes ?_ | refine ite_t ?_ | refine ite_f ?_)
local macro_rules | `(tactic| walk_at "s") => `(tactic| repeat (first | walk_at "v1" | walk_at "s1" | walk_at "n1"))
local macro_rules | `(tactic| walk_at "bd") => `(tactic| first | decide | omega | exact Nat.le_refl _)
local macro_rules | `(tactic| walk_at "ft") => `(tactic| first
  | with_reducible exact la_nil | with_reducible exact fa_nil | with_reducible exact ft_non | with_reducible exact ft_bl | with_reducible exact ft_dict | ((with_reducible refine ft_str (n := 10) (x := ?x) ?h); (case h => exact And.intro rfl (by decide))) | ((with_reducible refine ft_int (i := ?i) ?h); (case h => decide))
  | ((with_reducible refine ft_var (v := ?v) (m := ?m) (n := ?n) ?h ?f); (case h => exact rfl); (case f => assumption))
  | ((with_reducible refine fa_cons (m1 := ?a) (n1 := ?b) (m2 := ?c) (n2 := ?d) ?f ?g); (case f => walk_at "ft"); (case g => walk_at "ft"))
  | ((with_reducible refine ft_tup (m := ?m) (n := ?n) ?f ?h); (case f => walk_at "ft"); (case h => walk_at "bd"))
  | ((with_reducible refine ft_lst (m := ?m) (n := ?n) ?f ?h); (case f => walk_at "ft"); (case h => walk_at "bd"))
  | ((with_reducible refine la_cons (m1 := ?a) (n1 := ?b) (B := ?c) ?f ?g ?h ?i); (case f => walk_at "ft"); (case h => walk_at "bd"); (case i => walk_at "bd"); (case g => walk_at "ft"))
  | ((with_reducible refine lt_var (v := ?v) (m := ?m) (n := ?n) (B := ?b) ?h ?f); (case h => exact rfl); (case f => assumption))
  | ((with_reducible refine lt_add (B1 := ?a) (B2 := ?b) ?f ?g ?h); (case f => walk_at "ft"); (case g => walk_at "ft"); (case h => walk_at "bd"))
  | ((with_reducible refine ft_addsv (x := ?x) (m := ?m) (n := 10) ?h ?s ?a ?z); (case h => exact rfl); (case s => assumption); (case a => exact And.intro rfl (by decide)); (case z => decide))
  | ((with_reducible refine lt_lst ?f ?h); (case f => walk_at "ft"); (case h => walk_at "bd")))
section
variable {P : Program} {w : World} {K : PySem.W.Frag} {mg : Str → Option Value} {base : Heap} {k : Nat}
abbrev s_InvalidText___init__ : Stmt := inClass (top 2) 0
theorem sc_InvalidText___init__ : FnScope ["self", "given"] ["self", "given"] (defScope s_InvalidText___init__) := ⟨rfl, rfl, rfl, by decide +kernel, rfl, by decide +kernel, by decide +kernel⟩
theorem ok_xi_InvalidText {f C D : Addr} {fd : FuncData} (F : Fun K "__init__" "InvalidText.__init__" s_InvalidText___init__ f fd) (PAR : Par K mg "ForgetError" D) (T : OexC K C) (ng : PySem.W.findIn K (.ref C) "given" = some none) :
    FnG P w K mg base (k + 1) f fd ["self", "given"] (sp_xi C) := by
  refine fnG_of F sc_InvalidText___init__ (fun vs H Q E h => ?_) (fun cdv A outer s H vs Q E r h => ?_)
  · obtain ⟨_, _, rfl, _⟩ := h
    rfl
  · obtain ⟨a, v, rfl, ha, q⟩ := h
    refine ⟨_, (pss_cons (ps_expr (g_pinit PAR (by rfl) (pa_cons (pv 0) (pa_cons pe_str pa_nil))))
       (pss_one (ps_ost (pv 0) (pv 1)))), ?_⟩
    try dsimp only [cxOf]
    refine x_start (σ' := [some _, some _]) rfl ?_
    walk_at "s"
    refine x_vei ?_
    walk_at "s"
    refine ⟨a, C, _, rfl, by show 1 ≤ 1000; decide, T, ha, ?_⟩
    walk_at "s"
    refine x_ost ?_
    walk_at "s"
    refine ⟨a, C, rfl, T, ng, .inl ⟨ha, fun d hd hda => ?_⟩⟩
    exact q d hd hda
abbrev s_InvalidMany___init__ : Stmt := inClass (top 3) 0
theorem sc_InvalidMany___init__ : FnScope ["self", "given"] ["self", "given"] (defScope s_InvalidMany___init__) := ⟨rfl, rfl, rfl, by decide +kernel, rfl, by decide +kernel, by decide +kernel⟩
theorem ok_xi_InvalidMany {f C D : Addr} {fd : FuncData} (F : Fun K "__init__" "InvalidMany.__init__" s_InvalidMany___init__ f fd) (PAR : Par K mg "ForgetError" D) (T : OexC K C) (ng : PySem.W.findIn K (.ref C) "given" = some none) :
    FnG P w K mg base (k + 1) f fd ["self", "given"] (sp_xi C) := by
  refine fnG_of F sc_InvalidMany___init__ (fun vs H Q E h => ?_) (fun cdv A outer s H vs Q E r h => ?_)
  · obtain ⟨_, _, rfl, _⟩ := h
    rfl
  · obtain ⟨a, v, rfl, ha, q⟩ := h
    refine ⟨_, (pss_cons (ps_expr (g_pinit PAR (by rfl) (pa_cons (pv 0) (pa_cons pe_str pa_nil))))
       (pss_one (ps_ost (pv 0) (pv 1)))), ?_⟩
    try dsimp only [cxOf]
    refine x_start (σ' := [some _, some _]) rfl ?_
    walk_at "s"
    refine x_vei ?_
    walk_at "s"
    refine ⟨a, C, _, rfl, by show 1 ≤ 1000; decide, T, ha, ?_⟩
    walk_at "s"
    refine x_ost ?_
    walk_at "s"
    refine ⟨a, C, rfl, T, ng, .inl ⟨ha, fun d hd hda => ?_⟩⟩
    exact q d hd hda
abbrev s_InvalidBlock___init__ : Stmt := inClass (top 4) 0
theorem sc_InvalidBlock___init__ : FnScope ["self", "given"] ["self", "given"] (defScope s_InvalidBlock___init__) := ⟨rfl, rfl, rfl, by decide +kernel, rfl, by decide +kernel, by decide +kernel⟩
theorem ok_xi_InvalidBlock {f C D : Addr} {fd : FuncData} (F : Fun K "__init__" "InvalidBlock.__init__" s_InvalidBlock___init__ f fd) (PAR : Par K mg "ForgetError" D) (T : OexC K C) (ng : PySem.W.findIn K (.ref C) "given" = some none) :
    FnG P w K mg base (k + 1) f fd ["self", "given"] (sp_xi C) := by
  refine fnG_of F sc_InvalidBlock___init__ (fun vs H Q E h => ?_) (fun cdv A outer s H vs Q E r h => ?_)
  · obtain ⟨_, _, rfl, _⟩ := h
    rfl
  · obtain ⟨a, v, rfl, ha, q⟩ := h
    refine ⟨_, (pss_cons (ps_expr (g_pinit PAR (by rfl) (pa_cons (pv 0) (pa_cons pe_str pa_nil))))
       (pss_one (ps_ost (pv 0) (pv 1)))), ?_⟩
    try dsimp only [cxOf]
    refine x_start (σ' := [some _, some _]) rfl ?_
    walk_at "s"
    refine x_vei ?_
    walk_at "s"
    refine ⟨a, C, _, rfl, by show 1 ≤ 1000; decide, T, ha, ?_⟩
    walk_at "s"
    refine x_ost ?_
    walk_at "s"
    refine ⟨a, C, rfl, T, ng, .inl ⟨ha, fun d hd hda => ?_⟩⟩
    exact q d hd hda
abbrev s_InvalidCount___init__ : Stmt := inClass (top 5) 0
theorem sc_InvalidCount___init__ : FnScope ["self", "given"] ["self", "given"] (defScope s_InvalidCount___init__) := ⟨rfl, rfl, rfl, by decide +kernel, rfl, by decide +kernel, by decide +kernel⟩
theorem ok_xi_InvalidCount {f C D : Addr} {fd : FuncData} (F : Fun K "__init__" "InvalidCount.__init__" s_InvalidCount___init__ f fd) (PAR : Par K mg "ForgetError" D) (T : OexC K C) (ng : PySem.W.findIn K (.ref C) "given" = some none) :
    FnG P w K mg base (k + 1) f fd ["self", "given"] (sp_xi C) := by
  refine fnG_of F sc_InvalidCount___init__ (fun vs H Q E h => ?_) (fun cdv A outer s H vs Q E r h => ?_)
  · obtain ⟨_, _, rfl, _⟩ := h
    rfl
  · obtain ⟨a, v, rfl, ha, q⟩ := h
    refine ⟨_, (pss_cons (ps_expr (g_pinit PAR (by rfl) (pa_cons (pv 0) (pa_cons pe_str pa_nil))))
       (pss_one (ps_ost (pv 0) (pv 1)))), ?_⟩
    try dsimp only [cxOf]
    refine x_start (σ' := [some _, some _]) rfl ?_
    walk_at "s"
    refine x_vei ?_
    walk_at "s"
    refine ⟨a, C, _, rfl, by show 1 ≤ 1000; decide, T, ha, ?_⟩
    walk_at "s"
    refine x_ost ?_
    walk_at "s"
    refine ⟨a, C, rfl, T, ng, .inl ⟨ha, fun d hd hda => ?_⟩⟩
    exact q d hd hda
abbrev s_InvalidFates___init__ : Stmt := inClass (top 6) 0
theorem sc_InvalidFates___init__ : FnScope ["self", "given"] ["self", "given"] (defScope s_InvalidFates___init__) := ⟨rfl, rfl, rfl, by decide +kernel, rfl, by decide +kernel, by decide +kernel⟩
theorem ok_xi_InvalidFates {f C D : Addr} {fd : FuncData} (F : Fun K "__init__" "InvalidFates.__init__" s_InvalidFates___init__ f fd) (PAR : Par K mg "ForgetError" D) (T : OexC K C) (ng : PySem.W.findIn K (.ref C) "given" = some none) :
    FnG P w K mg base (k + 1) f fd ["self", "given"] (sp_xi C) := by
  refine fnG_of F sc_InvalidFates___init__ (fun vs H Q E h => ?_) (fun cdv A outer s H vs Q E r h => ?_)
  · obtain ⟨_, _, rfl, _⟩ := h
    rfl
  · obtain ⟨a, v, rfl, ha, q⟩ := h
    refine ⟨_, (pss_cons (ps_expr (g_pinit PAR (by rfl) (pa_cons (pv 0) (pa_cons pe_str pa_nil))))
       (pss_one (ps_ost (pv 0) (pv 1)))), ?_⟩
    try dsimp only [cxOf]
    refine x_start (σ' := [some _, some _]) rfl ?_
    walk_at "s"
    refine x_vei ?_
    walk_at "s"
    refine ⟨a, C, _, rfl, by show 1 ≤ 1000; decide, T, ha, ?_⟩
    walk_at "s"
    refine x_ost ?_
    walk_at "s"
    refine ⟨a, C, rfl, T, ng, .inl ⟨ha, fun d hd hda => ?_⟩⟩
    exact q d hd hda
abbrev s_PowerCut___init__ : Stmt := inClass (top 7) 0
theorem sc_PowerCut___init__ : FnScope ["self"] ["self"] (defScope s_PowerCut___init__) := ⟨rfl, rfl, rfl, by decide +kernel, rfl, by decide +kernel, by decide +kernel⟩
theorem ok_x0_PowerCut {f C D : Addr} {fd : FuncData} (F : Fun K "__init__" "PowerCut.__init__" s_PowerCut___init__ f fd) (PAR : Par K mg "ForgetError" D) (T : OexC K C) :
    FnG P w K mg base (k + 1) f fd ["self"] (sp_x0 C) := by
  refine fnG_of F sc_PowerCut___init__ (fun vs H Q E h => ?_) (fun cdv A outer s H vs Q E r h => ?_)
  · obtain ⟨_, rfl, _⟩ := h
    rfl
  · obtain ⟨a, rfl, ha, q⟩ := h
    refine ⟨_, (pss_one (ps_expr (g_pinit PAR (by rfl) (pa_cons (pv 0) (pa_cons pe_str pa_nil))))), ?_⟩
    try dsimp only [cxOf]
    refine x_start (σ' := [some _]) rfl ?_
    walk_at "s"
    refine x_vei ?_
    walk_at "s"
    refine ⟨a, C, _, rfl, by show 1 ≤ 1000; decide, T, ha, ?_⟩
    exact q
end
end M85
set_option maxHeartbeats 4000000
namespace M85
open PySem PySem.Spec PyProof.Rows L2 G
local macro_rules | `(tactic| walk_at "hp") => `(tactic| first | assumption | exact Own.at0 (by assumption) | exact Own.at1 (by assumption) | exact Own.at2 (by assumption) | exact Own.at3 (by assumption) | exact Own.sub (by assumption) _ _ (by assumption) | exact upd_same)
local macro_rules | `(tactic| walk_at "hl") => `(tactic| first | assumption | exact SqL.of (by walk_at "hp") | exact Own.seq (by assumption) (by assumption) | exact Own.seq (by assumption) (SqL.of (by assumption)))
local macro_rules | `(tactic| walk_at "ht") => `(tactic| first | assumption | exact SqT.of (by walk_at "hp") | exact Own.set (by assumption) (by assumption) | exact Own.set (by assumption) (SqT.of (by assumption)))
local macro_rules | `(tactic| walk_at "n") => `(tactic| (intros; (try dsimp only [List.set, wipe, List.map, List.set_cons_succ, List.set_cons_zero]); (try exact rfl)))
local macro_rules | `(tactic| walk_at "n1") => `(tactic| with_reducible first | (refine x_asgN (σ' := ?s) ?hs ?q; (case hs => walk_at "n")) | (refine x_gN (σ' := ?s) ?hs ?q; (case hs => walk_at "n")) | (refine And.intro (show wipe _ _ = _ from (by walk_at "n")) ?_) | (refine x_parN (σ' := ?s) ?hs ?q; (case hs => walk_at "n")) | (refine x_par3N (σ' := ?s) ?hs ?q; (case hs => walk_at "n")))
local macro_rules | `(tactic| walk_at "v1") => `(tactic| ((with_reducible refine x_var (v := ?v) ?h ?q); (case h => first | exact rfl | assumption)))
local macro_rules | `(tactic| walk_at "s1") => `(tactic| with_reducible first | refine x_op ?_ | refine x_acons ?_ | refine x_c ?_ | refine x_call ?_ | refine x_anil ?_ | refine x_cb ?_ | refine x_seq ?_ | refine x_asgG ?_ | refine x_gC ?_ | refine x_gNl ?_ | refine x_ret ?_ | refine x_ifs ?_ | refine x_test ?_ | refine x_testb ?_ | refine x_and ?_ | refine x_or ?_ | refine x_andV ?_ | refine x_isB ?_ | refine x_add ?_ | refine x_lt ?_ | refine x_inti ?_ | refine x_isI ?_ | refine x_lst ?_ | refine x_tup ?_ | refine x_slice ?_ | refine x_nop ?_ | refine x_part ?_ | refine x_bm ?_ | refine x_sub ?_ | refine x_rI0 ?_ | refine x_drop ?_ | refine x_next ?_ | refine x_brk ?_ | refine x_cnt ?_ | refine x_par2 ?_ | refine x_par33 ?_ | refine x_un ?_ | refine x_rU ?_ | refine x_le ?_ | refine x_gt ?_ | refine x_ge ?_ | refine x_lts ?_ | refine x_intb ?_ | refine x_abs ?_ | refine x_tru ?_ | refine x_trub ?_ | refine x_trui ?_ | refine x_not ?_ | refine x_orV ?_ | refine x_notV ?_ | refine x_if ?_ | refine x_isN ?_ | refine x_isnN ?_ | refine x_dict ?_ | refine x_bm0 ?_ | refine x_revL ?_ | refine x_lcR ?_ | refine x_lcS ?_ | refine x_forR ?_ | refine x_forS ?_ | refine x_yes ?_ | refine ite_t ?_ | refine ite_f ?_)
local macro_rules | `(tactic| walk_at "s") => `(tactic| repeat (first | walk_at "v1" | walk_at "s1" | walk_at "n1"))
local macro_rules | `(tactic| walk_at "bd") => `(tactic| first | decide | omega | exact Nat.le_refl _)
local macro_rules | `(tactic| walk_at "ft") => `(tactic| first
  | with_reducible exact la_nil | with_reducible exact fa_nil | with_reducible exact ft_non | with_reducible exact ft_bl | with_reducible exact ft_dict | ((with_reducible refine ft_str (n := 10) (x := ?x) ?h); (case h => exact And.intro rfl (by decide))) | ((with_reducible refine ft_int (i := ?i) ?h); (case h => decide))
  | ((with_reducible refine ft_var (v := ?v) (m := ?m) (n := ?n) ?h ?f); (case h => exact rfl); (case f => assumption))
  | ((with_reducible refine fa_cons (m1 := ?a) (n1 := ?b) (m2 := ?c) (n2 := ?d) ?f ?g); (case f => walk_at "ft"); (case g => walk_at "ft"))
  | ((with_reducible refine ft_tup (m := ?m) (n := ?n) ?f ?h); (case f => walk_at "ft"); (case h => walk_at "bd"))
  | ((with_reducible refine ft_lst (m := ?m) (n := ?n) ?f ?h); (case f => walk_at "ft"); (case h => walk_at "bd"))
  | ((with_reducible refine la_cons (m1 := ?a) (n1 := ?b) (B := ?c) ?f ?g ?h ?i); (case f => walk_at "ft"); (case h => walk_at "bd"); (case i => walk_at "bd"); (case g => walk_at "ft"))
  | ((with_reducible refine lt_var (v := ?v) (m := ?m) (n := ?n) (B := ?b) ?h ?f); (case h => exact rfl); (case f => assumption))
  | ((with_reducible refine lt_add (B1 := ?a) (B2 := ?b) ?f ?g ?h); (case f => walk_at "ft"); (case g => walk_at "ft"); (case h => walk_at "bd"))
  | ((with_reducible refine ft_addsv (x := ?x) (m := ?m) (n := 10) ?h ?s ?a ?z); (case h => exact rfl); (case s => assumption); (case a => exact And.intro rfl (by decide)); (case z => decide))
  | ((with_reducible refine lt_lst ?f ?h); (case f => walk_at "ft"); (case h => walk_at "bd")))
/-- the module's constants -/
structure Tc (K : PySem.W.Frag) (mg : Str → Option Value) (fa C D : Addr) : Prop where
  MOST_BLOCKS : ∃ u, mg "MOST_BLOCKS" = some u ∧ RelV (.int 8) u
  MOST_SIGNS : ∃ u, mg "MOST_SIGNS" = some u ∧ RelV (.int 4000) u
  DONE : ∃ u, mg "DONE" = some u ∧ RelV (.str "done") u
  LOST : ∃ u, mg "LOST" = some u ∧ RelV (.str "lost") u
  FATES : ∃ u, mg "FATES" = some u ∧ RelV (.ref fa) u
  Disk : ∃ u, mg "Disk" = some u ∧ RelV (.ref C) u
  ForgetError : ∃ u, mg "ForgetError" = some u ∧ RelV (.ref D) u
  fates : ∀ H, SqT K H fa ((["done", "lost", "torn"] : List Str).map V.str)
section
variable {P : Program} {w : World} {K : PySem.W.Frag} {mg : Str → Option Value} {base : Heap} {k : Nat} {fa C D : Addr}
section
variable {H : Hp} {v : V} {d : PyData} {Q : VK}
theorem k1_int (d : PyData) : PySem.W.kitOne K (.type (tyN d)) (.type "int") = some (tyN d == "int" || tyN d == "bool") := by cases d <;> rfl
theorem k1_bool (d : PyData) : PySem.W.kitOne K (.type (tyN d)) (.type "bool") = some (tyN d == "bool") := by cases d <;> rfl
theorem x_isiI (h : Dt K H v d) (q : Q (.bl (tyN d == "int" || tyN d == "bool")) H) : aIsi K [v, .ty "int"] H Q := .inl ⟨v, _, _, _, _, rfl, .ty _, h.ty, k1_int d, q⟩
theorem x_isiB (h : Dt K H v d) (q : Q (.bl (tyN d == "bool")) H) : aIsi K [v, .ty "bool"] H Q := .inl ⟨v, _, _, _, _, rfl, .ty _, h.ty, k1_bool d, q⟩
theorem x_isiL (h : Dt K H v d) (q : Q (.bl (tyN d == "list")) H) : aIsi K [v, .ty "list"] H Q := .inl ⟨v, _, _, _, _, rfl, .ty _, h.ty, k1_list d, q⟩
end
def inB (lo hi : Int) : PyData → Bool
  | .int i => decide (lo ≤ i) && decide (i ≤ hi)
  | _ => false
def ixB (n : Int) : PyData → Bool
  | .int i => decide (0 ≤ i) && decide (i < n)
  | _ => false
def okC (c : Nat) : Bool := decide (32 ≤ c) && decide (c ≤ 126)
def textB : PyData → Bool
  | .str x => decide (x.length ≤ 4000) && x.cps.toList.all okC
  | _ => false
def sqI : PyData → List PyData
  | .list ds => ds
  | .tuple ds => ds
  | _ => []
abbrev wFates : List Str := ["done", "lost", "torn"]
def isF : PyData → Bool
  | .str x => wFates.contains x
  | _ => false
def sqB : PyData → Bool
  | .list _ => true
  | .tuple _ => true
  | _ => false
def fatesB (n : Nat) (d : PyData) : Bool := sqB d && decide ((sqI d).length = n) && (sqI d).all isF
/-- data that stands in G, or a list that is ours -/
def DtO (K : PySem.W.Frag) (G : Hp) (L : List (Addr × HO)) (v : V) (d : PyData) : Prop := Dt K G v d ∨ ∃ (p : Addr) (xs : List V) (ds : List PyData), v = .ref p ∧ (p, HO.lst xs) ∈ L ∧ d = .list ds ∧ DtL K G xs ds
theorem DtO.at {G H : Hp} {L : List (Addr × HO)} {v : V} {d : PyData} (h : DtO K G L v d) (O : Own G H L) : Dt K H v d := by
  rcases h with h | ⟨p, xs, ds, rfl, hm, rfl, hd⟩
  · exact h.mono O.sub
  · exact .lst (SqL.of (O.has _ hm).1) (hd.mono O.sub)
theorem DtO.same {G G' : Hp} {L : List (Addr × HO)} {v : V} {d : PyData} (h : DtO K G L v d) (s : Same G G') : DtO K G' L v d := by
  rcases h with h | ⟨p, xs, ds, rfl, hm, rfl, hd⟩
  · exact .inl (h.mono s)
  · exact .inr ⟨p, xs, ds, rfl, hm, rfl, hd.mono s⟩
abbrev s_is_integer : Stmt := top 9
theorem sc_is_integer : FnScope ["value"] ["value"] (defScope s_is_integer) := ⟨rfl, rfl, rfl, by decide +kernel, rfl, by decide +kernel, by decide +kernel⟩
def sp_int (K : PySem.W.Frag) : Sp := fun vs H Q _ => ∃ (v : V) (d : PyData), vs = [v] ∧ Dt K H v d ∧ Q (.bl (tyN d == "int")) H
theorem ok_int {f : Addr} {fd : FuncData} (F : Fun K "is_integer" "is_integer" s_is_integer f fd) (B : Bt mg) : FnG P w K mg base (k + 1) f fd ["value"] (sp_int K) := by
  refine fnG_of F sc_is_integer (fun vs H Q E h => ?_) (fun cdv A outer s H vs Q E r h => ?_)
  · obtain ⟨v, d, rfl, _⟩ := h
    rfl
  · obtain ⟨v, d, rfl, hv, q⟩ := h
    refine ⟨_, (pss_one (ps_ret (pe_and (pe_callB (cIsiK (K := K) rfl) (by rfl) B.isinstance (by decide +kernel) (pa_cons (pv 0) (pa_cons (pe_bltn (v := .ty "int") (u := .type "int") (by rfl) B.int (by decide +kernel) rfl) pa_nil))) (pe_one (pe_not (pe_callB (cIsiK (K := K) rfl) (by rfl) B.isinstance (by decide +kernel) (pa_cons (pv 0) (pa_cons (pe_bltn (v := .ty "bool") (u := .type "bool") (by rfl) B.bool (by decide +kernel) rfl) pa_nil)))))))), ?_⟩
    try dsimp only [cxOf]
    refine x_start (σ' := [some _]) rfl ?_
    walk_at "s"
    refine x_isiI hv ?_
    walk_at "s"
    refine ite_b (fun c => ?_) (fun c => ?_)
    · walk_at "s"
      refine x_isiB hv ?_
      walk_at "s"
      have e : (tyN d == "int") = !(tyN d == "bool") := by cases d <;> first | rfl | exact absurd (show false = true from c) Bool.false_ne_true
      rw [e] at q
      exact q
    · have e : (tyN d == "int") = false := by cases d <;> first | rfl | exact absurd (show true = false from c) (fun z => nomatch z)
      rw [e] at q
      exact q
abbrev s_is_within : Stmt := top 10
theorem sc_is_within : FnScope ["value", "low", "high"] ["value", "low", "high"] (defScope s_is_within) := ⟨rfl, rfl, rfl, by decide +kernel, rfl, by decide +kernel, by decide +kernel⟩
def sp_wi (K : PySem.W.Frag) : Sp := fun vs H Q _ => ∃ (v : V) (d : PyData) (lo hi : Int), vs = [v, .int lo, .int hi] ∧ Dt K H v d ∧ Q (.bl (inB lo hi d)) H
theorem ok_wi {f : Addr} {fd : FuncData} (F : Fun K "is_within" "is_within" s_is_within f fd) (B : Bt mg) (C_is_integer : Cal P w K mg base k "is_integer" ["value"] (sp_int K)) : FnG P w K mg base (k + 1) f fd ["value", "low", "high"] (sp_wi K) := by
  refine fnG_of F sc_is_within (fun vs H Q E h => ?_) (fun cdv A outer s H vs Q E r h => ?_)
  · obtain ⟨_, _, _, _, rfl, _⟩ := h
    rfl
  · obtain ⟨v, d, lo, hi, rfl, hv, q⟩ := h
    refine ⟨_, (pss_one (ps_ret (pe_and (g_call C_is_integer r (by rfl) passL (pa_cons (pv 0) pa_nil)) (pe_one (pe_chain oLe oLe (pv 1) (pv 0) (pv 2)))))), ?_⟩
    try dsimp only [cxOf]
    refine x_start (σ' := [some _, some _, some _]) rfl ?_
    walk_at "s"
    refine ⟨v, d, rfl, hv, ?_⟩
    walk_at "s"
    cases hv with
    | int i =>
      refine ite_t ?_
      refine x_chain ?_
      walk_at "s"
      refine ite_b (fun c => ?_) (fun c => ?_)
      · walk_at "s"
        simp only [inB, c, Bool.true_and] at q
        exact q
      · simp only [inB, c, Bool.false_and] at q
        exact q
    | _ => exact ite_f q
abbrev s_is_index : Stmt := top 11
theorem sc_is_index : FnScope ["value", "many"] ["value", "many"] (defScope s_is_index) := ⟨rfl, rfl, rfl, by decide +kernel, rfl, by decide +kernel, by decide +kernel⟩
def sp_ix (K : PySem.W.Frag) : Sp := fun vs H Q _ => ∃ (v : V) (d : PyData) (n : Int), vs = [v, .int n] ∧ Dt K H v d ∧ Q (.bl (ixB n d)) H
theorem ok_ix {f : Addr} {fd : FuncData} (F : Fun K "is_index" "is_index" s_is_index f fd) (B : Bt mg) (C_is_integer : Cal P w K mg base k "is_integer" ["value"] (sp_int K)) : FnG P w K mg base (k + 1) f fd ["value", "many"] (sp_ix K) := by
  refine fnG_of F sc_is_index (fun vs H Q E h => ?_) (fun cdv A outer s H vs Q E r h => ?_)
  · obtain ⟨_, _, _, rfl, _⟩ := h
    rfl
  · obtain ⟨v, d, n, rfl, hv, q⟩ := h
    refine ⟨_, (pss_one (ps_ret (pe_and (g_call C_is_integer r (by rfl) passL (pa_cons (pv 0) pa_nil)) (pe_one (pe_chain oLe oLt pe_int (pv 0) (pv 1)))))), ?_⟩
    try dsimp only [cxOf]
    refine x_start (σ' := [some _, some _]) rfl ?_
    walk_at "s"
    refine ⟨v, d, rfl, hv, ?_⟩
    walk_at "s"
    cases hv with
    | int i =>
      refine ite_t ?_
      refine x_chain ?_
      walk_at "s"
      refine ite_b (fun c => ?_) (fun c => ?_)
      · walk_at "s"
        simp only [ixB, c, Bool.true_and] at q
        exact q
      · simp only [ixB, c, Bool.false_and] at q
        exact q
    | _ => exact ite_f q
abbrev s_is_list : Stmt := top 12
theorem sc_is_list : FnScope ["value"] ["value"] (defScope s_is_list) := ⟨rfl, rfl, rfl, by decide +kernel, rfl, by decide +kernel, by decide +kernel⟩
def sp_isl (K : PySem.W.Frag) : Sp := fun vs H Q _ => ∃ (G : Hp) (L : List (Addr × HO)) (v : V) (d : PyData), vs = [v] ∧ Own G H L ∧ DtO K G L v d ∧ ∀ (G' H' : Hp), Same G G' → Own G' H' L → Q (.bl (sqB d)) H'
theorem ok_isl {f : Addr} {fd : FuncData} (F : Fun K "is_list" "is_list" s_is_list f fd) (B : Bt mg) : FnG P w K mg base (k + 1) f fd ["value"] (sp_isl K) := by
  refine fnG_of F sc_is_list (fun vs H Q E h => ?_) (fun cdv A outer s H vs Q E r h => ?_)
  · obtain ⟨_, _, _, _, rfl, _⟩ := h
    rfl
  · obtain ⟨G, L, v, d, rfl, O, hv, q⟩ := h
    refine ⟨_, (pss_one (ps_ret (pe_callB (cIsiK (K := K) rfl) (by rfl) B.isinstance (by decide +kernel) (pa_cons (pv 0) (pa_cons (d_tup (pa_cons (pe_bltn (v := .ty "list") (u := .type "list") (by rfl) B.list (by decide +kernel) rfl) (pa_cons (pe_bltn (v := .ty "tuple") (u := .type "tuple") (by rfl) B.tuple (by decide +kernel) rfl) pa_nil))) pa_nil))))), ?_⟩
    try dsimp only [cxOf]
    refine x_start (σ' := [some _]) rfl ?_
    walk_at "s"
    refine ⟨by show 2 ≤ sizeLine; decide, x_fix O fun p G1 H1 s1 O1 e1 => ?_⟩
    walk_at "s"
    refine x_isiLT ((hv.same s1).at O1) (O1.sub _ _ e1) ?_
    have e : (tyN d == "list" || tyN d == "tuple") = sqB d := by cases d <;> rfl
    rw [e]
    exact q G1 H1 s1 O1
theorem eq_of_str {x : Str} {bs : List V} (hl : bs.length = x.cps.size) (h : ∀ (i : Nat) (y : V), bs[i]? = some y → ∃ c, x.cps[i]? = some c ∧ y = V.bl (okC c)) : bs = (x.cps.toList.map okC).map V.bl := by
  refine List.ext_getElem? fun i => ?_
  rw [List.map_map, List.getElem?_map]
  cases e : bs[i]? with
  | none =>
    have h1 := List.getElem?_eq_none_iff.mp e
    rw [List.getElem?_eq_none (by rw [Array.length_toList]; omega)]
    rfl
  | some y =>
    obtain ⟨c, h1, h2⟩ := h i y e
    rw [Array.getElem?_toList, h1, h2]
    rfl
abbrev s_is_text : Stmt := top 19
theorem sc_is_text : FnScope ["value", "sign"] ["value"] (defScope s_is_text) := ⟨rfl, rfl, rfl, by decide +kernel, rfl, by decide +kernel, by decide +kernel⟩
def sp_tx (K : PySem.W.Frag) : Sp := fun vs H Q _ => ∃ (G : Hp) (L : List (Addr × HO)) (v : V) (d : PyData), vs = [v] ∧ Own G H L ∧ Dt K H v d ∧ (∀ x, d = .str x → x.length ≤ 100000) ∧ ∀ (G' H' : Hp), Same G G' → Own G' H' L → Q (.bl (textB d)) H'
theorem lt_one {a b : Nat} : decide ([a] < [b]) = decide (a < b) := by
  rw [decide_eq_decide, List.cons_lt_cons_iff]
  exact ⟨fun z => z.elim id fun y => absurd y.2 (List.not_lt_nil _), .inl⟩
theorem ok_tx {f : Addr} {fd : FuncData} (F : Fun K "is_text" "is_text" s_is_text f fd) (B : Bt mg) (T : Tc K mg fa C D) : FnG P w K mg base (k + 1) f fd ["value"] (sp_tx K) := by
  refine fnG_of F sc_is_text (fun vs H Q E h => ?_) (fun cdv A outer s H vs Q E r h => ?_)
  · obtain ⟨_, _, _, _, rfl, _⟩ := h
    rfl
  · obtain ⟨G, L, v, d, rfl, O, hv, hl, q⟩ := h
    refine ⟨_, (pss_one (ps_ret (pe_and (pe_callB (cIsiK (K := K) rfl) (by rfl) B.isinstance (by decide +kernel) (pa_cons (pv 0) (pa_cons (pe_bltn (v := .ty "str") (u := .type "str") (by rfl) B.str (by decide +kernel) rfl) pa_nil))) (pe_and (pe_cmpR oLe (pe_callB (cLenK (K := K) rfl) (by rfl) B.len (by decide +kernel) (pa_cons (pv 0) pa_nil)) (C8.pe_gc (by rfl) T.MOST_SIGNS) (nomark _)) (pe_one (pe_callB (cAllK (K := K) rfl rfl) (by rfl) B.all (by decide +kernel) (pa_cons (pe_lc (own := [("sign", 1)]) rfl sc_is_text.nd (pi_str (pv 0)) (blkOk_by (N := ["value", "sign"]) (sc := defScope s_is_text) (by decide +kernel)) (fun _ _ _ _ _ => (pg_name (i := 1) sc_is_text.nd rfl (Or.inl rfl))) (fun _ _ _ _ _ => pts_nil) (fun _ _ _ _ _ => (pe_chain op_le_str op_le_str pe_str (pv 1) pe_str))) pa_nil))))))), ?_⟩
    try dsimp only [cxOf]
    refine x_start (σ' := [some _, none]) rfl ?_
    walk_at "s"
    refine x_isiS hv ?_
    walk_at "s"
    cases hv with
    | str x =>
      have hx := hl x rfl
      refine ite_t ?_
      walk_at "s"
      refine x_lens (sz20 (by omega)) ?_
      walk_at "s"
      have ec : decide ((x.length : Int) ≤ 4000) = decide (x.length ≤ 4000) := decide_eq_decide.mpr (by omega)
      rw [ec]
      refine ite_b (fun c => ?_) (fun c => ?_)
      · walk_at "s"
        refine x_lcI ?_
        walk_at "s"
        refine ⟨x, rfl, ?_⟩
        refine lc_map (by walk_at "n") walk_str O (Nat.le_trans (show x.cps.size ≤ 100000 from hx) (by decide)) (fun _ i y => ∃ c, x.cps[i]? = some c ∧ y = V.bl (okC c)) (fun _ _ _ _ _ z => z) (fun _ _ _ _ _ _ => True.intro) ?_ gm_name ?_
        · rintro i z G' H' H2 D acc hi s' O' ⟨rfl, c, ec, rfl⟩ kk
          walk_at "s"
          refine x_chain ?_
          walk_at "s"
          refine ⟨_, _, rfl, rfl, ?_⟩
          have e1 : (!decide (([c] : List Nat) < (Str.ofString " ").cps.toList)) = decide (32 ≤ c) := by
            rw [show (Str.ofString " ").cps.toList = [32] from by decide +kernel, lt_one, ← decide_not]
            exact decide_eq_decide.mpr (by omega)
          have e2 : (!decide ((Str.ofString "~").cps.toList < ([c] : List Nat))) = decide (c ≤ 126) := by
            rw [show (Str.ofString "~").cps.toList = [126] from by decide +kernel, lt_one, ← decide_not]
            exact decide_eq_decide.mpr (by omega)
          refine ⟨_, rfl, ?_⟩
          rw [e1]
          refine ite_b (fun c1 => ?_) (fun c1 => ?_)
          · walk_at "s"
            refine ⟨_, _, rfl, rfl, ?_⟩
            rw [e2]
            exact kk _ _ _ (Same.refl _) O' ⟨c, ec, by unfold okC; rw [c1, Bool.true_and]⟩
          · exact kk _ _ _ (Same.refl _) O' ⟨c, ec, by unfold okC; rw [c1, Bool.false_and]⟩
        intro G9 H9 p9 bs s9 O9 e9 l9 r9
        have eb : bs = (x.cps.toList.map okC).map V.bl := by
          refine eq_of_str l9 r9
        walk_at "s"
        refine ⟨p9, x.cps.toList.map okC, rfl, SqL.of (by rw [O9.sub _ _ e9, eb]), ?_⟩
        have z := q G9 H9 s9 O9
        simp only [textB, c, Bool.true_and] at z
        rw [List.all_map]
        exact z
      · have z := q G H (Same.refl _) O
        simp only [textB, c, Bool.false_and] at z
        exact z
    | _ =>
      refine ite_f ?_
      exact q G H (Same.refl _) O
abbrev s_are_fates : Stmt := top 20
theorem sc_are_fates : FnScope ["value", "many", "fate"] ["value", "many"] (defScope s_are_fates) := ⟨rfl, rfl, rfl, by decide +kernel, rfl, by decide +kernel, by decide +kernel⟩
def sp_fts (K : PySem.W.Frag) : Sp := fun vs H Q _ => ∃ (G : Hp) (L : List (Addr × HO)) (v : V) (d : PyData) (n : Nat), vs = [v, .int n] ∧ Own G H L ∧ DtO K G L v d ∧ (sqI d).length ≤ 100000 ∧ ∀ (G' H' : Hp), Same G G' → Own G' H' L → Q (.bl (fatesB n d)) H'
theorem ok_fts {f : Addr} {fd : FuncData} (F : Fun K "are_fates" "are_fates" s_are_fates f fd) (B : Bt mg) (T : Tc K mg fa C D) (C_is_list : Cal P w K mg base k "is_list" ["value"] (sp_isl K)) : FnG P w K mg base (k + 1) f fd ["value", "many"] (sp_fts K) := by
  refine fnG_of F sc_are_fates (fun vs H Q E h => ?_) (fun cdv A outer s H vs Q E r h => ?_)
  · obtain ⟨_, _, _, _, _, rfl, _⟩ := h
    rfl
  · obtain ⟨G, L, v, d, n, rfl, O, hv, hl, q⟩ := h
    refine ⟨_, (pss_cons (ps_if (PW.pt (pw_or (pt_not (pt_truK (K := K) rfl (g_call C_is_list r (by rfl) passL (pa_cons (pv 0) pa_nil)))) (pw_or1 (pt_cmpR (oNeK (K := K) rfl r) (pe_callB (cLenK (K := K) rfl) (by rfl) B.len (by decide +kernel) (pa_cons (pv 0) pa_nil)) (pv 1) (nomark _)))))
       (pss_one (ps_ret pe_bl))
       pss_nil)
       (pss_one (ps_ret (pe_callB (cAllK (K := K) rfl rfl) (by rfl) B.all (by decide +kernel) (pa_cons (pe_lc (own := [("fate", 2)]) rfl sc_are_fates.nd (pi_sqK (K := K) rfl (pv 0)) (blkOk_by (N := ["value", "many", "fate"]) (sc := defScope s_are_fates) (by decide +kernel)) (fun _ _ _ _ _ => (pg_name (i := 2) sc_are_fates.nd rfl (Or.inl rfl))) (fun _ _ _ _ _ => pts_nil) (fun _ _ _ _ _ => (pe_and (pe_callB (cIsiK (K := K) rfl) (by rfl) B.isinstance (by decide +kernel) (pa_cons (pv 2) (pa_cons (pe_bltn (v := .ty "str") (u := .type "str") (by rfl) B.str (by decide +kernel) rfl) pa_nil))) (pe_one (pe_cmpR (oInK (K := K) rfl) (pv 2) (C8.pe_gc (by rfl) T.FATES) (by rfl)))))) pa_nil))))), ?_⟩
    try dsimp only [cxOf]
    refine x_start (σ' := [some _, some _, none]) rfl ?_
    walk_at "s"
    refine ⟨G, L, v, d, rfl, O, hv, fun G1 H1 s1 O1 => ?_⟩
    walk_at "s"
    have fin : ∀ b, fatesB n d = b → ∀ (G' H' : Hp), Same G1 G' → Own G' H' L → Q (.bl b) H' := fun b e G' H' s' O' => by
      rw [← e]
      exact q G' H' (s1.trans s') O'
    have hv1 := hv.same s1
    refine ite_b (fun c => ?_) (fun c => ?_)
    · refine ite_t ?_
      walk_at "s"
      refine fin false ?_ G1 H1 (Same.refl _) O1
      unfold fatesB
      cases hb : sqB d with
      | true => rw [hb] at c; exact absurd c (by decide)
      | false => rfl
    have csq : sqB d = true := by
      cases hb : sqB d with
      | true => rfl
      | false => rw [hb] at c; exact absurd c (by decide)
    obtain ⟨pa, xs, rfl, hs, hd⟩ : ∃ (pa : Addr) (xs : List V), v = .ref pa ∧ ((∀ (G' H' : Hp) (L0 : List (Addr × HO)), Same G1 G' → Own G' H' (L0 ++ L) → SqL K H' pa xs) ∨ (∀ (G' H' : Hp) (L0 : List (Addr × HO)), Same G1 G' → Own G' H' (L0 ++ L) → SqT K H' pa xs)) ∧ DtL K G1 xs (sqI d) := by
      rcases hv1 with hv1 | ⟨p, xs, ds, rfl, hm, rfl, hd⟩
      · cases hv1 with
        | lst h t => exact ⟨_, _, rfl, .inl fun G' H' L0 s' O' => O'.seq (s'.seq h), t⟩
        | tup h t => exact ⟨_, _, rfl, .inr fun G' H' L0 s' O' => O'.set (same_t s' h), t⟩
        | _ => exact absurd (show false = true from csq) (by decide)
      · exact ⟨p, xs, rfl, .inl fun G' H' L0 s' O' => SqL.of (O'.has _ (List.mem_append_right _ hm)).1, hd⟩
    walk_at "s"
    refine x_lenLT (hs.imp (fun h => h G1 H1 [] (Same.refl _) O1) fun h => h G1 H1 [] (Same.refl _) O1) ?_
    walk_at "s"
    refine x_ne rfl ?_
    rw [hd.length]
    have en : decide (V.int ((sqI d).length : Int) = V.int (n : Int)) = decide ((sqI d).length = n) := decide_eq_decide.mpr ⟨fun z => by cases z; rfl, fun z => by rw [z]⟩
    rw [en]
    refine ⟨_, rfl, ?_⟩
    refine ite_b (fun c2 => ?_) (fun c2 => ?_)
    · walk_at "s"
      refine fin false ?_ G1 H1 (Same.refl _) O1
      unfold fatesB
      have c3 : decide ((sqI d).length = n) = false := by
        cases hb : decide ((sqI d).length = n) with
        | false => rfl
        | true => rw [hb] at c2; exact absurd c2 (by decide)
      rw [c3, Bool.and_false, Bool.false_and]
    have c3 : decide ((sqI d).length = n) = true := by
      cases hb : decide ((sqI d).length = n) with
      | true => rfl
      | false => rw [hb] at c2; exact absurd c2 (by decide)
    have e2 : fatesB n d = (sqI d).all isF := by
      unfold fatesB
      rw [csq, c3, Bool.true_and, Bool.true_and]
    walk_at "s"
    have lcn : ∀ J Gd (W : Walk J xs.length Gd (YAt xs)) (hG : ∀ (G' H' : Hp) (D : Addr) (acc : List V), Same G1 G' → Own G' H' ((D, .lst acc) :: L) → Gd H'),
        tLc (iAt J) (gName 2) tYes (tAndV (tCB (aIsi K) (tCons (tVar 2) (tCons (tC (V.ty "str")) tNil))) (tOp (rIn K false) (tVar 2) (tC (V.ref fa)))) (List.map (fun x => x.snd) [(Str.ofString "fate", 2)]) [some (V.ref pa), some (V.int (n : Int)), none] H1
          (fun x H2 => tNil [some (V.ref pa), some (V.int (n : Int)), none] H2 fun xs H3 => rAll K (x :: xs) H3 Q) := by
      intro J Gd W hG
      refine lc_map (by walk_at "n") W O1 (by rw [hd.length]; omega) (fun _ i y => ∃ d1, (sqI d)[i]? = some d1 ∧ y = V.bl (isF d1)) (fun _ _ _ _ _ z => z) hG ?_ gm_name ?_
      · rintro i x G' H' H2 D acc hi s' O' ⟨rfl, ex⟩ kk
        obtain ⟨di, edi⟩ : ∃ d1, (sqI d)[i]? = some d1 := ⟨(sqI d)[i]'(by rw [← hd.length]; exact hi), List.getElem?_eq_getElem _⟩
        obtain ⟨vi, evi, hvi⟩ := hd.get i edi
        rw [ex] at evi
        cases evi
        walk_at "s"
        refine x_isiS (O'.dt (hvi.mono s')) ?_
        walk_at "s"
        cases hvi with
        | str x =>
          refine ite_t ?_
          walk_at "s"
          refine x_inS (.inr (T.fates _)) ?_
          exact kk _ _ _ (Same.refl _) O' ⟨_, edi, rfl⟩
        | _ => exact ite_f (kk _ _ _ (Same.refl _) O' ⟨_, edi, rfl⟩)
      intro G9 H9 p9 bs s9 O9 e9 l9 r9
      have eb : bs = (sqI d).map fun d1 => V.bl (isF d1) := eq_of_ix (by rw [l9, hd.length]) r9
      walk_at "s"
      refine ⟨p9, (sqI d).map isF, rfl, SqL.of (by rw [O9.sub _ _ e9, eb, List.map_map]; rfl), ?_⟩
      rw [List.all_map]
      exact fin _ e2 G9 H9 s9 O9
    rcases hs with h | h
    · exact x_sqL (h G1 H1 [] (Same.refl _) O1) (lcn _ _ walk_list fun G' H' D acc s' O' => h G' H' [(D, .lst acc)] s' O')
    · exact x_sqT (h G1 H1 [] (Same.refl _) O1) (lcn _ _ walk_tup fun G' H' D acc s' O' => h G' H' [(D, .lst acc)] s' O')
end
end M85
set_option maxHeartbeats 4000000
namespace M85
open PySem PySem.Spec PyProof.Rows L2 G
local macro_rules | `(tactic| walk_at "hp") => `(tactic| first | assumption | exact Own.at0 (by assumption) | exact Own.at1 (by assumption) | exact Own.at2 (by assumption) | exact Own.at3 (by assumption) | exact Own.sub (by assumption) _ _ (by assumption) | exact upd_same)
local macro_rules | `(tactic| walk_at "hl") => `(tactic| first | assumption | exact SqL.of (by walk_at "hp") | exact Own.seq (by assumption) (by assumption) | exact Own.seq (by assumption) (SqL.of (by assumption)))
local macro_rules | `(tactic| walk_at "ht") => `(tactic| first | assumption | exact SqT.of (by walk_at "hp") | exact Own.set (by assumption) (by assumption) | exact Own.set (by assumption) (SqT.of (by assumption)))
local macro_rules | `(tactic| walk_at "n") => `(tactic| (intros; (try dsimp only [List.set, wipe, List.map, List.set_cons_succ, List.set_cons_zero]); (try exact rfl)))
local macro_rules | `(tactic| walk_at "n1") => `(tactic| with_reducible first | (refine x_asgN (σ' := ?s) ?hs ?q; (case hs => walk_at "n")) | (refine x_gN (σ' := ?s) ?hs ?q; (case hs => walk_at "n")) | (refine And.intro (show wipe _ _ = _ from (by walk_at "n")) ?_) | (refine x_parN (σ' := ?s) ?hs ?q; (case hs => walk_at "n")) | (refine x_par3N (σ' := ?s) ?hs ?q; (case hs => walk_at "n")))
local macro_rules | `(tactic| walk_at "v1") => `(tactic| ((with_reducible refine x_var (v := ?v) ?h ?q); (case h => first | exact rfl | assumption)))
local macro_rules | `(tactic| walk_at "s1") => `(tactic| with_reducible first | refine x_op ?_ | refine x_acons ?_ | refine x_c ?_ | refine x_call ?_ | refine x_anil ?_ | refine x_cb ?_ | refine x_seq ?_ | refine x_asgG ?_ | refine x_gC ?_ | refine x_gNl ?_ | refine x_ret ?_ | refine x_ifs ?_ | refine x_test ?_ | refine x_testb ?_ | refine x_and ?_ | refine x_or ?_ | refine x_andV ?_ | refine x_isB ?_ | refine x_add ?_ | refine x_lt ?_ | refine x_inti ?_ | refine x_isI ?_ | refine x_lst ?_ | refine x_tup ?_ | refine x_slice ?_ | refine x_nop ?_ | refine x_part ?_ | refine x_bm ?_ | refine x_sub ?_ | refine x_rI0 ?_ | refine x_drop ?_ | refine x_next ?_ | refine x_brk ?_ | refine x_cnt ?_ | refine x_par2 ?_ | refine x_par33 ?_ | refine x_un ?_ | refine x_rU ?_ | refine x_le ?_ | refine x_gt ?_ | refine x_ge ?_ | refine x_lts ?_ | refine x_intb ?_ | refine x_abs ?_ | refine x_tru ?_ | refine x_trub ?_ | refine x_trui ?_ | refine x_not ?_ | refine x_orV ?_ | refine x_notV ?_ | refine x_if ?_ | refine x_isN ?_ | refine x_isnN ?_ | refine x_dict ?_ | refine x_bm0 ?_ | refine x_revL ?_ | refine x_lcR ?_ | refine x_lcS ?_ | refine x_forR ?_ | refine x_forS ?_ | refine x_yes ?_ | refine ite_t ?_ | refine ite_f ?_)
local macro_rules | `(tactic| walk_at "s") => `(tactic| repeat (first | walk_at "v1" | walk_at "s1" | walk_at "n1"))
local macro_rules | `(tactic| walk_at "bd") => `(tactic| first | decide | omega | exact Nat.le_refl _)
local macro_rules | `(tactic| walk_at "ft") => `(tactic| first
  | with_reducible exact la_nil | with_reducible exact fa_nil | with_reducible exact ft_non | with_reducible exact ft_bl | with_reducible exact ft_dict | ((with_reducible refine ft_str (n := 10) (x := ?x) ?h); (case h => exact And.intro rfl (by decide))) | ((with_reducible refine ft_int (i := ?i) ?h); (case h => decide))
  | ((with_reducible refine ft_var (v := ?v) (m := ?m) (n := ?n) ?h ?f); (case h => exact rfl); (case f => assumption))
  | ((with_reducible refine fa_cons (m1 := ?a) (n1 := ?b) (m2 := ?c) (n2 := ?d) ?f ?g); (case f => walk_at "ft"); (case g => walk_at "ft"))
  | ((with_reducible refine ft_tup (m := ?m) (n := ?n) ?f ?h); (case f => walk_at "ft"); (case h => walk_at "bd"))
  | ((with_reducible refine ft_lst (m := ?m) (n := ?n) ?f ?h); (case f => walk_at "ft"); (case h => walk_at "bd"))
  | ((with_reducible refine la_cons (m1 := ?a) (n1 := ?b) (B := ?c) ?f ?g ?h ?i); (case f => walk_at "ft"); (case h => walk_at "bd"); (case i => walk_at "bd"); (case g => walk_at "ft"))
  | ((with_reducible refine lt_var (v := ?v) (m := ?m) (n := ?n) (B := ?b) ?h ?f); (case h => exact rfl); (case f => assumption))
  | ((with_reducible refine lt_add (B1 := ?a) (B2 := ?b) ?f ?g ?h); (case f => walk_at "ft"); (case g => walk_at "ft"); (case h => walk_at "bd"))
  | ((with_reducible refine ft_addsv (x := ?x) (m := ?m) (n := 10) ?h ?s ?a ?z); (case h => exact rfl); (case s => assumption); (case a => exact And.intro rfl (by decide)); (case z => decide))
  | ((with_reducible refine lt_lst ?f ?h); (case f => walk_at "ft"); (case h => walk_at "bd")))
local macro_rules | `(tactic| walk_at "s1") => `(tactic| with_reducible first | refine x_fld ?_ | refine x_sfld ?_ | refine x_m ?_ | refine x_mr ?_ | refine x_i ?_ | refine x_ir ?_ | refine x_gfld ?_ | refine x_mko ?_ | refine x_vei ?_ | refine x_ost ?_ | refine ite_nt ?_ | refine ite_nf ?_)
/-! ### a disk -/
def lfV : Option Nat → V
  | none => .non
  | some n => .int n
def dkF (m : Nat) (s t w : Addr) (lf : Option Nat) (dd : Bool) : List (Str × V) := [("many", .int m), ("synced", .ref s), ("texts", .ref t), ("writes", .ref w), ("left", lfV lf), ("dead", .bl dd)]
def dkL (C p dx s t w : Addr) (m : Nat) (lf : Option Nat) (dd : Bool) (ss ts ws : List V) : List (Addr × HO) := [(p, .ins C dx (dkF m s t w lf dd)), (dx, .own p), (s, .lst ss), (t, .lst ts), (w, .lst ws)]
/-- the writes: tuples of block and text -/
def WrT (G : Hp) : List V → List (Nat × V) → Prop := Paired fun r b => ∃ a, r = V.ref a ∧ G a = some (.tup [.int (b.1 : Int), b.2])
theorem WrT.mono {G G' : Hp} (s : Same G G') : ∀ {ws : List V} {wl : List (Nat × V)}, WrT G ws wl → WrT G' ws wl
  | _, _, .nil => .nil
  | _, _, .cons ⟨a, e, h⟩ t => .cons ⟨a, e, s _ _ h⟩ (WrT.mono s t)
structure Dc (K : PySem.W.Frag) (C : Addr) : Prop where
  cl : Cls K C
  many : NoAttr K C "many"
  synced : NoAttr K C "synced"
  texts : NoAttr K C "texts"
  writes : NoAttr K C "writes"
  left : NoAttr K C "left"
  dead : NoAttr K C "dead"
section
variable {m : Nat} {s t w s' : Addr} {lf lf' : Option Nat} {dd dd' : Bool}
theorem f_many : (dkF m s t w lf dd).lookup ("many" : Str) = some (V.int m) := by unfold dkF; rw [lookup_put, if_pos rfl]
theorem f_synced : (dkF m s t w lf dd).lookup ("synced" : Str) = some (V.ref s) := by unfold dkF; rw [lookup_put, if_neg (by decide +kernel), lookup_put, if_pos rfl]
theorem f_texts : (dkF m s t w lf dd).lookup ("texts" : Str) = some (V.ref t) := by unfold dkF; rw [lookup_put, if_neg (by decide +kernel), lookup_put, if_neg (by decide +kernel), lookup_put, if_pos rfl]
theorem f_writes : (dkF m s t w lf dd).lookup ("writes" : Str) = some (V.ref w) := by unfold dkF; rw [lookup_put, if_neg (by decide +kernel), lookup_put, if_neg (by decide +kernel), lookup_put, if_neg (by decide +kernel), lookup_put, if_pos rfl]
theorem f_left : (dkF m s t w lf dd).lookup ("left" : Str) = some (lfV lf) := by unfold dkF; rw [lookup_put, if_neg (by decide +kernel), lookup_put, if_neg (by decide +kernel), lookup_put, if_neg (by decide +kernel), lookup_put, if_neg (by decide +kernel), lookup_put, if_pos rfl]
theorem f_dead : (dkF m s t w lf dd).lookup ("dead" : Str) = some (V.bl dd) := by unfold dkF; rw [lookup_put, if_neg (by decide +kernel), lookup_put, if_neg (by decide +kernel), lookup_put, if_neg (by decide +kernel), lookup_put, if_neg (by decide +kernel), lookup_put, if_neg (by decide +kernel), lookup_put, if_pos rfl]
theorem p_synced : putF "synced" (.ref s') (dkF m s t w lf dd) = dkF m s' t w lf dd := by unfold dkF; rw [putF_ne (by decide +kernel), putF_eq]
theorem p_texts : putF "texts" (.ref s') (dkF m s t w lf dd) = dkF m s s' w lf dd := by unfold dkF; rw [putF_ne (by decide +kernel), putF_ne (by decide +kernel), putF_eq]
theorem p_writes : putF "writes" (.ref s') (dkF m s t w lf dd) = dkF m s t s' lf dd := by unfold dkF; rw [putF_ne (by decide +kernel), putF_ne (by decide +kernel), putF_ne (by decide +kernel), putF_eq]
theorem p_left : putF "left" (lfV lf') (dkF m s t w lf dd) = dkF m s t w lf' dd := by unfold dkF; rw [putF_ne (by decide +kernel), putF_ne (by decide +kernel), putF_ne (by decide +kernel), putF_ne (by decide +kernel), putF_eq]
theorem p_dead : putF "dead" (.bl dd') (dkF m s t w lf dd) = dkF m s t w lf dd' := by unfold dkF; rw [putF_ne (by decide +kernel), putF_ne (by decide +kernel), putF_ne (by decide +kernel), putF_ne (by decide +kernel), putF_ne (by decide +kernel), putF_eq]
theorem f_meth {x : Str} (h : (["many", "synced", "texts", "writes", "left", "dead"] : List Str).contains x = false := by decide +kernel) : (dkF m s t w lf dd).lookup x = none := by
  have h' : ∀ y ∈ (["many", "synced", "texts", "writes", "left", "dead"] : List Str), (x == y) = false := fun y hy => by
    cases e : x == y with
    | false => rfl
    | true =>
      have := List.contains_iff_mem.mpr (eq_of_beq e ▸ hy)
      rw [this] at h
      cases h
  unfold dkF
  simp only [List.lookup, h' "many" (by simp), h' "synced" (by simp), h' "texts" (by simp), h' "writes" (by simp), h' "left" (by simp), h' "dead" (by simp)]
end
section
variable {G H : Hp} {R : List (Addr × HO)} {C p dx s t w s' : Addr} {m : Nat} {lf lf' : Option Nat} {dd dd' : Bool} {ss ts ws xs : List V} {o : HO} {S : Hp → Prop}
theorem dk_p (O : Own G H (dkL C p dx s t w m lf dd ss ts ws ++ R)) : H p = some (.ins C dx (dkF m s t w lf dd)) := Own.in_ (A := []) O
theorem dk_s (O : Own G H (dkL C p dx s t w m lf dd ss ts ws ++ R)) : H s = some (.lst ss) := Own.in_ (A := [_, _]) O
theorem dk_t (O : Own G H (dkL C p dx s t w m lf dd ss ts ws ++ R)) : H t = some (.lst ts) := Own.in_ (A := [_, _, _]) O
theorem dk_w (O : Own G H (dkL C p dx s t w m lf dd ss ts ws ++ R)) : H w = some (.lst ws) := Own.in_ (A := [_, _, _, _]) O
theorem x_dkT (O : Own G H (dkL C p dx s t w m lf dd ss ts ws ++ R)) (k : ∀ H', Own G H' (dkL C p dx s t w m lf dd ss xs ws ++ R) → S H') : md t (.lst xs) H S := k _ (Own.updA (A := [_, _, _]) O)
theorem x_dkW (O : Own G H (dkL C p dx s t w m lf dd ss ts ws ++ R)) (k : ∀ H', Own G H' (dkL C p dx s t w m lf dd ss ts xs ++ R) → S H') : md w (.lst xs) H S := k _ (Own.updA (A := [_, _, _, _]) O)
/-- a field is set anew -/
theorem dk_dead (O : Own G H (dkL C p dx s t w m lf dd ss ts ws ++ R)) : Own G (upd H p (.ins C dx (putF "dead" (.bl dd') (dkF m s t w lf dd)))) (dkL C p dx s t w m lf dd' ss ts ws ++ R) := by rw [p_dead]; exact Own.updA (A := []) O
theorem dk_left (O : Own G H (dkL C p dx s t w m lf dd ss ts ws ++ R)) : Own G (upd H p (.ins C dx (putF "left" (lfV lf') (dkF m s t w lf dd)))) (dkL C p dx s t w m lf' dd ss ts ws ++ R) := by rw [p_left]; exact Own.updA (A := []) O
end
section
variable {P : Program} {w : World} {K : PySem.W.Frag} {mg : Str → Option Value} {base : Heap} {k : Nat} {fa C D CB CT CM CF CP CC : Addr}
abbrev s_Disk_check_alive : Stmt := inClass (top 21) 1
theorem sc_Disk_check_alive : FnScope ["self"] ["self"] (defScope s_Disk_check_alive) := ⟨rfl, rfl, rfl, by decide +kernel, rfl, by decide +kernel, by decide +kernel⟩
def sp_ca (C CP : Addr) : Sp := fun vs H Q E => ∃ (a dx : Addr) (fs : List (Str × V)) (dd : Bool), vs = [.ref a] ∧ H a = some (.ins C dx fs) ∧ fs.lookup ("dead" : Str) = some (.bl dd) ∧ (dd = false → Q .non H) ∧ (dd = true → E (.ref CP) none H)
theorem ok_ca {f : Addr} {fd : FuncData} (F : Fun K "check_alive" "Disk.check_alive" s_Disk_check_alive f fd) (B : Bt mg) (Z : Dc K C) (X_PowerCut : Xk0 P w K mg base k "PowerCut" CP D) : FnG P w K mg base (k + 2) f fd ["self"] (sp_ca C CP) := by
  refine fnG_of F sc_Disk_check_alive (fun vs H Q E h => ?_) (fun cdv A outer s H vs Q E r h => ?_)
  · obtain ⟨_, _, _, _, rfl, _⟩ := h
    rfl
  · obtain ⟨a, dx, fs, dd, rfl, ha, hl, q1, q2⟩ := h
    refine ⟨_, (pss_one (ps_if (pt_truK (K := K) rfl (pe_fldK (K := K) rfl (pv 0) rfl))
       (pss_one (ps_raise rfl (takes_of rfl rfl rfl rfl) (g_err0 X_PowerCut.er r (by rfl) passL)))
       pss_nil)), ?_⟩
    try dsimp only [cxOf]
    refine x_start (σ' := [some _]) rfl ?_
    walk_at "s"
    refine x_fldI ha Z.cl Z.dead hl ?_
    cases dd with
    | false =>
      walk_at "s"
      exact q1 rfl
    | true =>
      walk_at "s"
      exact x_raise0 (Wd := E) (q2 rfl)
abbrev s_Disk_check_block : Stmt := inClass (top 21) 2
theorem sc_Disk_check_block : FnScope ["self", "block"] ["self", "block"] (defScope s_Disk_check_block) := ⟨rfl, rfl, rfl, by decide +kernel, rfl, by decide +kernel, by decide +kernel⟩
def sp_cb (K : PySem.W.Frag) (C CB : Addr) : Sp := fun vs H Q E => ∃ (G : Hp) (L : List (Addr × HO)) (a dx : Addr) (fs : List (Str × V)) (m : Nat) (v : V) (d : PyData), vs = [.ref a, v] ∧ Own G H L ∧ H a = some (.ins C dx fs) ∧ fs.lookup ("many" : Str) = some (.int m) ∧ Dt K H v d ∧
  (ixB m d = true → Q .non H) ∧ (ixB m d = false → ∀ (d' : Addr) (G' H' : Hp), Same G G' → Own G' H' L → G' d' = some (.xd [("given", v)]) → E (.ref CB) (some d') H')
theorem ok_cb {f : Addr} {fd : FuncData} (F : Fun K "check_block" "Disk.check_block" s_Disk_check_block f fd) (B : Bt mg) (Z : Dc K C) (C_is_index : Cal P w K mg base (k + 1) "is_index" ["value", "many"] (sp_ix K)) (X_InvalidBlock : Xk P w K mg base k "InvalidBlock" CB D) :
    FnG P w K mg base (k + 2) f fd ["self", "block"] (sp_cb K C CB) := by
  refine fnG_of F sc_Disk_check_block (fun vs H Q E h => ?_) (fun cdv A outer s H vs Q E r h => ?_)
  · obtain ⟨_, _, _, _, _, _, _, _, rfl, _⟩ := h
    rfl
  · obtain ⟨G, L, a, dx, fs, m, v, d, rfl, O, ha, hl, hv, q1, q2⟩ := h
    refine ⟨_, (pss_one (ps_if (pt_not (pt_truK (K := K) rfl (g_call C_is_index r (by rfl) passL (pa_cons (pv 1) (pa_cons (pe_fldK (K := K) rfl (pv 0) rfl) pa_nil)))))
       (pss_one (ps_raise rfl (takes_of rfl rfl rfl rfl) (g_err X_InvalidBlock.er r (by rfl) passL (pa_cons (pv 1) pa_nil))))
       pss_nil)), ?_⟩
    try dsimp only [cxOf]
    refine x_start (σ' := [some _, some _]) rfl ?_
    walk_at "s"
    refine x_fldI ha Z.cl Z.many hl ?_
    walk_at "s"
    refine ⟨v, d, m, rfl, hv, ?_⟩
    walk_at "s"
    cases hb : ixB m d with
    | true =>
      walk_at "s"
      exact q1 hb
    | false =>
      walk_at "s"
      exact x_raise (Wd := E) O fun d' G' H' s' O' e' => q2 hb d' G' H' s' O' e'
abbrev s_Disk_spend : Stmt := inClass (top 21) 3
theorem sc_Disk_spend : FnScope ["self"] ["self"] (defScope s_Disk_spend) := ⟨rfl, rfl, rfl, by decide +kernel, rfl, by decide +kernel, by decide +kernel⟩
/-- one use less; none: there is none left -/
def stepL : Option Nat → Option (Option Nat)
  | none => some none
  | some 0 => none
  | some (n + 1) => some (some n)
def sp_sp (C CP : Addr) : Sp := fun vs H Q E => ∃ (G : Hp) (R : List (Addr × HO)) (p dx s t w : Addr) (m : Nat) (lf : Option Nat) (ss ts ws : List V), vs = [.ref p] ∧ Own G H (dkL C p dx s t w m lf false ss ts ws ++ R) ∧
  (∀ lf', stepL lf = some lf' → ∀ H', Own G H' (dkL C p dx s t w m lf' false ss ts ws ++ R) → Q .non H') ∧ (stepL lf = none → ∀ H', Own G H' (dkL C p dx s t w m lf true ss ts ws ++ R) → E (.ref CP) none H')
theorem x_fldaug {K : PySem.W.Frag} {σ : L2.St} {H : Hp} {D : Ends} {ta tv : TE} {rd : V → V → Hp → VK → Prop} {f : Str} (h : ta σ H fun x H1 => ∃ a C dx fs v, x = .ref a ∧ H1 a = some (.ins C dx fs) ∧ Cls K C ∧ NoAttr K C f ∧ fs.lookup f = some v ∧
  tv σ H1 fun y H2 => rd v y H2 fun z H3 => ∃ dx' fs', H3 a = some (.ins C dx' fs') ∧ fs'.length < 1000 ∧ D.nx σ (upd H3 a (.ins C dx' (putF f z fs')))) : sFldAug K ta tv rd f D σ H := h
theorem ok_sp {f : Addr} {fd : FuncData} (F : Fun K "spend" "Disk.spend" s_Disk_spend f fd) (B : Bt mg) (Z : Dc K C) (M_Disk_check_alive : Mt P w K mg base k C "check_alive" ["self"] (sp_ca C CP)) : FnG P w K mg base (k + 1) f fd ["self"] (sp_sp C CP) := by
  refine fnG_of F sc_Disk_spend (fun vs H Q E h => ?_) (fun cdv A outer s H vs Q E r h => ?_)
  · obtain ⟨_, _, _, _, _, _, _, _, _, _, _, _, rfl, _⟩ := h
    rfl
  · obtain ⟨G, R, p, dx, s, t, w, m, lf, ss, ts, ws, rfl, O, q2, q3⟩ := h
    refine ⟨_, (pss_cons (ps_if (pt_cmpR (oEqK (K := K) rfl r) (pe_fldK (K := K) rfl (pv 0) rfl) pe_int (nomark _))
       (pss_one (ps_fldK (K := K) rfl (pv 0) pe_bl rfl))
       pss_nil)
       (pss_cons (ps_expr (g_meth0 M_Disk_check_alive r (takes_of rfl rfl rfl rfl) (pv 0)))
       (pss_one (ps_if (pt_cmpR oIsn (pe_fldK (K := K) rfl (pv 0) rfl) pe_non (nomark _))
       (pss_one (ps_fldaug (pv 0) pe_int in_sub))
       pss_nil)))), ?_⟩
    try dsimp only [cxOf]
    refine x_start (σ' := [some _]) rfl ?_
    walk_at "s"
    refine x_fldI (dk_p O) Z.cl Z.left f_left ?_
    match lf, O, q2, q3 with
    | none, O, q2, _ =>
      walk_at "s"
      refine x_eq rfl ?_
      walk_at "s"
      refine ite_f ?_
      walk_at "s"
      refine x_mI (dk_p O) f_meth ?_
      walk_at "s"
      refine ⟨p, dx, _, _, rfl, dk_p O, f_dead, fun _ => ?_, (fun e => nomatch e)⟩
      walk_at "s"
      refine x_fldI (dk_p O) Z.cl Z.left f_left ?_
      walk_at "s"
      exact q2 none rfl H O
    | some 0, O, _, q3 =>
      walk_at "s"
      refine x_eq rfl ?_
      walk_at "s"
      refine ite_t ?_
      walk_at "s"
      refine x_sfldI (dk_p O) Z.cl Z.dead (by show 6 < 1000; decide) ?_
      have O1 := dk_dead (dd' := true) O
      walk_at "s"
      refine x_mI (dk_p O1) f_meth ?_
      walk_at "s"
      exact ⟨p, dx, _, _, rfl, dk_p O1, f_dead, (fun e => nomatch e), fun _ => q3 rfl _ O1⟩
    | some (n + 1), O, q2, _ =>
      walk_at "s"
      refine x_eq rfl ?_
      walk_at "s"
      have el : lfV (some (n + 1)) = V.int ((n + 1 : Nat) : Int) := rfl
      rw [el, int_eq]
      refine ite_b (fun c => absurd (of_decide_eq_true c) (by omega)) (fun _ => ?_)
      walk_at "s"
      refine x_mI (dk_p O) f_meth ?_
      walk_at "s"
      refine ⟨p, dx, _, _, rfl, dk_p O, f_dead, fun _ => ?_, (fun e => nomatch e)⟩
      walk_at "s"
      refine x_fldI (dk_p O) Z.cl Z.left f_left ?_
      walk_at "s"
      rw [el]
      refine ite_b (fun _ => ?_) (fun c => absurd c (by rw [decide_eq_false (fun e => nomatch e)]; decide))
      refine x_fldaug ?_
      walk_at "s"
      refine ⟨p, C, dx, _, _, rfl, dk_p O, Z.cl, Z.left, f_left, ?_⟩
      walk_at "s"
      refine ⟨_, 1, rfl, rfl, dx, _, dk_p O, by show 6 < 1000; decide, ?_⟩
      have en : ((n + 1 : Nat) : Int) - 1 = (n : Int) := by omega
      rw [en]
      exact q2 (some n) rfl _ (dk_left (lf' := some n) O)
abbrev s_Disk_read : Stmt := inClass (top 21) 4
theorem sc_Disk_read : FnScope ["self", "block"] ["self", "block"] (defScope s_Disk_read) := ⟨rfl, rfl, rfl, by decide +kernel, rfl, by decide +kernel, by decide +kernel⟩
def sp_rd (K : PySem.W.Frag) (C CB : Addr) : Sp := fun vs H Q E => ∃ (G : Hp) (L : List (Addr × HO)) (p dx s t w : Addr) (m : Nat) (lf : Option Nat) (dd : Bool) (v : V) (d : PyData) (now : List V), vs = [.ref p, v] ∧ Own G H L ∧ H p = some (.ins C dx (dkF m s t w lf dd)) ∧ H t = some (.lst now) ∧ now.length = m ∧ Dt K H v d ∧
  (∀ (i : Nat) (x : V), d = .int i → now[i]? = some x → Q x H) ∧ (ixB m d = false → ∀ (d' : Addr) (G' H' : Hp), Same G G' → Own G' H' L → G' d' = some (.xd [("given", v)]) → E (.ref CB) (some d') H')
theorem ok_rd {f : Addr} {fd : FuncData} (F : Fun K "read" "Disk.read" s_Disk_read f fd) (B : Bt mg) (Z : Dc K C) (M_Disk_check_block : Mt P w K mg base k C "check_block" ["self", "block"] (sp_cb K C CB)) : FnG P w K mg base (k + 1) f fd ["self", "block"] (sp_rd K C CB) := by
  refine fnG_of F sc_Disk_read (fun vs H Q E h => ?_) (fun cdv A outer s H vs Q E r h => ?_)
  · obtain ⟨_, _, _, _, _, _, _, _, _, _, _, _, _, rfl, _⟩ := h
    rfl
  · obtain ⟨G, L, p, dx, s, t, w, m, lf, dd, v, d, now, rfl, O, hp, ht, hn, hv, q1, q2⟩ := h
    refine ⟨_, (pss_cons (ps_expr (g_meth M_Disk_check_block r (takes_of rfl rfl rfl rfl) (pv 0) (pa_cons (pv 1) pa_nil)))
       (pss_one (ps_ret (pe_ix (ixK (K := K) rfl) (pe_fldK (K := K) rfl (pv 0) rfl) (pv 1) (fun _ _ => rfl))))), ?_⟩
    try dsimp only [cxOf]
    refine x_start (σ' := [some _, some _]) rfl ?_
    walk_at "s"
    refine x_mI hp f_meth ?_
    walk_at "s"
    refine ⟨G, L, p, dx, _, m, v, d, rfl, O, hp, f_many, hv, fun hb => ?_, fun hb d' G' H' s' O' e' => q2 hb d' G' H' s' O' e'⟩
    cases hv with
    | int i =>
      simp only [ixB, Bool.and_eq_true, decide_eq_true_eq] at hb
      obtain ⟨j, rfl⟩ := Int.eq_ofNat_of_zero_le hb.1
      have hj : j < now.length := by omega
      walk_at "s"
      refine x_fldI hp Z.cl Z.texts f_texts ?_
      walk_at "s"
      refine x_ixl (SqL.of ht) (atI_nat (List.getElem?_eq_getElem hj)) ?_
      exact q1 j _ rfl (List.getElem?_eq_getElem hj)
    | _ => exact absurd (show false = true from hb) Bool.false_ne_true
abbrev s_Disk_pending : Stmt := inClass (top 21) 8
theorem sc_Disk_pending : FnScope ["self"] ["self"] (defScope s_Disk_pending) := ⟨rfl, rfl, rfl, by decide +kernel, rfl, by decide +kernel, by decide +kernel⟩
def sp_pe (C : Addr) : Sp := fun vs H Q _ => ∃ (p dx s t w : Addr) (m : Nat) (lf : Option Nat) (dd : Bool) (ws : List V), vs = [.ref p] ∧ H p = some (.ins C dx (dkF m s t w lf dd)) ∧ H w = some (.lst ws) ∧ Q (.int ws.length) H
theorem ok_pe {f : Addr} {fd : FuncData} (F : Fun K "pending" "Disk.pending" s_Disk_pending f fd) (B : Bt mg) (Z : Dc K C) : FnG P w K mg base (k + 1) f fd ["self"] (sp_pe C) := by
  refine fnG_of F sc_Disk_pending (fun vs H Q E h => ?_) (fun cdv A outer s H vs Q E r h => ?_)
  · obtain ⟨_, _, _, _, _, _, _, _, _, rfl, _⟩ := h
    rfl
  · obtain ⟨p, dx, s, t, w, m, lf, dd, ws, rfl, hp, hw, q⟩ := h
    refine ⟨_, (pss_one (ps_ret (pe_callB (cLenK (K := K) rfl) (by rfl) B.len (by decide +kernel) (pa_cons (pe_fldK (K := K) rfl (pv 0) rfl) pa_nil)))), ?_⟩
    try dsimp only [cxOf]
    refine x_start (σ' := [some _]) rfl ?_
    walk_at "s"
    refine x_fldI hp Z.cl Z.writes f_writes ?_
    walk_at "s"
    refine x_lenl (SqL.of hw) ?_
    exact q
end
end M85
set_option maxHeartbeats 4000000
namespace M85
open PySem PySem.Spec PyProof.Rows L2 G
local macro_rules | `(tactic| walk_at "hp") => `(tactic| first | assumption | exact Own.at0 (by assumption) | exact Own.at1 (by assumption) | exact Own.at2 (by assumption) | exact Own.at3 (by assumption) | exact Own.sub (by assumption) _ _ (by assumption) | exact upd_same)
local macro_rules | `(tactic| walk_at "hl") => `(tactic| first | assumption | exact SqL.of (by walk_at "hp") | exact Own.seq (by assumption) (by assumption) | exact Own.seq (by assumption) (SqL.of (by assumption)))
local macro_rules | `(tactic| walk_at "ht") => `(tactic| first | assumption | exact SqT.of (by walk_at "hp") | exact Own.set (by assumption) (by assumption) | exact Own.set (by assumption) (SqT.of (by assumption)))
local macro_rules | `(tactic| walk_at "n") => `(tactic| (intros; (try dsimp only [List.set, wipe, List.map, List.set_cons_succ, List.set_cons_zero]); (try exact rfl)))
local macro_rules | `(tactic| walk_at "n1") => `(tactic| with_reducible first | (refine x_asgN (σ' := ?s) ?hs ?q; (case hs => walk_at "n")) | (refine x_gN (σ' := ?s) ?hs ?q; (case hs => walk_at "n")) | (refine And.intro (show wipe _ _ = _ from (by walk_at "n")) ?_) | (refine x_parN (σ' := ?s) ?hs ?q; (case hs => walk_at "n")) | (refine x_par3N (σ' := ?s) ?hs ?q; (case hs => walk_at "n")))
local macro_rules | `(tactic| walk_at "v1") => `(tactic| ((with_reducible refine x_var (v := ?v) ?h ?q); (case h => first | exact rfl | assumption)))
local macro_rules | `(tactic| walk_at "s1") => `(tactic| with_reducible first | refine x_op ?_ | refine x_acons ?_ | refine x_c ?_ | refine x_call ?_ | refine x_anil ?_ | refine x_cb ?_ | refine x_seq ?_ | refine x_asgG ?_ | refine x_gC ?_ | refine x_gNl ?_ | refine x_ret ?_ | refine x_ifs ?_ | refine x_test ?_ | refine x_testb ?_ | refine x_and ?_ | refine x_or ?_ | refine x_andV ?_ | refine x_isB ?_ | refine x_add ?_ | refine x_lt ?_ | refine x_inti ?_ | refine x_isI ?_ | refine x_lst ?_ | refine x_tup ?_ | refine x_slice ?_ | refine x_nop ?_ | refine x_part ?_ | refine x_bm ?_ | refine x_sub ?_ | refine x_rI0 ?_ | refine x_drop ?_ | refine x_next ?_ | refine x_brk ?_ | refine x_cnt ?_ | refine x_par2 ?_ | refine x_par33 ?_ | refine x_un ?_ | refine x_rU ?_ | refine x_le ?_ | refine x_gt ?_ | refine x_ge ?_ | refine x_lts ?_ | refine x_intb ?_ | refine x_abs ?_ | refine x_tru ?_ | refine x_trub ?_ | refine x_trui ?_ | refine x_not ?_ | refine x_orV ?_ | refine x_notV ?_ | refine x_if ?_ | refine x_isN ?_ | refine x_isnN ?_ | refine x_dict ?_ | refine x_bm0 ?_ | refine x_revL ?_ | refine x_lcR ?_ | refine x_lcS ?_ | refine x_forR ?_ | refine x_forS ?_ | refine x_yes ?_ | refine ite_t ?_ | refine ite_f ?_)
local macro_rules | `(tactic| walk_at "s") => `(tactic| repeat (first | walk_at "v1" | walk_at "s1" | walk_at "n1"))
local macro_rules | `(tactic| walk_at "bd") => `(tactic| first | decide | omega | exact Nat.le_refl _)
local macro_rules | `(tactic| walk_at "ft") => `(tactic| first
  | with_reducible exact la_nil | with_reducible exact fa_nil | with_reducible exact ft_non | with_reducible exact ft_bl | with_reducible exact ft_dict | ((with_reducible refine ft_str (n := 10) (x := ?x) ?h); (case h => exact And.intro rfl (by decide))) | ((with_reducible refine ft_int (i := ?i) ?h); (case h => decide))
  | ((with_reducible refine ft_var (v := ?v) (m := ?m) (n := ?n) ?h ?f); (case h => exact rfl); (case f => assumption))
  | ((with_reducible refine fa_cons (m1 := ?a) (n1 := ?b) (m2 := ?c) (n2 := ?d) ?f ?g); (case f => walk_at "ft"); (case g => walk_at "ft"))
  | ((with_reducible refine ft_tup (m := ?m) (n := ?n) ?f ?h); (case f => walk_at "ft"); (case h => walk_at "bd"))
  | ((with_reducible refine ft_lst (m := ?m) (n := ?n) ?f ?h); (case f => walk_at "ft"); (case h => walk_at "bd"))
  | ((with_reducible refine la_cons (m1 := ?a) (n1 := ?b) (B := ?c) ?f ?g ?h ?i); (case f => walk_at "ft"); (case h => walk_at "bd"); (case i => walk_at "bd"); (case g => walk_at "ft"))
  | ((with_reducible refine lt_var (v := ?v) (m := ?m) (n := ?n) (B := ?b) ?h ?f); (case h => exact rfl); (case f => assumption))
  | ((with_reducible refine lt_add (B1 := ?a) (B2 := ?b) ?f ?g ?h); (case f => walk_at "ft"); (case g => walk_at "ft"); (case h => walk_at "bd"))
  | ((with_reducible refine ft_addsv (x := ?x) (m := ?m) (n := 10) ?h ?s ?a ?z); (case h => exact rfl); (case s => assumption); (case a => exact And.intro rfl (by decide)); (case z => decide))
  | ((with_reducible refine lt_lst ?f ?h); (case f => walk_at "ft"); (case h => walk_at "bd")))
local macro_rules | `(tactic| walk_at "s1") => `(tactic| with_reducible first | refine x_fld ?_ | refine x_sfld ?_ | refine x_m ?_ | refine x_mr ?_ | refine x_i ?_ | refine x_ir ?_ | refine x_gfld ?_ | refine x_mko ?_ | refine x_vei ?_ | refine x_ost ?_ | refine ite_nt ?_ | refine ite_nf ?_)
section
variable {P : Program} {w : World} {K : PySem.W.Frag} {mg : Str → Option Value} {base : Heap} {k : Nat} {fa C D CB CT CM CF CP CC : Addr}
abbrev s_Disk_write : Stmt := inClass (top 21) 5
theorem sc_Disk_write : FnScope ["self", "block", "text"] ["self", "block", "text"] (defScope s_Disk_write) := ⟨rfl, rfl, rfl, by decide +kernel, rfl, by decide +kernel, by decide +kernel⟩
def sp_wr (K : PySem.W.Frag) (C CB CT CP : Addr) : Sp := fun vs H Q E => ∃ (G : Hp) (R : List (Addr × HO)) (p dx s t w : Addr) (m : Nat) (lf : Option Nat) (dd : Bool) (vb vt : V) (db dt : PyData) (ss ts ws : List V), vs = [.ref p, vb, vt] ∧ Own G H (dkL C p dx s t w m lf dd ss ts ws ++ R) ∧ ts.length = m ∧
  Dt K H vb db ∧ (∀ (G' H' : Hp), Same G G' → Own G' H' (dkL C p dx s t w m lf dd ss ts ws ++ R) → Dt K H' vt dt) ∧ (∀ x, dt = .str x → x.length ≤ 100000) ∧ ws.length ≤ 10000 ∧
  (dd = true → E (.ref CP) none H) ∧
  (dd = false → ixB m db = false → ∀ (d' : Addr) (G' H' : Hp), Same G G' → Own G' H' (dkL C p dx s t w m lf dd ss ts ws ++ R) → G' d' = some (.xd [("given", vb)]) → E (.ref CB) (some d') H') ∧
  (dd = false → ixB m db = true → textB dt = false → ∀ (d' : Addr) (G' H' : Hp), Same G G' → Own G' H' (dkL C p dx s t w m lf dd ss ts ws ++ R) → G' d' = some (.xd [("given", vt)]) → E (.ref CT) (some d') H') ∧
  (∀ (i : Nat) (x : Str), dd = false → db = .int i → i < m → dt = .str x → textB dt = true → stepL lf = none → ∀ (G' H' : Hp), Same G G' → Own G' H' (dkL C p dx s t w m lf true ss ts ws ++ R) → E (.ref CP) none H') ∧
  (∀ (i : Nat) (x : Str) lf', dd = false → db = .int i → i < m → dt = .str x → textB dt = true → stepL lf = some lf' → ∀ (G' H' : Hp) (a : Addr), Same G G' → Own G' H' (dkL C p dx s t w m lf' false ss (ts.set i (.str x)) (ws ++ [.ref a]) ++ R) → G' a = some (.tup [.int (i : Int), .str x]) → Q .non H')
theorem ok_wr {f : Addr} {fd : FuncData} (F : Fun K "write" "Disk.write" s_Disk_write f fd) (B : Bt mg) (Z : Dc K C) (M_Disk_check_alive : Mt P w K mg base (k + 1) C "check_alive" ["self"] (sp_ca C CP)) (M_Disk_check_block : Mt P w K mg base (k + 1) C "check_block" ["self", "block"] (sp_cb K C CB))
    (M_Disk_spend : Mt P w K mg base (k + 1) C "spend" ["self"] (sp_sp C CP)) (C_is_text : Cal P w K mg base (k + 1) "is_text" ["value"] (sp_tx K)) (X_InvalidText : Xk P w K mg base k "InvalidText" CT D) :
    FnG P w K mg base (k + 2) f fd ["self", "block", "text"] (sp_wr K C CB CT CP) := by
  refine fnG_of F sc_Disk_write (fun vs H Q E h => ?_) (fun cdv A outer s H vs Q E r h => ?_)
  · obtain ⟨_, _, _, _, _, _, _, _, _, _, _, _, _, _, _, _, _, rfl, _⟩ := h
    rfl
  · obtain ⟨G, R, p, dx, s, t, w, m, lf, dd, vb, vt, db, dt, ss, ts, ws, rfl, O, hn, hb, htv, hz, hw, q0, q2, q3, q4, q1⟩ := h
    refine ⟨_, (pss_cons (ps_expr (g_meth0 M_Disk_check_alive r (takes_of rfl rfl rfl rfl) (pv 0)))
       (pss_cons (ps_expr (g_meth M_Disk_check_block r (takes_of rfl rfl rfl rfl) (pv 0) (pa_cons (pv 1) pa_nil)))
       (pss_cons (ps_if (pt_not (pt_truK (K := K) rfl (g_call C_is_text r (by rfl) passL (pa_cons (pv 2) pa_nil))))
       (pss_one (ps_raise rfl (takes_of rfl rfl rfl rfl) (g_err X_InvalidText.er r (by rfl) passL (pa_cons (pv 2) pa_nil))))
       pss_nil)
       (pss_cons (ps_expr (g_meth0 M_Disk_spend r (takes_of rfl rfl rfl rfl) (pv 0)))
       (pss_cons (ps_asg (pv 2) (pg_sub (pe_fldK (K := K) rfl (pv 0) rfl) (pv 1) sSet))
       (pss_one (ps_expr (pe_bmK' (K := K) rfl PySem.F.plainAttrs_list PySem.F.slot_list_append PySem.F.type_list_append mApp (pe_fldK (K := K) rfl (pv 0) rfl) (pa_cons (d_tup (pa_cons (pv 1) (pa_cons (pv 2) pa_nil))) pa_nil))))))))), ?_⟩
    try dsimp only [cxOf]
    refine x_start (σ' := [some _, some _, some _]) rfl ?_
    have ht := htv G H (Same.refl _) O
    walk_at "s"
    refine x_mI (dk_p O) f_meth ?_
    walk_at "s"
    refine ⟨p, dx, _, dd, rfl, dk_p O, f_dead, fun ed => ?_, q0⟩
    subst ed
    walk_at "s"
    refine x_mI (dk_p O) f_meth ?_
    walk_at "s"
    refine ⟨G, _, p, dx, _, m, vb, db, rfl, O, dk_p O, f_many, hb, fun cb => ?_, fun cb d' G' H' s' O' e' => q2 rfl cb d' G' H' s' O' e'⟩
    walk_at "s"
    refine ⟨G, _, vt, dt, rfl, O, ht, hz, fun G1 H1 s1 O1 => ?_⟩
    walk_at "s"
    cases ct : textB dt with
    | false =>
      walk_at "s"
      exact x_raise (Wd := E) O1 fun d' G' H' s' O' e' => q3 rfl cb ct d' G' H' (s1.trans s') O' e'
    | true =>
      walk_at "s"
      refine x_mI (dk_p O1) f_meth ?_
      walk_at "s"
      cases hb with
      | int i =>
        cases ht with
        | str x =>
          simp only [ixB, Bool.and_eq_true, decide_eq_true_eq] at cb
          obtain ⟨j, rfl⟩ := Int.eq_ofNat_of_zero_le cb.1
          have hj : j < ts.length := by omega
          refine ⟨G1, R, p, dx, s, t, w, m, lf, ss, ts, ws, rfl, O1, fun lf' el H2 O2 => ?_, fun el H2 O2 => q4 j x rfl rfl (by omega) rfl ct el G1 H2 s1 O2⟩
          walk_at "s"
          refine x_fldI (dk_p O2) Z.cl Z.texts f_texts ?_
          walk_at "s"
          refine x_setl (dk_t O2) (ixN_nat hj) (x_dkT O2 fun H3 O3 => ?_)
          walk_at "s"
          refine x_fldI (dk_p O3) Z.cl Z.writes f_writes ?_
          refine ⟨ty_l (SqL.of (dk_w O3)), ?_⟩
          walk_at "s"
          refine ⟨by show 2 ≤ sizeLine; decide, x_fix O3 fun a G4 H4 s4 O4 e4 => ?_⟩
          walk_at "s"
          refine x_app (dk_w O4) (lt_line (by omega)) (x_dkW O4 fun H5 O5 => ?_)
          walk_at "s"
          exact q1 j x lf' rfl rfl (by omega) rfl ct el _ _ _ (s1.trans s4) O5 e4
        | _ => exact absurd (show false = true from ct) Bool.false_ne_true
      | _ => exact absurd (show false = true from cb) Bool.false_ne_true
abbrev s_Disk_sync : Stmt := inClass (top 21) 6
theorem sc_Disk_sync : FnScope ["self"] ["self"] (defScope s_Disk_sync) := ⟨rfl, rfl, rfl, by decide +kernel, rfl, by decide +kernel, by decide +kernel⟩
def sp_sy (C CP : Addr) : Sp := fun vs H Q E => ∃ (G : Hp) (R : List (Addr × HO)) (p dx s t w : Addr) (m : Nat) (lf : Option Nat) (dd : Bool) (ss ts ws : List V), vs = [.ref p] ∧ Own G H (dkL C p dx s t w m lf dd ss ts ws ++ R) ∧
  (dd = true → E (.ref CP) none H) ∧ (dd = false → stepL lf = none → ∀ H', Own G H' (dkL C p dx s t w m lf true ss ts ws ++ R) → E (.ref CP) none H') ∧
  (∀ lf', dd = false → stepL lf = some lf' → ∀ (H' : Hp) (s' w' : Addr), Own G H' (dkL C p dx s' t w' m lf' false ts ts [] ++ R) → Q .non H')
theorem ok_sy {f : Addr} {fd : FuncData} (F : Fun K "sync" "Disk.sync" s_Disk_sync f fd) (B : Bt mg) (Z : Dc K C) (M_Disk_check_alive : Mt P w K mg base k C "check_alive" ["self"] (sp_ca C CP))
    (M_Disk_spend : Mt P w K mg base k C "spend" ["self"] (sp_sp C CP)) : FnG P w K mg base (k + 1) f fd ["self"] (sp_sy C CP) := by
  refine fnG_of F sc_Disk_sync (fun vs H Q E h => ?_) (fun cdv A outer s H vs Q E r h => ?_)
  · obtain ⟨_, _, _, _, _, _, _, _, _, _, _, _, _, rfl, _⟩ := h
    rfl
  · obtain ⟨G, R, p, dx, s, t, w, m, lf, dd, ss, ts, ws, rfl, O, q0, q1, q2⟩ := h
    refine ⟨_, (pss_cons (ps_expr (g_meth0 M_Disk_check_alive r (takes_of rfl rfl rfl rfl) (pv 0)))
       (pss_cons (ps_expr (g_meth0 M_Disk_spend r (takes_of rfl rfl rfl rfl) (pv 0)))
       (pss_cons (ps_fldK (K := K) rfl (pv 0) (pe_callTy (cListK (K := K) rfl) (by rfl) B.list (by decide +kernel) (pa_cons (pe_fldK (K := K) rfl (pv 0) rfl) pa_nil)) rfl)
       (pss_one (ps_fldK (K := K) rfl (pv 0) (d_lst pa_nil) rfl))))), ?_⟩
    try dsimp only [cxOf]
    refine x_start (σ' := [some _]) rfl ?_
    walk_at "s"
    refine x_mI (dk_p O) f_meth ?_
    walk_at "s"
    refine ⟨p, dx, _, dd, rfl, dk_p O, f_dead, fun ed => ?_, q0⟩
    subst ed
    walk_at "s"
    refine x_mI (dk_p O) f_meth ?_
    walk_at "s"
    refine ⟨G, R, p, dx, s, t, w, m, lf, ss, ts, ws, rfl, O, fun lf' el H0 O0 => ?_, fun el H2 O2 => q1 rfl el H2 O2⟩
    walk_at "s"
    refine x_fldI (dk_p O0) Z.cl Z.texts f_texts ?_
    walk_at "s"
    refine x_listL (SqL.of (dk_t O0)) (x_new O0 fun s' H1 O1 => ?_)
    walk_at "s"
    have hp1 := Own.in_ (A := [_]) O1
    refine x_sfldI hp1 Z.cl Z.synced (by show 6 < 1000; decide) ?_
    rw [p_synced]
    have O2 := Own.updA (A := [_]) (o' := .ins C dx (dkF m s' t w lf' false)) O1
    have O3 : Own G _ (dkL C p dx s' t w m lf' false ts ts ws ++ R) := Own.putAt (A := [_, _]) (Own.dropAt (A := [_, _, _]) O2)
    walk_at "s"
    refine ⟨by show 0 ≤ sizeLine; decide, x_new O3 fun w' H4 O4 => ?_⟩
    walk_at "s"
    refine x_sfldI (Own.in_ (A := [_]) O4) Z.cl Z.writes (by show 6 < 1000; decide) ?_
    rw [p_writes]
    have O5 := Own.updA (A := [_]) (o' := .ins C dx (dkF m s' t w' lf' false)) O4
    have O6 : Own G _ (dkL C p dx s' t w' m lf' false ts ts [] ++ R) := Own.putAt (A := [_, _, _, _]) (Own.dropAt (A := [_, _, _, _, _]) O5)
    walk_at "s"
    exact q2 lf' rfl el _ _ _ O6
abbrev s_Disk_limit : Stmt := inClass (top 21) 7
theorem sc_Disk_limit : FnScope ["self", "count"] ["self", "count"] (defScope s_Disk_limit) := ⟨rfl, rfl, rfl, by decide +kernel, rfl, by decide +kernel, by decide +kernel⟩
/-- a count: none, or a number -/
def cntB : PyData → Option (Option Nat)
  | .none => some none
  | .int i => if 0 ≤ i then some (some i.toNat) else none
  | _ => none
def sp_li (K : PySem.W.Frag) (C CP CC : Addr) : Sp := fun vs H Q E => ∃ (G : Hp) (R : List (Addr × HO)) (p dx s t w : Addr) (m : Nat) (lf : Option Nat) (dd : Bool) (v : V) (d : PyData) (ss ts ws : List V), vs = [.ref p, v] ∧ Own G H (dkL C p dx s t w m lf dd ss ts ws ++ R) ∧ Dt K H v d ∧
  (dd = true → E (.ref CP) none H) ∧ (∀ lf', dd = false → cntB d = some lf' → ∀ H', Own G H' (dkL C p dx s t w m lf' dd ss ts ws ++ R) → Q .non H') ∧
  (dd = false → cntB d = none → ∀ (d' : Addr) (G' H' : Hp), Same G G' → Own G' H' (dkL C p dx s t w m lf dd ss ts ws ++ R) → G' d' = some (.xd [("given", v)]) → E (.ref CC) (some d') H')
theorem ok_li {f : Addr} {fd : FuncData} (F : Fun K "limit" "Disk.limit" s_Disk_limit f fd) (B : Bt mg) (Z : Dc K C) (M_Disk_check_alive : Mt P w K mg base (k + 1) C "check_alive" ["self"] (sp_ca C CP)) (C_is_integer : Cal P w K mg base (k + 1) "is_integer" ["value"] (sp_int K))
    (X_InvalidCount : Xk P w K mg base k "InvalidCount" CC D) : FnG P w K mg base (k + 2) f fd ["self", "count"] (sp_li K C CP CC) := by
  refine fnG_of F sc_Disk_limit (fun vs H Q E h => ?_) (fun cdv A outer s H vs Q E r h => ?_)
  · obtain ⟨_, _, _, _, _, _, _, _, _, _, _, _, _, _, _, rfl, _⟩ := h
    rfl
  · obtain ⟨G, R, p, dx, s, t, w, m, lf, dd, v, d, ss, ts, ws, rfl, O, hv, q0, q1, q2⟩ := h
    refine ⟨_, (pss_cons (ps_expr (g_meth0 M_Disk_check_alive r (takes_of rfl rfl rfl rfl) (pv 0)))
       (pss_cons (ps_if (PW.pt (pw_and (pt_cmpR oIsn (pv 1) pe_non (nomark _)) (pw_and1 (pt_not (PW.pt (pw_and (pt_truK (K := K) rfl (g_call C_is_integer r (by rfl) passL (pa_cons (pv 1) pa_nil))) (pw_and1 (pt_cmpR oGe (pv 1) pe_int (nomark _)))))))))
       (pss_one (ps_raise rfl (takes_of rfl rfl rfl rfl) (g_err X_InvalidCount.er r (by rfl) passL (pa_cons (pv 1) pa_nil))))
       pss_nil)
       (pss_one (ps_fldK (K := K) rfl (pv 0) (pv 1) rfl)))), ?_⟩
    try dsimp only [cxOf]
    refine x_start (σ' := [some _, some _]) rfl ?_
    walk_at "s"
    refine x_mI (dk_p O) f_meth ?_
    walk_at "s"
    refine ⟨p, dx, _, dd, rfl, dk_p O, f_dead, fun ed => ?_, q0⟩
    subst ed
    walk_at "s"
    have bad : cntB d = none → ∀ d' : Addr, ∀ G' H' : Hp, Same G G' → Own G' H' (dkL C p dx s t w m lf false ss ts ws ++ R) → G' d' = some (.xd [("given", v)]) → E (.ref CC) (some d') H' := fun e => q2 rfl e
    by_cases hn : v = .non
    · subst hn
      have ed : d = .none := by cases hv; rfl
      subst ed
      refine ite_b (fun c => absurd c (by decide)) (fun _ => ?_)
      walk_at "s"
      refine x_sfldI (dk_p O) Z.cl Z.left (by show 6 < 1000; decide) ?_
      exact q1 none rfl rfl _ (dk_left (lf' := none) O)
    have ed : (!decide (v = V.non)) = true := by rw [decide_eq_false hn]; rfl
    rw [ed]
    walk_at "s"
    refine ⟨v, d, rfl, hv, ?_⟩
    walk_at "s"
    cases hi : (tyN d == "int") with
    | false =>
      have hc : cntB d = none := by
        cases hv with
        | non => exact absurd rfl hn
        | int i => exact absurd (show true = false from hi) (fun e => nomatch e)
        | _ => rfl
      walk_at "s"
      exact x_raise (Wd := E) O fun d' G' H' s' O' e' => bad hc d' G' H' s' O' e'
    | true =>
      cases hv with
      | int i =>
        walk_at "s"
        refine ite_b (fun c => ?_) (fun c => ?_)
        · have h0 : ¬ 0 ≤ i := fun z => by rw [decide_eq_true z] at c; exact absurd c (by decide)
          walk_at "s"
          refine x_raise (Wd := E) O fun d' G' H' s' O' e' => bad ?_ d' G' H' s' O' e'
          simp only [cntB]
          rw [if_neg h0]
        · have h0 : 0 ≤ i := Classical.byContradiction fun z => by rw [decide_eq_false z] at c; exact absurd c (by decide)
          obtain ⟨n, rfl⟩ := Int.eq_ofNat_of_zero_le h0
          walk_at "s"
          refine x_sfldI (dk_p O) Z.cl Z.left (by show 6 < 1000; decide) ?_
          exact q1 (some n) rfl (by simp only [cntB, if_pos h0, Int.toNat_natCast]) _ (dk_left (lf' := some n) O)
      | _ => exact absurd (show false = true from hi) Bool.false_ne_true
abbrev s_Disk___init__ : Stmt := inClass (top 21) 0
theorem sc_Disk___init__ : FnScope ["self", "many"] ["self", "many"] (defScope s_Disk___init__) := ⟨rfl, rfl, rfl, by decide +kernel, rfl, by decide +kernel, by decide +kernel⟩
def sp_in (K : PySem.W.Frag) (C CM : Addr) : Sp := fun vs H Q E => ∃ (G : Hp) (R : List (Addr × HO)) (p dx : Addr) (v : V) (d : PyData), vs = [.ref p, v] ∧ Own G H ((p, .ins C dx []) :: (dx, .own p) :: R) ∧ Dt K H v d ∧
  (∀ (m : Nat), d = .int m → 1 ≤ m → m ≤ 8 → ∀ (H' : Hp) (s t w : Addr), Own G H' (dkL C p dx s t w m none false (List.replicate m (.str "")) (List.replicate m (.str "")) [] ++ R) → Q .non H') ∧
  (inB 1 8 d = false → ∀ (d' : Addr) (G' H' : Hp), Same G G' → Own G' H' R → G' d' = some (.xd [("given", v)]) → E (.ref CM) (some d') H')
theorem rep_one {m : Nat} {v : V} : (List.replicate (m : Int).toNat [v]).flatten = List.replicate m v := by
  rw [Int.toNat_natCast, List.flatten_replicate_singleton]
theorem ok_in {f : Addr} {fd : FuncData} (F : Fun K "__init__" "Disk.__init__" s_Disk___init__ f fd) (B : Bt mg) (Z : Dc K C) (T : Tc K mg fa C D) (C_is_within : Cal P w K mg base (k + 1) "is_within" ["value", "low", "high"] (sp_wi K))
    (X_InvalidMany : Xk P w K mg base k "InvalidMany" CM D) : FnG P w K mg base (k + 2) f fd ["self", "many"] (sp_in K C CM) := by
  refine fnG_of F sc_Disk___init__ (fun vs H Q E h => ?_) (fun cdv A outer s H vs Q E r h => ?_)
  · obtain ⟨_, _, _, _, _, _, rfl, _⟩ := h
    rfl
  · obtain ⟨G, R, p, dx, v, d, rfl, O, hv, q1, q2⟩ := h
    refine ⟨_, (pss_cons (ps_if (pt_not (pt_truK (K := K) rfl (g_call C_is_within r (by rfl) passL (pa_cons (pv 1) (pa_cons pe_int (pa_cons (C8.pe_gc (by rfl) T.MOST_BLOCKS) pa_nil))))))
       (pss_one (ps_raise rfl (takes_of rfl rfl rfl rfl) (g_err X_InvalidMany.er r (by rfl) passL (pa_cons (pv 1) pa_nil))))
       pss_nil)
       (pss_cons (ps_fldK (K := K) rfl (pv 0) (pv 1) rfl)
       (pss_cons (ps_fldK (K := K) rfl (pv 0) (pe_op oMul (d_lst (pa_cons pe_str pa_nil)) (pv 1)) rfl)
       (pss_cons (ps_fldK (K := K) rfl (pv 0) (pe_op oMul (d_lst (pa_cons pe_str pa_nil)) (pv 1)) rfl)
       (pss_cons (ps_fldK (K := K) rfl (pv 0) (d_lst pa_nil) rfl)
       (pss_cons (ps_fldK (K := K) rfl (pv 0) pe_non rfl)
       (pss_one (ps_fldK (K := K) rfl (pv 0) pe_bl rfl)))))))), ?_⟩
    try dsimp only [cxOf]
    refine x_start (σ' := [some _, some _]) rfl ?_
    walk_at "s"
    refine ⟨v, d, 1, 8, rfl, hv, ?_⟩
    walk_at "s"
    cases cb : inB 1 8 d with
    | false =>
      refine ite_t ?_
      walk_at "s"
      exact x_raise (Wd := E) O fun d' G' H' s' O' e' => q2 cb d' G' H' s' O'.tail.tail e'
    | true =>
      refine ite_f ?_
      cases hv with
      | int i =>
        simp only [inB, Bool.and_eq_true, decide_eq_true_eq] at cb
        obtain ⟨m, rfl⟩ := Int.eq_ofNat_of_zero_le (show 0 ≤ i by omega)
        walk_at "s"
        refine x_sfldI O.at0 Z.cl Z.many (by show 0 < 1000; decide) ?_
        have O1 := Own.upd0 (o' := .ins C dx [("many", .int (m : Int))]) O
        rw [putF_nil]
        walk_at "s"
        refine ⟨by show 1 ≤ sizeLine; decide, x_fix O1 fun e G2 H2 s2 O2 e2 => ?_⟩
        walk_at "s"
        refine x_rep (O2.sub _ _ e2) (by omega) (by omega) (by show 1 ≤ 1000; decide) ?_
        rw [rep_one]
        refine x_new O2 fun s3 H3 O3 => ?_
        walk_at "s"
        refine x_sfldI (Own.in_ (A := [_]) O3) Z.cl Z.synced (by show 1 < 1000; decide) ?_
        rw [putF_ne (by decide +kernel), putF_nil]
        have O4 := Own.updA (A := [_]) (o' := .ins C dx [("many", .int (m : Int)), ("synced", .ref s3)]) O3
        walk_at "s"
        refine ⟨by show 1 ≤ sizeLine; decide, x_fix O4 fun e5 G5 H5 s5 O5 e5' => ?_⟩
        walk_at "s"
        refine x_rep (O5.sub _ _ e5') (by omega) (by omega) (by show 1 ≤ 1000; decide) ?_
        rw [rep_one]
        refine x_new O5 fun t3 H6 O6 => ?_
        walk_at "s"
        refine x_sfldI (Own.in_ (A := [_, _]) O6) Z.cl Z.texts (by show 2 < 1000; decide) ?_
        rw [putF_ne (by decide +kernel), putF_ne (by decide +kernel), putF_nil]
        have O7 := Own.updA (A := [_, _]) (o' := .ins C dx [("many", .int (m : Int)), ("synced", .ref s3), ("texts", .ref t3)]) O6
        walk_at "s"
        refine ⟨by show 0 ≤ sizeLine; decide, x_new O7 fun w3 H8 O8 => ?_⟩
        walk_at "s"
        refine x_sfldI (Own.in_ (A := [_, _, _]) O8) Z.cl Z.writes (by show 3 < 1000; decide) ?_
        rw [putF_ne (by decide +kernel), putF_ne (by decide +kernel), putF_ne (by decide +kernel), putF_nil]
        have O9 := Own.updA (A := [_, _, _]) (o' := .ins C dx [("many", .int (m : Int)), ("synced", .ref s3), ("texts", .ref t3), ("writes", .ref w3)]) O8
        walk_at "s"
        refine x_sfldI (Own.in_ (A := [_, _, _]) O9) Z.cl Z.left (by show 4 < 1000; decide) ?_
        rw [putF_ne (by decide +kernel), putF_ne (by decide +kernel), putF_ne (by decide +kernel), putF_ne (by decide +kernel), putF_nil]
        have Oa := Own.updA (A := [_, _, _]) (o' := .ins C dx [("many", .int (m : Int)), ("synced", .ref s3), ("texts", .ref t3), ("writes", .ref w3), ("left", .non)]) O9
        walk_at "s"
        refine x_sfldI (Own.in_ (A := [_, _, _]) Oa) Z.cl Z.dead (by show 5 < 1000; decide) ?_
        rw [putF_ne (by decide +kernel), putF_ne (by decide +kernel), putF_ne (by decide +kernel), putF_ne (by decide +kernel), putF_ne (by decide +kernel), putF_nil]
        have Ob := Own.updA (A := [_, _, _]) (o' := .ins C dx (dkF m s3 t3 w3 none false)) Oa
        have Oc := Own.putAt (A := [_, _]) (Own.putAt (A := [_, _, _]) (Own.putAt (A := [_, _, _, _]) Ob))
        exact q1 m rfl (by omega) (by omega) _ s3 t3 w3 ⟨(s2.trans s5).trans Oc.sub, fun x hx => ⟨(Oc.has x hx).1, (s2.trans s5).free (Oc.has x hx).2⟩, Oc.nd⟩
      | _ => exact absurd (show false = true from cb) Bool.false_ne_true
end
end M85
set_option maxHeartbeats 4000000
namespace M85
open PySem PySem.Spec PyProof.Rows L2 G
local macro_rules | `(tactic| walk_at "hp") => `(tactic| first | assumption | exact Own.at0 (by assumption) | exact Own.at1 (by assumption) | exact Own.at2 (by assumption) | exact Own.at3 (by assumption) | exact Own.sub (by assumption) _ _ (by assumption) | exact upd_same)
local macro_rules | `(tactic| walk_at "hl") => `(tactic| first | assumption | exact SqL.of (by walk_at "hp") | exact Own.seq (by assumption) (by assumption) | exact Own.seq (by assumption) (SqL.of (by assumption)))
local macro_rules | `(tactic| walk_at "ht") => `(tactic| first | assumption | exact SqT.of (by walk_at "hp") | exact Own.set (by assumption) (by assumption) | exact Own.set (by assumption) (SqT.of (by assumption)))
local macro_rules | `(tactic| walk_at "n") => `(tactic| (intros; (try dsimp only [List.set, wipe, List.map, List.set_cons_succ, List.set_cons_zero]); (try exact rfl)))
local macro_rules | `(tactic| walk_at "n1") => `(tactic| with_reducible first | (refine x_asgN (σ' := ?s) ?hs ?q; (case hs => walk_at "n")) | (refine x_gN (σ' := ?s) ?hs ?q; (case hs => walk_at "n")) | (refine And.intro (show wipe _ _ = _ from (by walk_at "n")) ?_) | (refine x_parN (σ' := ?s) ?hs ?q; (case hs => walk_at "n")) | (refine x_par3N (σ' := ?s) ?hs ?q; (case hs => walk_at "n")))
local macro_rules | `(tactic| walk_at "v1") => `(tactic| ((with_reducible refine x_var (v := ?v) ?h ?q); (case h => first | exact rfl | assumption)))
local macro_rules | `(tactic| walk_at "s1") => `(tactic| with_reducible first | refine x_op ?_ | refine x_acons ?_ | refine x_c ?_ | refine x_call ?_ | refine x_anil ?_ | refine x_cb ?_ | refine x_seq ?_ | refine x_asgG ?_ | refine x_gC ?_ | refine x_gNl ?_ | refine x_ret ?_ | refine x_ifs ?_ | refine x_test ?_ | refine x_testb ?_ | refine x_and ?_ | refine x_or ?_ | refine x_andV ?_ | refine x_isB ?_ | refine x_add ?_ | refine x_lt ?_ | refine x_inti ?_ | refine x_isI ?_ | refine x_lst ?_ | refine x_tup ?_ | refine x_slice ?_ | refine x_nop ?_ | refine x_part ?_ | refine x_bm ?_ | refine x_sub ?_ | refine x_rI0 ?_ | refine x_drop ?_ | refine x_next ?_ | refine x_brk ?_ | refine x_cnt ?_ | refine x_par2 ?_ | refine x_par33 ?_ | refine x_un ?_ | refine x_rU ?_ | refine x_le ?_ | refine x_gt ?_ | refine x_ge ?_ | refine x_lts ?_ | refine x_intb ?_ | refine x_abs ?_ | refine x_tru ?_ | refine x_trub ?_ | refine x_trui ?_ | refine x_not ?_ | refine x_orV ?_ | refine x_notV ?_ | refine x_if ?_ | refine x_isN ?_ | refine x_isnN ?_ | refine x_dict ?_ | refine x_bm0 ?_ | refine x_revL ?_ | refine x_lcR ?_ | refine x_lcS ?_ | refine x_forR ?_ | refine x_forS ?_ | refine x_yes ?_ | refine ite_t ?_ | refine ite_f ?_)
local macro_rules | `(tactic| walk_at "s") => `(tactic| repeat (first | walk_at "v1" | walk_at "s1" | walk_at "n1"))
local macro_rules | `(tactic| walk_at "bd") => `(tactic| first | decide | omega | exact Nat.le_refl _)
local macro_rules | `(tactic| walk_at "ft") => `(tactic| first
  | with_reducible exact la_nil | with_reducible exact fa_nil | with_reducible exact ft_non | with_reducible exact ft_bl | with_reducible exact ft_dict | ((with_reducible refine ft_str (n := 10) (x := ?x) ?h); (case h => exact And.intro rfl (by decide))) | ((with_reducible refine ft_int (i := ?i) ?h); (case h => decide))
  | ((with_reducible refine ft_var (v := ?v) (m := ?m) (n := ?n) ?h ?f); (case h => exact rfl); (case f => assumption))
  | ((with_reducible refine fa_cons (m1 := ?a) (n1 := ?b) (m2 := ?c) (n2 := ?d) ?f ?g); (case f => walk_at "ft"); (case g => walk_at "ft"))
  | ((with_reducible refine ft_tup (m := ?m) (n := ?n) ?f ?h); (case f => walk_at "ft"); (case h => walk_at "bd"))
  | ((with_reducible refine ft_lst (m := ?m) (n := ?n) ?f ?h); (case f => walk_at "ft"); (case h => walk_at "bd"))
  | ((with_reducible refine la_cons (m1 := ?a) (n1 := ?b) (B := ?c) ?f ?g ?h ?i); (case f => walk_at "ft"); (case h => walk_at "bd"); (case i => walk_at "bd"); (case g => walk_at "ft"))
  | ((with_reducible refine lt_var (v := ?v) (m := ?m) (n := ?n) (B := ?b) ?h ?f); (case h => exact rfl); (case f => assumption))
  | ((with_reducible refine lt_add (B1 := ?a) (B2 := ?b) ?f ?g ?h); (case f => walk_at "ft"); (case g => walk_at "ft"); (case h => walk_at "bd"))
  | ((with_reducible refine ft_addsv (x := ?x) (m := ?m) (n := 10) ?h ?s ?a ?z); (case h => exact rfl); (case s => assumption); (case a => exact And.intro rfl (by decide)); (case z => decide))
  | ((with_reducible refine lt_lst ?f ?h); (case f => walk_at "ft"); (case h => walk_at "bd")))
local macro_rules | `(tactic| walk_at "s1") => `(tactic| with_reducible first | refine x_fld ?_ | refine x_sfld ?_ | refine x_m ?_ | refine x_mr ?_ | refine x_i ?_ | refine x_ir ?_ | refine x_gfld ?_ | refine x_mko ?_ | refine x_vei ?_ | refine x_ost ?_ | refine ite_nt ?_ | refine ite_nf ?_)
/-- what remains: one write's fate -/
def stp (acc : List V) (z : (Nat × V) × Str) : List V := if z.2 = "lost" then acc else acc.set z.1.1 (if z.2 = "done" then z.1.2 else .non)
def remN (ss : List V) (wl : List (Nat × V)) (fl : List Str) (i : Nat) : List V := ((wl.zip fl).take i).foldl stp ss
def rem (ss : List V) (wl : List (Nat × V)) (fl : List Str) : List V := (wl.zip fl).foldl stp ss
theorem stp_len {acc : List V} {z : (Nat × V) × Str} : (stp acc z).length = acc.length := by
  unfold stp
  split
  · rfl
  · rw [List.length_set]
theorem fold_len : ∀ {l : List ((Nat × V) × Str)} {acc : List V}, (l.foldl stp acc).length = acc.length
  | [], _ => rfl
  | z :: l, acc => by rw [List.foldl_cons, fold_len, stp_len]
theorem remN_len {ss : List V} {wl : List (Nat × V)} {fl : List Str} {i : Nat} : (remN ss wl fl i).length = ss.length := fold_len
theorem remN_zero {ss : List V} {wl : List (Nat × V)} {fl : List Str} : remN ss wl fl 0 = ss := by unfold remN; rw [List.take_zero]; rfl
theorem remN_succ {ss : List V} {wl : List (Nat × V)} {fl : List Str} {i : Nat} {b : Nat × V} {f : Str} (h1 : wl[i]? = some b) (h2 : fl[i]? = some f) : remN ss wl fl (i + 1) = stp (remN ss wl fl i) (b, f) := by
  unfold remN
  have e : (wl.zip fl)[i]? = some (b, f) := by
    rw [List.getElem?_zip_eq_some]
    exact ⟨h1, h2⟩
  rw [List.take_add_one, e, List.foldl_append]
  rfl
theorem remN_all {ss : List V} {wl : List (Nat × V)} {fl : List Str} {i : Nat} (h : wl.length ≤ i) : remN ss wl fl i = rem ss wl fl := by
  unfold remN rem
  rw [List.take_of_length_le (by rw [List.length_zip]; omega)]
theorem WrT.get {G : Hp} : ∀ {ws : List V} {wl : List (Nat × V)} {i : Nat} {r : V}, WrT G ws wl → ws[i]? = some r → ∃ a b, r = V.ref a ∧ wl[i]? = some b ∧ G a = some (.tup [.int (b.1 : Int), b.2])
  | _, _, _, _, .nil, e => by simp at e
  | _, _, 0, _, .cons ⟨a, e1, h⟩ t, e => by
    rw [List.getElem?_cons_zero] at e
    cases e
    exact ⟨a, _, e1, rfl, h⟩
  | _, _, i + 1, _, .cons _ t, e => by
    rw [List.getElem?_cons_succ] at e
    obtain ⟨a, b, h1, h2, h3⟩ := WrT.get t e
    exact ⟨a, b, h1, h2, h3⟩
theorem WrT.len {G : Hp} {ws : List V} {wl : List (Nat × V)} (h : WrT G ws wl) : ws.length = wl.length := Paired.length h
/-- can be shown -/
def Rp (d : PyData) : Prop := fits d = true ∧ d.shown.length ≤ sizeLine ∧ d.depth ≤ 60
theorem Rp.bd {m n : Nat} {d : PyData} (b : Bd m n d) (hm : m ≤ 60) (hn : n ≤ 2 ^ 20) : Rp d :=
  ⟨okD_fits d b.ok (Nat.le_trans b.wt hn), PyData.shown_fits (B := 13) (by decide) (by decide) (okD_short d b.ok) (Nat.le_trans b.wt hn), Nat.le_trans b.dep hm⟩
theorem x_reprP {K : PySem.W.Frag} {H : Hp} {Q : VK} {v : V} {d : PyData} (h : Dt K H v d) (r : Rp d) (q : Q (.str d.shown) H) : rRepr K [v] H Q := x_repr h r.1 r.2.1 r.2.2 q
/-- .. also once it has grown -/
def Rv (d : PyData) : Prop := Rp d ∧ ∀ ds, d = .list ds → Rp (.list (ds ++ [.str "more"]))
theorem Rv.of {d : PyData} (r : Rp d) (h : tyN d ≠ "list") : Rv d := ⟨r, fun ds e => by subst e; exact absurd rfl h⟩
/-- a value handed over: plain, or a list that is ours -/
def Val (K : PySem.W.Frag) (G : Hp) (v : V) (d : PyData) (L0 : List (Addr × HO)) : Prop :=
  (L0 = [] ∧ Dt K G v d ∧ tyN d ≠ "list") ∨ ∃ (p : Addr) (xs : List V) (ds : List PyData), L0 = [(p, .lst xs)] ∧ v = .ref p ∧ d = .list ds ∧ DtL K G xs ds ∧ xs.length ≤ 1000
theorem Val.same {K : PySem.W.Frag} {G G' : Hp} {v : V} {d : PyData} {L0 : List (Addr × HO)} (h : Val K G v d L0) (s : Same G G') : Val K G' v d L0 := by
  rcases h with ⟨a, b, c⟩ | ⟨p, xs, ds, a, b, c, e⟩
  · exact .inl ⟨a, b.mono s, c⟩
  · exact .inr ⟨p, xs, ds, a, b, c, e.1.mono s, e.2⟩
theorem Val.at {K : PySem.W.Frag} {G H : Hp} {v : V} {d : PyData} {L0 R : List (Addr × HO)} (h : Val K G v d L0) (O : Own G H (L0 ++ R)) : Dt K H v d := by
  rcases h with ⟨a, b, c⟩ | ⟨p, xs, ds, rfl, rfl, rfl, e⟩
  · exact b.mono O.sub
  · exact .lst (SqL.of (Own.at0 O)) (e.1.mono O.sub)
theorem fates_ok {n : Nat} {fl : List Str} (h : ∀ f ∈ fl, wFates.contains f = true) (hl : fl.length = n) : fatesB n (.list (fl.map PyData.str)) = true := by
  unfold fatesB
  simp only [sqB, sqI, Bool.true_and, List.length_map, hl, decide_true, List.all_map]
  exact List.all_eq_true.mpr fun f hf => h f hf
theorem fates_okT {n : Nat} {fl : List Str} (h : ∀ f ∈ fl, wFates.contains f = true) (hl : fl.length = n) : fatesB n (.tuple (fl.map PyData.str)) = true := by
  unfold fatesB
  simp only [sqB, sqI, Bool.true_and, List.length_map, hl, decide_true, List.all_map]
  exact List.all_eq_true.mpr fun f hf => h f hf
theorem all_f : ∀ {ds : List PyData}, ds.all isF = true → ∃ fl : List Str, ds = fl.map PyData.str ∧ ∀ f ∈ fl, wFates.contains f = true
  | [], _ => ⟨[], rfl, fun _ z => nomatch z⟩
  | d :: ds, h => by
    rw [List.all_cons, Bool.and_eq_true] at h
    obtain ⟨fl, e, hf⟩ := all_f h.2
    cases d with
    | str x => exact ⟨x :: fl, by rw [e]; rfl, fun f hm => by
        rcases List.mem_cons.mp hm with rfl | hm
        · exact h.1
        · exact hf f hm⟩
    | _ => exact absurd (show false = true from h.1) Bool.false_ne_true
theorem fates_of {n : Nat} {d : PyData} (h : fatesB n d = true) : ∃ fl : List Str, (d = .list (fl.map PyData.str) ∨ d = .tuple (fl.map PyData.str)) ∧ fl.length = n ∧ ∀ f ∈ fl, wFates.contains f = true := by
  unfold fatesB at h
  simp only [Bool.and_eq_true, decide_eq_true_eq] at h
  obtain ⟨⟨h1, h2⟩, h3⟩ := h
  obtain ⟨fl, e, hf⟩ := all_f h3
  refine ⟨fl, ?_, ?_, hf⟩
  · cases d with
    | list ds => exact .inl (by rw [show ds = _ from e])
    | tuple ds => exact .inr (by rw [show ds = _ from e])
    | _ => exact absurd (show false = true from h1) Bool.false_ne_true
  · rw [← h2, e, List.length_map]
theorem dtl_strs {K : PySem.W.Frag} {G : Hp} : ∀ {fl : List Str}, DtL K G (fl.map V.str) (fl.map PyData.str)
  | [] => .nil
  | f :: fl => .cons (.str f) dtl_strs
theorem dtl_inv {K : PySem.W.Frag} {G : Hp} : ∀ {fl : List Str} {xs : List V}, DtL K G xs (fl.map PyData.str) → xs = fl.map V.str
  | [], _, .nil => rfl
  | f :: fl, _, .cons (.str _) t => by rw [List.map_cons, dtl_inv t]
theorem Val.dto {K : PySem.W.Frag} {G : Hp} {v : V} {d : PyData} {L0 L : List (Addr × HO)} (h : Val K G v d L0) (hL : ∀ x ∈ L0, x ∈ L) : DtO K G L v d := by
  rcases h with ⟨a, b, c⟩ | ⟨p, xs, ds, rfl, rfl, rfl, e⟩
  · exact .inl b
  · exact .inr ⟨p, xs, ds, rfl, hL _ List.mem_cons_self, rfl, e.1⟩
theorem Val.fates {K : PySem.W.Frag} {G : Hp} {v : V} {d : PyData} {L0 : List (Addr × HO)} {fl : List Str} (h : Val K G v d L0) (e : d = .list (fl.map PyData.str) ∨ d = .tuple (fl.map PyData.str)) : ∃ pf, v = .ref pf ∧ ((pf, HO.lst (fl.map V.str)) ∈ L0 ∨ SqT K G pf (fl.map V.str)) := by
  rcases h with ⟨_, b, c⟩ | ⟨p, xs, ds, rfl, rfl, rfl, hx⟩
  · rcases e with rfl | rfl
    · exact absurd rfl c
    · cases b with
      | tup h t => exact ⟨_, rfl, .inr (by rw [← dtl_inv t]; exact h)⟩
  · rcases e with e | e
    · cases e
      refine ⟨p, rfl, .inl ?_⟩
      rw [dtl_inv hx.1]
      exact List.mem_cons_self
    · cases e
section
variable {P : Program} {w : World} {K : PySem.W.Frag} {mg : Str → Option Value} {base : Heap} {k : Nat} {fa C D CB CT CM CF : Addr}
abbrev s_Disk_remains : Stmt := inClass (top 21) 9
theorem sc_Disk_remains : FnScope ["self", "fates", "rest", "texts", "fate", "block", "text"] ["self", "fates"] (defScope s_Disk_remains) := ⟨rfl, rfl, rfl, by decide +kernel, rfl, by decide +kernel, by decide +kernel⟩
def sp_rm (K : PySem.W.Frag) (C CF : Addr) : Sp := fun vs H Q E => ∃ (G : Hp) (R L0 : List (Addr × HO)) (p dx s t w : Addr) (v : V) (d : PyData) (m : Nat) (lf : Option Nat) (dd : Bool) (ss ts ws : List V) (wl : List (Nat × V)), vs = [.ref p, v] ∧ Own G H (dkL C p dx s t w m lf dd ss ts ws ++ (L0 ++ R)) ∧ 1 ≤ m ∧ m ≤ 8 ∧ ss.length = m ∧
  WrT G ws wl ∧ (∀ b ∈ wl, b.1 < m) ∧ Val K G v d L0 ∧ wl.length ≤ 10000 ∧ (sqI d).length ≤ 100000 ∧
  (fatesB wl.length d = false → ∀ (d' : Addr) (G' H' : Hp), Same G G' → Own G' H' (dkL C p dx s t w m lf dd ss ts ws ++ (L0 ++ R)) → G' d' = some (.xd [("given", v)]) → E (.ref CF) (some d') H') ∧
  ∀ fl : List Str, (d = .list (fl.map PyData.str) ∨ d = .tuple (fl.map PyData.str)) → fl.length = wl.length → (∀ f ∈ fl, wFates.contains f = true) →
  ∀ (G' H' : Hp) (p' dx' s' t' w' : Addr), Same G G' → Own G' H' (dkL C p' dx' s' t' w' m none false (rem ss wl fl) (rem ss wl fl) [] ++ (dkL C p dx s t w m lf dd ss ts ws ++ (L0 ++ R))) → Q (.ref p') H'
theorem ok_rm {f : Addr} {fd : FuncData} (F : Fun K "remains" "Disk.remains" s_Disk_remains f fd) (B : Bt mg) (Z : Dc K C) (T : Tc K mg fa C D) (C_are_fates : Cal P w K mg base (k + 1) "are_fates" ["value", "many"] (sp_fts K))
    (I_Disk : In P w K mg base k C "Disk" ["self", "many"] (sp_in K C CM)) (X_InvalidFates : Xk P w K mg base k "InvalidFates" CF D) : FnG P w K mg base (k + 2) f fd ["self", "fates"] (sp_rm K C CF) := by
  refine fnG_of F sc_Disk_remains (fun vs H Q E h => ?_) (fun cdv A outer s H vs Q E r h => ?_)
  · obtain ⟨_, _, _, _, _, _, _, _, _, _, _, _, _, _, _, _, _, rfl, _⟩ := h
    rfl
  · obtain ⟨G, R, L0, p, dx, s, t, w, v, d, m, lf, dd, ss, ts, ws, wl, rfl, O, m1, m8, hss, hw, hwm, hv, hz, hz2, q0, q⟩ := h
    refine ⟨_, (pss_cons (ps_if (pt_not (pt_truK (K := K) rfl (g_call C_are_fates r (by rfl) passL (pa_cons (pv 1) (pa_cons (pe_callB (cLenK (K := K) rfl) (by rfl) B.len (by decide +kernel) (pa_cons (pe_fldK (K := K) rfl (pv 0) rfl) pa_nil)) pa_nil)))))
       (pss_one (ps_raise rfl (takes_of rfl rfl rfl rfl) (g_err X_InvalidFates.er r (by rfl) passL (pa_cons (pv 1) pa_nil))))
       pss_nil)
       (pss_cons (ps_set (i := 2) sc_Disk_remains.nd rfl (Or.inl rfl) (g_make I_Disk r (by rfl) (takes_of rfl rfl rfl rfl) (pa_cons (pe_fldK (K := K) rfl (pv 0) rfl) pa_nil)))
       (pss_cons (ps_set (i := 3) sc_Disk_remains.nd rfl (Or.inl rfl) (pe_callTy (cListK (K := K) rfl) (by rfl) B.list (by decide +kernel) (pa_cons (pe_fldK (K := K) rfl (pv 0) rfl) pa_nil)))
       (pss_cons (ps_for (passes_of rfl) rfl (pi_zipM (by rfl) B.zip (pa_cons (pv 1) (pa_cons (pe_fldK (K := K) rfl (pv 0) rfl) pa_nil))) (pg_tupK (K := K) (n := 2) rfl rfl (pgs_cons (pg_name (i := 4) sc_Disk_remains.nd rfl (Or.inl rfl)) (pgs_cons (pg_tupK (K := K) (n := 2) rfl rfl (pgs_cons (pg_name (i := 5) sc_Disk_remains.nd rfl (Or.inl rfl)) (pgs_cons (pg_name (i := 6) sc_Disk_remains.nd rfl (Or.inl rfl)) pgs_nil))) pgs_nil)))
       (pss_one (ps_if (pt_cmpR (oNeK (K := K) rfl r) (pv 4) (C8.pe_gc (by rfl) T.LOST) (nomark _))
       (pss_one (ps_asg (pe_ifExp (pt_cmpR (oEqK (K := K) rfl r) (pv 4) (C8.pe_gc (by rfl) T.DONE) (nomark _)) (pv 6) pe_non) (pg_sub (pv 3) (pv 5) sSet)))
       pss_nil)))
       (pss_cons (ps_asg (d_tup (pa_cons (pv 3) (pa_cons (pe_callTy (cListK (K := K) rfl) (by rfl) B.list (by decide +kernel) (pa_cons (pv 3) pa_nil)) pa_nil))) (pg_tupK (K := K) (n := 2) rfl rfl (pgs_cons (pg_fldK (K := K) rfl (pv 2)) (pgs_cons (pg_fldK (K := K) rfl (pv 2)) pgs_nil))))
       (pss_one (ps_ret (pv 2)))))))), ?_⟩
    try dsimp only [cxOf]
    refine x_start (σ' := [some _, some _, none, none, none, none, none]) rfl ?_
    walk_at "s"
    refine x_fldI (dk_p O) Z.cl Z.writes f_writes ?_
    walk_at "s"
    refine x_lenl (SqL.of (dk_w O)) ?_
    refine ⟨G, _, v, d, ws.length, rfl, O, hv.dto (fun x hx => List.mem_append_right _ (List.mem_append_left _ hx)), hz2, fun G1 H1 s1 O1 => ?_⟩
    rw [hw.len]
    cases cb : fatesB wl.length d with
    | false =>
      walk_at "s"
      exact x_raise (Wd := E) O1 fun d' G' H' s' O' e' => q0 cb d' G' H' (s1.trans s') O' e'
    | true =>
    obtain ⟨fl, ed, hfl, hft⟩ := fates_of cb
    obtain ⟨pf, rfl, hpf⟩ := hv.fates ed
    obtain ⟨J, Fx, hJ, hW, hF⟩ : ∃ (J : It) (Fx : Hp → Prop), (∀ H, Fx H → ((J = Itz K pf w ∧ SqL K H pf (fl.map V.str)) ∨ (J = ItzM K pf w ∧ SqT K H pf (fl.map V.str)))) ∧
        Walk J (min (fl.map V.str).length ws.length) (fun H => Fx H ∧ SqL K H w ws) (YPair (fun i => (fl.map V.str)[i]?) (fun i => ws[i]?)) ∧ (∀ (G' H' : Hp) L', Same G G' → Own G' H' L' → (∀ x ∈ L0, x ∈ L') → Fx H') := by
      rcases hpf with hpf | hpf
      · exact ⟨Itz K pf w, fun H => SqL K H pf (fl.map V.str), fun H h => .inl ⟨rfl, h⟩, walk_zip rfl, fun G' H' L' s' O' hL => SqL.of (O'.has _ (hL _ hpf)).1⟩
      · exact ⟨ItzM K pf w, fun H => SqT K H pf (fl.map V.str), fun H h => .inr ⟨rfl, h⟩, walk_zipM rfl, fun G' H' L' s' O' hL => O'.set (same_t s' hpf)⟩
    walk_at "s"
    refine x_fldI (dk_p O1) Z.cl Z.many f_many ?_
    walk_at "s"
    refine x_make O1 fun y dy H2 O2 => ?_
    refine ⟨G1, _, y, dy, .int (m : Int), .int (m : Int), rfl, O2, .int _, fun m' em _ _ H3 s3 t3 w3 O3 => ?_, fun cb => ?_⟩
    · obtain rfl : m = m' := by cases em; rfl
      refine ⟨rfl, ?_⟩
      walk_at "s"
      refine x_fldI (dk_p O3.ab) Z.cl Z.synced f_synced ?_
      walk_at "s"
      refine x_listL (SqL.of (dk_s O3.ab)) (x_new O3 fun tx H4 O4 => ?_)
      walk_at "s"
      refine x_forZM ?_
      walk_at "s"
      refine x_fldI (dk_p O4.tail.ab) Z.cl Z.writes f_writes ?_
      walk_at "s"
      have inL : ∀ (a : Addr × HO) (A B : List (Addr × HO)), ∀ x ∈ L0, x ∈ a :: (A ++ (B ++ (L0 ++ R))) := fun a A B x hx => List.mem_cons_of_mem _ (List.mem_append_right _ (List.mem_append_right _ (List.mem_append_left _ hx)))
      refine ⟨pf, w, _, ws, J, rfl, SqL.of (dk_w O4.tail.ab), hJ _ (hF G1 H4 _ s1 O4 (inL _ _ _)), ?_⟩
      refine for_own hW O4 (fun i σ G' L' => ∃ x4 x5 x6 : Option V, σ = [some (.ref p), some (.ref pf), some (.ref y), some (.ref tx), x4, x5, x6] ∧ (tx, .lst (remN ss wl fl i)) :: (dkL C y dy s3 t3 w3 m none false (List.replicate m (.str "")) (List.replicate m (.str "")) [] ++ (dkL C p dx s t w m lf dd ss ts ws ++ (L0 ++ R))) = L')
        ⟨none, none, none, rfl, by rw [remN_zero]⟩ (fun i σ G' H' L' s' O' ⟨_, _, _, _, e⟩ => by subst e; exact ⟨hF G' H' _ (s1.trans s') O' (inL _ _ _), SqL.of (dk_w O'.tail.ab)⟩) ?_ ?_
      · rintro i x σ G' H' H2 L' hi s' O' ⟨x4, x5, x6, rfl, rfl⟩ ⟨T1, vx, vy, rfl, hT, rfl, ex, ey⟩
        have hi1 : i < fl.length := by
          have h1 : i < min (fl.map V.str).length ws.length := hi
          rw [List.length_map] at h1
          omega
        have ef : fl[i]? = some fl[i] := List.getElem?_eq_getElem hi1
        have hff := hft _ (List.getElem_mem hi1)
        have ex' : (fl.map V.str)[i]? = some vx := ex
        rw [List.getElem?_map, ef] at ex'
        cases ex'
        generalize fl[i] = f at ef hff
        obtain ⟨a, b, rfl, eb, hb⟩ := (hw.mono (s1.trans s')).get ey
        have hbm := hwm b (List.mem_of_getElem? eb)
        have O2 := O'.fix (o := .tup [V.str f, V.ref a]) hT
        have sT : Same G' (upd G' T1 (.tup [V.str f, V.ref a])) := Same.new (O'.free hT)
        refine x_gT (SqT.of upd_same) rfl ?_
        refine x_gC ?_
        walk_at "n1"
        refine x_gC ?_
        refine x_gT (SqT.of (O2.sub _ _ (sT _ _ hb))) rfl ?_
        refine x_gC ?_
        walk_at "n1"
        refine x_gC ?_
        walk_at "n1"
        refine x_gNl ?_
        refine x_gNl ?_
        have er := remN_succ (ss := ss) eb ef
        walk_at "s"
        refine x_ne rfl ?_
        rw [str_eq]
        walk_at "s"
        refine ite_b (fun c => ?_) (fun c => ?_)
        · have nl : ¬ f = "lost" := fun z => by rw [z] at c; exact absurd c (by decide +kernel)
          have lb : b.1 < (remN ss wl fl i).length := by rw [remN_len]; omega
          walk_at "s"
          refine x_eq rfl ?_
          rw [str_eq]
          walk_at "s"
          refine ite_b (fun c2 => ?_) (fun c2 => ?_)
          · walk_at "s"
            refine x_setl O2.at0 (ixN_nat lb) (x_md0 O2 fun H5 O5 => ?_)
            have es : stp (remN ss wl fl i) (b, f) = (remN ss wl fl i).set b.1 b.2 := by
              unfold stp
              rw [if_neg nl, if_pos (eq_of_beq c2)]
            exact fvh (s'.trans sT) O5 ⟨_, _, _, rfl, by rw [er, es]⟩
          · walk_at "s"
            refine x_setl O2.at0 (ixN_nat lb) (x_md0 O2 fun H5 O5 => ?_)
            have es : stp (remN ss wl fl i) (b, f) = (remN ss wl fl i).set b.1 .non := by
              unfold stp
              rw [if_neg nl, if_neg (fun z : f = "done" => by rw [z] at c2; exact absurd c2 (by decide +kernel))]
            exact fvh (s'.trans sT) O5 ⟨_, _, _, rfl, by rw [er, es]⟩
        · have yl : f = "lost" := by
            cases e : f == Str.ofString "lost" with
            | true => exact eq_of_beq e
            | false => rw [e] at c; exact absurd c (by decide)
          walk_at "s"
          have es : stp (remN ss wl fl i) (b, f) = remN ss wl fl i := by
            unfold stp
            rw [if_pos yl]
          exact fvh (s'.trans sT) O2 ⟨_, _, _, rfl, by rw [er, es]⟩
      · rintro σ G' H' L' s' O' ⟨x4, x5, x6, rfl, rfl⟩
        rw [remN_all (by rw [List.length_map]; have := hw.len; omega)] at O'
        walk_at "s"
        refine x_listL (SqL.of O'.at0) (x_new O' fun t9 H5 O5 => ?_)
        walk_at "s"
        refine ⟨by show 2 ≤ sizeLine; decide, x_fix O5 fun p6 G6 H6 s6 O6 e6 => ?_⟩
        refine x_gT (SqT.of (O6.sub _ _ e6)) rfl ?_
        refine x_gC ?_
        walk_at "s"
        refine x_sfldI (Own.in_ (A := [_, _]) O6) Z.cl Z.synced (by show 6 < 1000; decide) ?_
        rw [p_synced]
        have O7 := Own.updA (A := [_, _]) (o' := .ins C dy (dkF m tx t3 w3 none false)) O6
        refine x_gC ?_
        walk_at "s"
        refine x_sfldI (Own.in_ (A := [_, _]) O7) Z.cl Z.texts (by show 6 < 1000; decide) ?_
        rw [p_texts]
        have O8 := Own.updA (A := [_, _]) (o' := .ins C dy (dkF m tx t9 w3 none false)) O7
        refine x_gNl ?_
        walk_at "s"
        have O9 := Own.putAt (A := [_, _]) (Own.putAt (A := [_, _, _]) (Own.dropAt (A := [_, _, _, _]) (Own.dropAt (A := [_, _, _, _]) O8)))
        exact q fl ed hfl hft G6 _ y dy tx t9 w3 ((s1.trans s').trans s6) O9
    · exact absurd cb (by simp only [inB, Bool.and_eq_false_iff, decide_eq_false_iff_not]; omega)
end
end M85
set_option maxHeartbeats 4000000
namespace M85
open PySem PySem.Spec PyProof.Rows L2 G
local macro_rules | `(tactic| walk_at "hp") => `(tactic| first | assumption | exact Own.at0 (by assumption) | exact Own.at1 (by assumption) | exact Own.at2 (by assumption) | exact Own.at3 (by assumption) | exact Own.sub (by assumption) _ _ (by assumption) | exact upd_same)
local macro_rules | `(tactic| walk_at "hl") => `(tactic| first | assumption | exact SqL.of (by walk_at "hp") | exact Own.seq (by assumption) (by assumption) | exact Own.seq (by assumption) (SqL.of (by assumption)))
local macro_rules | `(tactic| walk_at "ht") => `(tactic| first | assumption | exact SqT.of (by walk_at "hp") | exact Own.set (by assumption) (by assumption) | exact Own.set (by assumption) (SqT.of (by assumption)))
local macro_rules | `(tactic| walk_at "n") => `(tactic| (intros; (try dsimp only [List.set, wipe, List.map, List.set_cons_succ, List.set_cons_zero]); (try exact rfl)))
local macro_rules | `(tactic| walk_at "n1") => `(tactic| with_reducible first | (refine x_asgN (σ' := ?s) ?hs ?q; (case hs => walk_at "n")) | (refine x_gN (σ' := ?s) ?hs ?q; (case hs => walk_at "n")) | (refine And.intro (show wipe _ _ = _ from (by walk_at "n")) ?_) | (refine x_parN (σ' := ?s) ?hs ?q; (case hs => walk_at "n")) | (refine x_par3N (σ' := ?s) ?hs ?q; (case hs => walk_at "n")))
local macro_rules | `(tactic| walk_at "v1") => `(tactic| ((with_reducible refine x_var (v := ?v) ?h ?q); (case h => first | exact rfl | assumption)))
local macro_rules | `(tactic| walk_at "s1") => `(tactic| with_reducible first | refine x_op ?_ | refine x_acons ?_ | refine x_c ?_ | refine x_call ?_ | refine x_anil ?_ | refine x_cb ?_ | refine x_seq ?_ | refine x_asgG ?_ | refine x_gC ?_ | refine x_gNl ?_ | refine x_ret ?_ | refine x_ifs ?_ | refine x_test ?_ | refine x_testb ?_ | refine x_and ?_ | refine x_or ?_ | refine x_andV ?_ | refine x_isB ?_ | refine x_add ?_ | refine x_lt ?_ | refine x_inti ?_ | refine x_isI ?_ | refine x_lst ?_ | refine x_tup ?_ | refine x_slice ?_ | refine x_nop ?_ | refine x_part ?_ | refine x_bm ?_ | refine x_sub ?_ | refine x_rI0 ?_ | refine x_drop ?_ | refine x_next ?_ | refine x_brk ?_ | refine x_cnt ?_ | refine x_par2 ?_ | refine x_par33 ?_ | refine x_un ?_ | refine x_rU ?_ | refine x_le ?_ | refine x_gt ?_ | refine x_ge ?_ | refine x_lts ?_ | refine x_intb ?_ | refine x_abs ?_ | refine x_tru ?_ | refine x_trub ?_ | refine x_trui ?_ | refine x_not ?_ | refine x_orV ?_ | refine x_notV ?_ | refine x_if ?_ | refine x_isN ?_ | refine x_isnN ?_ | refine x_dict ?_ | refine x_bm0 ?_ | refine x_revL ?_ | refine x_lcR ?_ | refine x_lcS ?_ | refine x_forR ?_ | refine x_forS ?_ | refine x_yes ?_ | refine ite_t ?_ | refine ite_f ?_)
local macro_rules | `(tactic| walk_at "s") => `(tactic| repeat (first | walk_at "v1" | walk_at "s1" | walk_at "n1"))
local macro_rules | `(tactic| walk_at "bd") => `(tactic| first | decide | omega | exact Nat.le_refl _)
local macro_rules | `(tactic| walk_at "ft") => `(tactic| first
  | with_reducible exact la_nil | with_reducible exact fa_nil | with_reducible exact ft_non | with_reducible exact ft_bl | with_reducible exact ft_dict | ((with_reducible refine ft_str (n := 10) (x := ?x) ?h); (case h => exact And.intro rfl (by decide))) | ((with_reducible refine ft_int (i := ?i) ?h); (case h => decide))
  | ((with_reducible refine ft_var (v := ?v) (m := ?m) (n := ?n) ?h ?f); (case h => exact rfl); (case f => assumption))
  | ((with_reducible refine fa_cons (m1 := ?a) (n1 := ?b) (m2 := ?c) (n2 := ?d) ?f ?g); (case f => walk_at "ft"); (case g => walk_at "ft"))
  | ((with_reducible refine ft_tup (m := ?m) (n := ?n) ?f ?h); (case f => walk_at "ft"); (case h => walk_at "bd"))
  | ((with_reducible refine ft_lst (m := ?m) (n := ?n) ?f ?h); (case f => walk_at "ft"); (case h => walk_at "bd"))
  | ((with_reducible refine la_cons (m1 := ?a) (n1 := ?b) (B := ?c) ?f ?g ?h ?i); (case f => walk_at "ft"); (case h => walk_at "bd"); (case i => walk_at "bd"); (case g => walk_at "ft"))
  | ((with_reducible refine lt_var (v := ?v) (m := ?m) (n := ?n) (B := ?b) ?h ?f); (case h => exact rfl); (case f => assumption))
  | ((with_reducible refine lt_add (B1 := ?a) (B2 := ?b) ?f ?g ?h); (case f => walk_at "ft"); (case g => walk_at "ft"); (case h => walk_at "bd"))
  | ((with_reducible refine ft_addsv (x := ?x) (m := ?m) (n := 10) ?h ?s ?a ?z); (case h => exact rfl); (case s => assumption); (case a => exact And.intro rfl (by decide)); (case z => decide))
  | ((with_reducible refine lt_lst ?f ?h); (case f => walk_at "ft"); (case h => walk_at "bd")))
local macro_rules | `(tactic| walk_at "s1") => `(tactic| with_reducible first | refine x_fld ?_ | refine x_sfld ?_ | refine x_m ?_ | refine x_mr ?_ | refine x_i ?_ | refine x_ir ?_ | refine x_gfld ?_ | refine x_mko ?_ | refine x_vei ?_ | refine x_ost ?_ | refine ite_nt ?_ | refine ite_nf ?_)
/-- so many signs from the space to ~ -/
def Tx (n : Nat) (x : Str) : Prop := x.length = n ∧ ∀ c ∈ x.cps.toList, okC c = true
theorem Tx.asc {n : Nat} {x : Str} (h : Tx n x) : asc x = true := asc_all.mpr fun c hc => by
  have := h.2 c hc
  simp only [okC, Bool.and_eq_true, decide_eq_true_eq] at this
  omega
theorem Tx.st {n m : Nat} {x : Str} (h : Tx n x) (l : n ≤ m) : St m x := ⟨h.asc, by rw [h.1]; exact l⟩
theorem Tx.app {m n : Nat} {a b : Str} (s : Tx m a) (t : Tx n b) : Tx (m + n) (a ++ b) := by
  refine ⟨?_, fun c hc => ?_⟩
  · rw [len_l, tl_app, List.length_append, ← len_l, ← len_l, s.1, t.1]
  · rw [tl_app] at hc
    rcases List.mem_append.mp hc with hc | hc
    · exact s.2 c hc
    · exact t.2 c hc
theorem Tx.nil : Tx 0 (Str.ofString "") := ⟨rfl, fun c hc => by
  rw [show (Str.ofString "").cps.toList = [] from by decide +kernel] at hc
  cases hc⟩
theorem Tx.join : ∀ {ys : List Str}, (∀ y ∈ ys, Tx 1 y) → Tx ys.length (Txt.join (Str.ofString "") ys) := by
  intro ys h
  rw [show Txt.join (Str.ofString "") ys = Str.join (Str.ofString "") ys from TL.join_eq _ ys]
  induction ys with
  | nil => exact Tx.nil
  | cons x r ih =>
    have hx := h x List.mem_cons_self
    have hr := ih fun y hy => h y (List.mem_cons_of_mem _ hy)
    cases r with
    | nil => exact hx
    | cons z r =>
      show Tx _ (x ++ Str.ofString "" ++ Str.join (Str.ofString "") (z :: r))
      have e := (hx.app Tx.nil).app hr
      rw [show (x :: z :: r).length = 1 + 0 + (z :: r).length by simp only [List.length_cons]; omega]
      exact e
theorem Tx.text {n : Nat} {x : Str} (h : Tx n x) (l : n ≤ 4000) : textB (.str x) = true := by
  show (decide (x.length ≤ 4000) && x.cps.toList.all okC) = true
  rw [decide_eq_true (by rw [h.1]; exact l), Bool.true_and]
  exact List.all_eq_true.mpr h.2
section
variable {P : Program} {w : World} {K : PySem.W.Frag} {mg : Str → Option Value} {base : Heap} {k : Nat} {fa C D CB CT CM CF CP CC : Addr}
abbrev sg : Str := Str.ofString "abc ~!Z09"
theorem sg_at {r : Int} (h0 : 0 ≤ r) (h1 : r < 9) : ∃ c, atI sg.cps.toList r = some c ∧ Tx 1 ⟨#[c]⟩ := by
  obtain ⟨n, rfl⟩ := Int.eq_ofNat_of_zero_le h0
  have : ∀ n : Fin 9, (match atI sg.cps.toList ((n.val : Nat) : Int) with | some c => okC c | none => false) = true := by decide +kernel
  have z := this ⟨n, by omega⟩
  split at z
  · rename_i c e
    exact ⟨c, e, rfl, fun x hx => by simp at hx; rw [hx]; exact z⟩
  · cases z
abbrev s__law_text : Stmt := top 26
theorem sc__law_text : FnScope ["box", "k"] ["box"] (defScope s__law_text) := ⟨rfl, rfl, rfl, by decide +kernel, rfl, by decide +kernel, by decide +kernel⟩
def sp_lt : Sp := fun vs H Q _ => ∃ (G : Hp) (R : List (Addr × HO)) (b : Addr) (N : Nat) (bx : List V), vs = [.ref b] ∧ Own G H ((b, .lst bx) :: R) ∧ Box (N + 5) bx ∧
  ∀ (G' H' : Hp) (x : Str) (n : Nat) bx', Same G G' → Tx n x → n ≤ 4 → Own G' H' ((b, .lst bx') :: R) → Box N bx' → Q (.str x) H'
theorem ok_lt {f : Addr} {fd : FuncData} (F : Fun K "_law_text" "_law_text" s__law_text f fd) (B : Bt mg) (C__law_take : Cal P w K mg base k "_law_take" ["box", "many"] sp_take) : FnG P w K mg base (k + 1) f fd ["box"] sp_lt := by
  refine fnG_of F sc__law_text (fun vs H Q E h => ?_) (fun cdv A outer s H vs Q E r h => ?_)
  · obtain ⟨_, _, b, N, bx, rfl, _⟩ := h
    rfl
  · obtain ⟨G, R, b, N, bx, rfl, O, bo, q⟩ := h
    refine ⟨_, (pss_one (ps_ret (pe_bmK' (K := K) rfl PySem.F.plainAttrs_str PySem.F.slot_str_join PySem.F.type_str_join (mJoinK (K := K) rfl) pe_str (pa_cons (pe_lc (own := [("k", 1)]) rfl sc__law_text.nd (pi_range1 (by rfl) B.range (pa_cons (g_call C__law_take r (by rfl) passL (pa_cons (pv 0) (pa_cons pe_int pa_nil))) pa_nil)) (blkOk_by (N := ["box", "k"]) (sc := defScope s__law_text) (by decide +kernel)) (fun _ _ _ _ _ => (pg_name (i := 1) sc__law_text.nd rfl (Or.inl rfl))) (fun _ _ _ _ _ => pts_nil) (fun _ _ _ _ _ => (pe_ix (ixK (K := K) rfl) pe_str (g_call C__law_take r (by rfl) passL (pa_cons (pv 0) (pa_cons pe_int pa_nil))) (fun _ _ => rfl)))) pa_nil)))), ?_⟩
    try dsimp only [cxOf]
    refine x_start (σ' := [some _, none]) rfl ?_
    walk_at "s"
    refine ⟨ty_s, ?_⟩
    walk_at "s"
    refine ⟨G, R, b, 5, N + 4, bx, rfl, O, bo, by decide, by decide, fun H0 r0 b0 r00 r01 O0 B0 => ?_⟩
    obtain ⟨m, rfl⟩ := Int.eq_ofNat_of_zero_le r00
    refine x_rg (by omega) (by omega) ?_
    refine lc_own (by walk_at "n") walk_range O0 (fun i G' L' acc => ∃ bx' xs, L' = (b, .lst bx') :: R ∧ acc = xs.map V.str ∧ xs.length = i ∧ Box (N + (4 - i)) bx' ∧ ∀ x ∈ xs, Tx 1 x) ⟨b0, [], rfl, rfl, rfl, B0.le (by omega), fun _ z => nomatch z⟩ (fun _ _ _ _ _ _ _ _ _ => True.intro) ?_ ?_
    · rintro i x G' H' H2 D L' acc hi s' O' ⟨bx', xs, rfl, rfl, hl, bo', hx⟩ ⟨rfl, rfl⟩
      have hi' : i < m := by omega
      walk_at "s"
      refine ⟨G', _, b, 9, N + (4 - (i + 1)), bx', rfl, O'.swap, bo'.le (by omega), by decide, by decide, fun H3 r bx2 r0 r1 O3 b3 => ?_⟩
      obtain ⟨c, ec, sc⟩ := sg_at r0 r1
      refine x_ixs (by decide) ec ?_
      refine lcn s' O3.swap (by rw [List.length_map]; exact Nat.lt_of_lt_of_le (show xs.length < 1000 by omega) (by decide)) ⟨bx2, xs ++ [⟨#[c]⟩], rfl, by rw [List.map_append]; rfl, by rw [List.length_append]; simp [hl], b3, fun x h => ?_⟩
      rcases List.mem_append.mp h with h | h
      · exact hx x h
      · rw [List.mem_singleton.mp h]; exact sc
    · rintro G' H' D L' acc s' O' ⟨bx', xs, rfl, rfl, hl, bo', hx⟩
      walk_at "s"
      have el : xs.length = m := by omega
      have e1 : ∀ xs : List Str, (∀ x ∈ xs, Tx 1 x) → (xs.map (·.length)).sum ≤ xs.length := by
        intro xs h
        induction xs with
        | nil => exact Nat.le_refl _
        | cons x xs ih =>
          have := (h x List.mem_cons_self).1
          have := ih fun y hy => h y (List.mem_cons_of_mem _ hy)
          simp only [List.map_cons, List.sum_cons, List.length_cons]
          omega
      have e2 := e1 xs hx
      refine ⟨_, D, xs, rfl, rfl, .inl (SqL.of O'.at0), ?_, ?_⟩
      · show _ + _ * 0 ≤ _
        omega
      · have z := Tx.join hx
        rw [el] at z
        exact q G' H' _ m bx' s' z (by omega) O'.tail (bo'.le (by omega))
theorem Rp.int {i : Int} (h : i.natAbs < 1000000) : Rp (.int i) := by
  have h2 : (PyData.shown (.int i)).length ≤ 13 := PyData.shown_int_le (by omega)
  refine ⟨?_, Nat.le_trans h2 (by decide), by simp only [PyData.depth]; omega⟩
  simp only [fits, decide_eq_true_eq]
  have h3 : i.natAbs.log2 < 20 ∨ i.natAbs = 0 := by
    by_cases z : i.natAbs = 0
    · exact .inr z
    · exact .inl ((Nat.log2_lt z).mpr (by omega))
  rcases h3 with h3 | h3
  · omega
  · rw [h3]; decide
theorem val_flat {G : Hp} {v : V} {d : PyData} (h : Dt K G v d) (t : tyN d ≠ "list") : Val K G v d [] := .inl ⟨rfl, h, t⟩
theorem x_neD {H : Hp} {Q : VK} {x y : V} {d e : PyData} (h1 : Dt K H x d) (h2 : Dt K H y e) (s1 : SeqAt.shaped d = true) (s2 : SeqAt.shaped e = true) (q : Q (.bl (!PyData.eqv d e)) H) : aNe K x y H Q := .inr (.inl ⟨d, e, h1, h2, s1, s2, q⟩)
theorem x_eqD {H : Hp} {Q : VK} {x y : V} {d e : PyData} (h1 : Dt K H x d) (h2 : Dt K H y e) (s1 : SeqAt.shaped d = true) (s2 : SeqAt.shaped e = true) (q : Q (.bl (PyData.eqv d e)) H) : aEq K x y H Q := .inr (.inl ⟨d, e, h1, h2, s1, s2, q⟩)
/-- a text, or torn -/
def TxV (x : V) : Prop := x = .non ∨ ∃ (n : Nat) (y : Str), x = .str y ∧ Tx n y ∧ n ≤ 4000
def stL (a n s w : Addr) (now syn wr : List V) (lf : Option Nat) (dd : Bool) : List (Addr × HO) := [(a, .lst [.ref n, .ref s, .ref w, lfV lf, .bl dd]), (n, .lst now), (s, .lst syn), (w, .lst wr)]
theorem st_a {G H : Hp} {a n s w : Addr} {now syn wr : List V} {lf : Option Nat} {dd : Bool} {R : List (Addr × HO)} (O : Own G H (stL a n s w now syn wr lf dd ++ R)) : H a = some (.lst [.ref n, .ref s, .ref w, lfV lf, .bl dd]) := Own.in_ (A := []) O
theorem st_n {G H : Hp} {a n s w : Addr} {now syn wr : List V} {lf : Option Nat} {dd : Bool} {R : List (Addr × HO)} (O : Own G H (stL a n s w now syn wr lf dd ++ R)) : H n = some (.lst now) := Own.in_ (A := [_]) O
theorem st_s {G H : Hp} {a n s w : Addr} {now syn wr : List V} {lf : Option Nat} {dd : Bool} {R : List (Addr × HO)} (O : Own G H (stL a n s w now syn wr lf dd ++ R)) : H s = some (.lst syn) := Own.in_ (A := [_, _]) O
theorem st_w {G H : Hp} {a n s w : Addr} {now syn wr : List V} {lf : Option Nat} {dd : Bool} {R : List (Addr × HO)} (O : Own G H (stL a n s w now syn wr lf dd ++ R)) : H w = some (.lst wr) := Own.in_ (A := [_, _, _]) O
structure Ki (K : PySem.W.Frag) (C : Addr) : Prop where
  ha : PySem.W.findIn K (.ref C) "__class__" = some (some (.builtin "object.__class__"))
  hn : PySem.W.specialIn K (.builtin "object.__class__") "__get__" = some (some (.builtin "getset_descriptor.__get__"))
  ht : PySem.W.takesIn K (.builtin "object.__class__") = some true
  hm : PySem.W.mroIn K C (.type "object") = some true
  kD : PySem.W.kitOne K (.ref C) (.ref C) = some true
abbrev s__law_state_right : Stmt := top 27
theorem sc__law_state_right : FnScope ["disk", "state", "now", "block", "told"] ["disk", "state"] (defScope s__law_state_right) := ⟨rfl, rfl, rfl, by decide +kernel, rfl, by decide +kernel, by decide +kernel⟩
def sp_sr (C : Addr) : Sp := fun vs H Q _ => ∃ (G : Hp) (R : List (Addr × HO)) (p dx s t w a n s2 w2 : Addr) (m : Nat) (lf : Option Nat) (dd : Bool) (ss ts ws syn wr : List V), vs = [.ref p, .ref a] ∧ Own G H (dkL C p dx s t w m lf dd ss ts ws ++ (stL a n s2 w2 ts syn wr lf dd ++ R)) ∧ ts.length = m ∧ m ≤ 8 ∧
  ws.length = wr.length ∧ ws.length ≤ 100000 ∧ (∀ x ∈ ts, TxV x) ∧ ∀ H' : Hp, Own G H' (dkL C p dx s t w m lf dd ss ts ws ++ (stL a n s2 w2 ts syn wr lf dd ++ R)) → Q (.bl true) H'
theorem ok_sr {f : Addr} {fd : FuncData} (F : Fun K "_law_state_right" "_law_state_right" s__law_state_right f fd) (B : Bt mg) (Z : Dc K C) (T : Tc K mg fa C D) (I : Ki K C) (M_Disk_pending : Mt P w K mg base k C "pending" ["self"] (sp_pe C)) (M_Disk_read : Mt P w K mg base k C "read" ["self", "block"] (sp_rd K C CB)) :
    FnG P w K mg base (k + 1) f fd ["disk", "state"] (sp_sr C) := by
  refine fnG_of F sc__law_state_right (fun vs H Q E h => ?_) (fun cdv A outer s H vs Q E r h => ?_)
  · obtain ⟨_, _, _, _, _, _, _, _, _, _, _, _, _, _, _, _, _, _, _, rfl, _⟩ := h
    rfl
  · obtain ⟨G, R, p, dx, s, t, w, a, n, s2, w2, m, lf, dd, ss, ts, ws, syn, wr, rfl, O, hn, m8, hw, hz, hx, q⟩ := h
    refine ⟨_, (pss_cons (ps_set (i := 2) sc__law_state_right.nd rfl (Or.inl rfl) (pe_ix (ixK (K := K) rfl) (pv 1) pe_int (fun _ _ => rfl)))
       (pss_cons (ps_if (PW.pt (pw_or (pt_not (pt_truK (K := K) rfl (pe_callB (cIsiK (K := K) rfl) (by rfl) B.isinstance (by decide +kernel) (pa_cons (pv 0) (pa_cons (C8.pe_gc (by rfl) T.Disk) pa_nil))))) (pw_or (pt_cmpR (oNeK (K := K) rfl r) (pe_callB (cReprK (K := K) rfl r) (by rfl) B.repr (by decide +kernel) (pa_cons (pe_fldK (K := K) rfl (pv 0) rfl) pa_nil)) (pe_callB (cReprK (K := K) rfl r) (by rfl) B.repr (by decide +kernel) (pa_cons (pe_callB (cLenK (K := K) rfl) (by rfl) B.len (by decide +kernel) (pa_cons (pv 2) pa_nil)) pa_nil)) (nomark _)) (pw_or1 (pt_cmpR (oNeK (K := K) rfl r) (pe_callB (cReprK (K := K) rfl r) (by rfl) B.repr (by decide +kernel) (pa_cons (g_meth0 M_Disk_pending r (takes_of rfl rfl rfl rfl) (pv 0)) pa_nil)) (pe_callB (cReprK (K := K) rfl r) (by rfl) B.repr (by decide +kernel) (pa_cons (pe_callB (cLenK (K := K) rfl) (by rfl) B.len (by decide +kernel) (pa_cons (pe_ix (ixK (K := K) rfl) (pv 1) pe_int (fun _ _ => rfl)) pa_nil)) pa_nil)) (nomark _))))))
       (pss_one (ps_ret pe_bl))
       pss_nil)
       (pss_cons (ps_for (passes_of rfl) rfl (pi_range1 (by rfl) B.range (pa_cons (pe_callB (cLenK (K := K) rfl) (by rfl) B.len (by decide +kernel) (pa_cons (pv 2) pa_nil)) pa_nil)) (pg_name (i := 3) sc__law_state_right.nd rfl (Or.inl rfl))
       (pss_cons (ps_set (i := 4) sc__law_state_right.nd rfl (Or.inl rfl) (g_meth M_Disk_read r (takes_of rfl rfl rfl rfl) (pv 0) (pa_cons (pv 3) pa_nil)))
       (pss_one (ps_if (PW.pt (pw_or (PW.pt (pw_and (pt_cmpR oIs (pe_ix (ixK (K := K) rfl) (pv 2) (pv 3) (fun _ _ => rfl)) pe_non (nomark _)) (pw_and1 (pt_cmpR oIsn (pv 4) pe_non (nomark _))))) (pw_or1 (PW.pt (pw_and (pt_cmpR oIsn (pe_ix (ixK (K := K) rfl) (pv 2) (pv 3) (fun _ _ => rfl)) pe_non (nomark _)) (pw_and1 (pt_cmpR (oNeK (K := K) rfl r) (pe_callB (cReprK (K := K) rfl r) (by rfl) B.repr (by decide +kernel) (pa_cons (pv 4) pa_nil)) (pe_callB (cReprK (K := K) rfl r) (by rfl) B.repr (by decide +kernel) (pa_cons (pe_ix (ixK (K := K) rfl) (pv 2) (pv 3) (fun _ _ => rfl)) pa_nil)) (nomark _))))))))
       (pss_one (ps_ret pe_bl))
       pss_nil))))
       (pss_one (ps_ret pe_bl))))), ?_⟩
    try dsimp only [cxOf]
    refine x_start (σ' := [some _, some _, none, none, none]) rfl ?_
    have O' := Own.ab O
    walk_at "s"
    refine x_ixl (i := 0) (SqL.of (st_a O')) rfl ?_
    walk_at "s"
    refine .inl ⟨.ref p, .ref C, .ref C, .ref C, true, rfl, .own C, .base (.ins (dk_p O) Z.cl I.ha I.hn I.ht I.hm), I.kD, ?_⟩
    walk_at "s"
    refine x_fldI (dk_p O) Z.cl Z.many f_many ?_
    walk_at "s"
    refine x_reprP (.int _) (Rp.int (by omega)) ?_
    walk_at "s"
    refine x_lenl (SqL.of (st_n O')) ?_
    walk_at "s"
    refine x_reprP (.int _) (Rp.int (by omega)) ?_
    refine x_ne rfl ?_
    rw [hn, decide_eq_true rfl]
    walk_at "s"
    refine x_mI (dk_p O) f_meth ?_
    walk_at "s"
    refine ⟨p, dx, s, t, w, m, lf, dd, ws, rfl, dk_p O, dk_w O, ?_⟩
    walk_at "s"
    refine x_reprP (.int _) (Rp.int (by omega)) ?_
    walk_at "s"
    refine x_ixl (i := 2) (SqL.of (st_a O')) rfl ?_
    walk_at "s"
    refine x_lenl (SqL.of (st_w O')) ?_
    walk_at "s"
    refine x_reprP (.int _) (Rp.int (by omega)) ?_
    refine x_ne rfl ?_
    rw [hw, decide_eq_true rfl]
    walk_at "s"
    refine x_lenl (SqL.of (st_n O')) ?_
    walk_at "s"
    refine x_rg (by omega) (by omega) ?_
    refine for_own walk_range O (fun i σ G' L' => ∃ x3 x4 : Option V, σ = [some (.ref p), some (.ref a), some (.ref n), x3, x4] ∧ dkL C p dx s t w m lf dd ss ts ws ++ (stL a n s2 w2 ts syn wr lf dd ++ R) = L' ∧ G = G') ⟨none, none, rfl, rfl, rfl⟩ (fun _ _ _ _ _ _ _ _ => True.intro) ?_ ?_
    · rintro i x σ G' H' H2 L' hi s' O1 ⟨x3, x4, rfl, rfl, rfl⟩ ⟨rfl, rfl⟩
      have O1' := Own.ab O1
      have hi' : i < ts.length := by omega
      walk_at "s"
      rw [Int.zero_add]
      refine x_mI (dk_p O1) f_meth ?_
      walk_at "s"
      refine ⟨G, _, p, dx, s, t, w, m, lf, dd, .int (i : Int), .int (i : Int), ts, rfl, O1, dk_p O1, dk_t O1, hn, .int _, fun j y e ey => ?_, fun hb => ?_⟩
      · have hj : i = j := by
          have e' := PyData.int.inj e
          omega
        subst hj
        have hy := hx y (List.mem_of_getElem? ey)
        have ha := atI_nat ey
        rcases hy with rfl | ⟨n', z, rfl, hz, hn'⟩
        · walk_at "s"
          refine x_ixl (SqL.of (st_n O1')) ha ?_
          walk_at "s"
          refine ite_b (fun _ => ?_) (fun c => absurd c (by decide))
          walk_at "s"
          refine ite_b (fun c => absurd c (by decide)) (fun _ => ?_)
          walk_at "s"
          refine x_ixl (SqL.of (st_n O1')) ha ?_
          walk_at "s"
          refine ite_b (fun c => absurd c (by decide)) (fun _ => ?_)
          walk_at "s"
          exact fvh (Same.refl G) O1 ⟨_, _, rfl, rfl, rfl⟩
        · walk_at "s"
          refine x_ixl (SqL.of (st_n O1')) ha ?_
          have nn : decide (V.str z = V.non) = false := decide_eq_false fun e => nomatch e
          have rz : Rp (.str z) := Rp.bd (Bd.str (hz.st hn')) (by decide) (by decide)
          walk_at "s"
          refine ite_b (fun c => absurd (of_decide_eq_true c) (fun e => nomatch e)) (fun _ => ?_)
          walk_at "s"
          refine x_ixl (SqL.of (st_n O1')) ha ?_
          walk_at "s"
          rw [nn]
          refine ite_b (fun _ => ?_) (fun c => absurd c (by decide))
          walk_at "s"
          refine x_reprP (.str z) rz ?_
          walk_at "s"
          refine x_ixl (SqL.of (st_n O1')) ha ?_
          walk_at "s"
          refine x_reprP (.str z) rz ?_
          refine x_ne rfl ?_
          rw [decide_eq_true rfl]
          walk_at "s"
          exact fvh (Same.refl G) O1 ⟨_, _, rfl, rfl, rfl⟩
      · exact absurd hb (by simp only [ixB, Bool.and_eq_false_iff, decide_eq_false_iff_not]; omega)
    · rintro σ G' H' L' s' O1 ⟨x3, x4, rfl, rfl, rfl⟩
      walk_at "s"
      exact q H' O1
end
end M85
set_option maxHeartbeats 4000000
namespace M85
open PySem PySem.Spec PyProof.Rows L2 G
local macro_rules | `(tactic| walk_at "hp") => `(tactic| first | assumption | exact Own.at0 (by assumption) | exact Own.at1 (by assumption) | exact Own.at2 (by assumption) | exact Own.at3 (by assumption) | exact Own.sub (by assumption) _ _ (by assumption) | exact upd_same)
local macro_rules | `(tactic| walk_at "hl") => `(tactic| first | assumption | exact SqL.of (by walk_at "hp") | exact Own.seq (by assumption) (by assumption) | exact Own.seq (by assumption) (SqL.of (by assumption)))
local macro_rules | `(tactic| walk_at "ht") => `(tactic| first | assumption | exact SqT.of (by walk_at "hp") | exact Own.set (by assumption) (by assumption) | exact Own.set (by assumption) (SqT.of (by assumption)))
local macro_rules | `(tactic| walk_at "n") => `(tactic| (intros; (try dsimp only [List.set, wipe, List.map, List.set_cons_succ, List.set_cons_zero]); (try exact rfl)))
local macro_rules | `(tactic| walk_at "n1") => `(tactic| with_reducible first | (refine x_asgN (σ' := ?s) ?hs ?q; (case hs => walk_at "n")) | (refine x_gN (σ' := ?s) ?hs ?q; (case hs => walk_at "n")) | (refine And.intro (show wipe _ _ = _ from (by walk_at "n")) ?_) | (refine x_parN (σ' := ?s) ?hs ?q; (case hs => walk_at "n")) | (refine x_par3N (σ' := ?s) ?hs ?q; (case hs => walk_at "n")))
local macro_rules | `(tactic| walk_at "v1") => `(tactic| ((with_reducible refine x_var (v := ?v) ?h ?q); (case h => first | exact rfl | assumption)))
local macro_rules | `(tactic| walk_at "s1") => `(tactic| with_reducible first | refine x_op ?_ | refine x_acons ?_ | refine x_c ?_ | refine x_call ?_ | refine x_anil ?_ | refine x_cb ?_ | refine x_seq ?_ | refine x_asgG ?_ | refine x_gC ?_ | refine x_gNl ?_ | refine x_ret ?_ | refine x_ifs ?_ | refine x_test ?_ | refine x_testb ?_ | refine x_and ?_ | refine x_or ?_ | refine x_andV ?_ | refine x_isB ?_ | refine x_add ?_ | refine x_lt ?_ | refine x_inti ?_ | refine x_isI ?_ | refine x_lst ?_ | refine x_tup ?_ | refine x_slice ?_ | refine x_nop ?_ | refine x_part ?_ | refine x_bm ?_ | refine x_sub ?_ | refine x_rI0 ?_ | refine x_drop ?_ | refine x_next ?_ | refine x_brk ?_ | refine x_cnt ?_ | refine x_par2 ?_ | refine x_par33 ?_ | refine x_un ?_ | refine x_rU ?_ | refine x_le ?_ | refine x_gt ?_ | refine x_ge ?_ | refine x_lts ?_ | refine x_intb ?_ | refine x_abs ?_ | refine x_tru ?_ | refine x_trub ?_ | refine x_trui ?_ | refine x_not ?_ | refine x_orV ?_ | refine x_notV ?_ | refine x_if ?_ | refine x_isN ?_ | refine x_isnN ?_ | refine x_dict ?_ | refine x_bm0 ?_ | refine x_revL ?_ | refine x_lcR ?_ | refine x_lcS ?_ | refine x_forR ?_ | refine x_forS ?_ | refine x_yes ?_ | refine ite_t ?_ | refine ite_f ?_)
local macro_rules | `(tactic| walk_at "s") => `(tactic| repeat (first | walk_at "v1" | walk_at "s1" | walk_at "n1"))
local macro_rules | `(tactic| walk_at "bd") => `(tactic| first | decide | omega | exact Nat.le_refl _)
local macro_rules | `(tactic| walk_at "ft") => `(tactic| first
  | with_reducible exact la_nil | with_reducible exact fa_nil | with_reducible exact ft_non | with_reducible exact ft_bl | with_reducible exact ft_dict | ((with_reducible refine ft_str (n := 10) (x := ?x) ?h); (case h => exact And.intro rfl (by decide))) | ((with_reducible refine ft_int (i := ?i) ?h); (case h => decide))
  | ((with_reducible refine ft_var (v := ?v) (m := ?m) (n := ?n) ?h ?f); (case h => exact rfl); (case f => assumption))
  | ((with_reducible refine fa_cons (m1 := ?a) (n1 := ?b) (m2 := ?c) (n2 := ?d) ?f ?g); (case f => walk_at "ft"); (case g => walk_at "ft"))
  | ((with_reducible refine ft_tup (m := ?m) (n := ?n) ?f ?h); (case f => walk_at "ft"); (case h => walk_at "bd"))
  | ((with_reducible refine ft_lst (m := ?m) (n := ?n) ?f ?h); (case f => walk_at "ft"); (case h => walk_at "bd"))
  | ((with_reducible refine la_cons (m1 := ?a) (n1 := ?b) (B := ?c) ?f ?g ?h ?i); (case f => walk_at "ft"); (case h => walk_at "bd"); (case i => walk_at "bd"); (case g => walk_at "ft"))
  | ((with_reducible refine lt_var (v := ?v) (m := ?m) (n := ?n) (B := ?b) ?h ?f); (case h => exact rfl); (case f => assumption))
  | ((with_reducible refine lt_add (B1 := ?a) (B2 := ?b) ?f ?g ?h); (case f => walk_at "ft"); (case g => walk_at "ft"); (case h => walk_at "bd"))
  | ((with_reducible refine ft_addsv (x := ?x) (m := ?m) (n := 10) ?h ?s ?a ?z); (case h => exact rfl); (case s => assumption); (case a => exact And.intro rfl (by decide)); (case z => decide))
  | ((with_reducible refine lt_lst ?f ?h); (case f => walk_at "ft"); (case h => walk_at "bd")))
local macro_rules | `(tactic| walk_at "s1") => `(tactic| with_reducible first | refine x_fld ?_ | refine x_sfld ?_ | refine x_m ?_ | refine x_mr ?_ | refine x_i ?_ | refine x_ir ?_ | refine x_gfld ?_ | refine x_mko ?_ | refine x_vei ?_ | refine x_ost ?_ | refine ite_nt ?_ | refine ite_nf ?_)
section
variable {P : Program} {w : World} {K : PySem.W.Frag} {mg : Str → Option Value} {base : Heap} {k : Nat} {fa C D CB CT CM CF CP CC : Addr}
theorem dtl_snoc {G : Hp} {v : V} {d : PyData} : ∀ {xs : List V} {ds : List PyData}, DtL K G xs ds → Dt K G v d → DtL K G (xs ++ [v]) (ds ++ [d])
  | _, _, .nil, h => .cons h .nil
  | _, _, .cons a t, h => .cons a (dtl_snoc t h)
/-- what a suite answers of the error that it holds: its value is the very value -/
theorem x_giv {G H : Hp} {R : List (Addr × HO)} {a d' CE : Addr} {v : V} {dv : PyData} {wd : Str} {i j : Nat} {σ : L2.St} {D' : Ends} {x : Str} (O : Own G H R) (hv : Dt K G v dv) (rv : Rp dv) (hd : G d' = some (.xd [("given", v)])) (X : Xk P w K mg base k x CE D)
    (hi : σ[i]? = some (some (.ref a))) (hj : σ[j]? = some (some v)) (q : ∀ (G' H' : Hp) (q : Addr), Same G G' → Own G' H' R → G' q = some (.lst [.str wd, .bl true]) → D'.rt (.ref q) H') :
    tRet (dLst (tCons (tC (V.str wd)) (tCons (tOp (aEq K) (tCB (rRepr K) (tCons (tXf a (.ref CE) (some d') CE (Str.ofString "given") (tVar i)) tNil)) (tCB (rRepr K) (tCons (tVar j) tNil))) tNil))) D' σ H := by
  obtain ⟨nx, rt, bk, ct⟩ := D'
  have hd1 := O.sub _ _ hd
  have he := hv.mono O.sub
  walk_at "s"
  refine ⟨.ref a, hi, rfl, rfl, d', _, v, rfl, hd1, (by rw [lookup_put, if_pos rfl]), ?_⟩
  walk_at "s"
  refine x_reprP he rv ?_
  walk_at "s"
  refine x_reprP he rv ?_
  refine x_eq rfl ?_
  rw [decide_eq_true rfl]
  walk_at "s"
  refine ⟨by show 2 ≤ sizeLine; decide, x_fix O fun p2 G2 H2 s2 O2 e2 => ?_⟩
  exact q G2 H2 p2 s2 O2 e2
theorem x_cutE {G H : Hp} {R : List (Addr × HO)} {a : Addr} {i : Nat} {σ : L2.St} {D' : Ends} {x : Str} (O : Own G H R) (X : Xk0 P w K mg base k x CP D)
    (hi : σ[i]? = some (some (.ref a))) (q : ∀ (G' H' : Hp) (q : Addr), Same G G' → Own G' H' R → G' q = some (.lst [.str "cut", .bl true]) → D'.rt (.ref q) H') :
    tRet (dLst (tCons (tC (V.str (Str.ofString "cut"))) (tCons (tCB (aIsX0 K a (.ref CP) none) (tCons (tVar i) (tCons (tC (V.ref D)) tNil))) tNil))) D' σ H := by
  obtain ⟨nx, rt, bk, ct⟩ := D'
  walk_at "s"
  refine ⟨.ref D, .ref D, true, CP, rfl, rfl, X.xi, rfl, fun u z => z, X.kf, ?_⟩
  walk_at "s"
  refine ⟨by show 2 ≤ sizeLine; decide, x_fix O fun p2 G2 H2 s2 O2 e2 => ?_⟩
  exact q G2 H2 p2 s2 O2 e2
/-- nothing, or a list that has grown -/
def Gr (v : V) (L0 L1 : List (Addr × HO)) : Prop := (L0 = [] ∧ L1 = []) ∨ ∃ p xs, v = .ref p ∧ L0 = [(p, .lst xs)] ∧ L1 = [(p, .lst (xs ++ [.str "more"]))]
/-- .. a list has grown -/
theorem x_givL {G H : Hp} {L0 R : List (Addr × HO)} {a d' CE : Addr} {v : V} {dv : PyData} {wd : Str} {i j : Nat} {σ : L2.St} {D' : Ends} {x : Str} (O : Own G H (L0 ++ R)) (hv : Val K G v dv L0) (rv : Rv dv) (hd : G d' = some (.xd [("given", v)])) (X : Xk P w K mg base k x CE D)
    (hi : σ[i]? = some (some (.ref a))) (hj : σ[j]? = some (some v)) (q : ∀ (G' H' : Hp) (q : Addr) (L1 : List (Addr × HO)), Same G G' → Own G' H' (L1 ++ R) → Gr v L0 L1 → G' q = some (.lst [.str wd, .bl true]) → D'.rt (.ref q) H') :
    tSeq (tIfS (tTru K (tCB (aIsi K) (tCons (tVar j) (tCons (tC (V.ty "list")) tNil)))) (tDrop (tBM K "list" aApp (tVar j) (tCons (tC (V.str (Str.ofString "more"))) tNil))) tNext)
      (tRet (dLst (tCons (tC (V.str wd)) (tCons (tAndV (tCB (aIsX K a (.ref CE) (some d')) (tCons (tVar i) (tCons (tC (V.ref D)) tNil)))
        (tOp (aEq K) (tCB (rRepr K) (tCons (tXf a (.ref CE) (some d') CE (Str.ofString "given") (tVar i)) tNil)) (tCB (rRepr K) (tCons (tVar j) tNil)))) tNil)))) D' σ H := by
  obtain ⟨nx, rt, bk, ct⟩ := D'
  have fin : ∀ (H1 : Hp) (L1 : List (Addr × HO)) (e : PyData), Gr v L0 L1 → Own G H1 (L1 ++ R) → Dt K H1 v e → Rp e →
      tRet (dLst (tCons (tC (V.str wd)) (tCons (tAndV (tCB (aIsX K a (.ref CE) (some d')) (tCons (tVar i) (tCons (tC (V.ref D)) tNil)))
        (tOp (aEq K) (tCB (rRepr K) (tCons (tXf a (.ref CE) (some d') CE (Str.ofString "given") (tVar i)) tNil)) (tCB (rRepr K) (tCons (tVar j) tNil)))) tNil))) ⟨nx, rt, bk, ct⟩ σ H1 := fun H1 L1 e gr O1 he re => by
    have hd1 := O1.sub _ _ hd
    walk_at "s"
    refine ⟨.ref D, .ref D, true, CE, d', _, rfl, rfl, X.xi, rfl, hd1, fun u z => z, X.kf, ?_⟩
    walk_at "s"
    refine ⟨.ref a, hi, rfl, rfl, d', _, v, rfl, hd1, (by rw [lookup_put, if_pos rfl]), ?_⟩
    walk_at "s"
    refine x_reprP he re ?_
    walk_at "s"
    refine x_reprP he re ?_
    refine x_eq rfl ?_
    rw [decide_eq_true rfl]
    walk_at "s"
    refine ⟨by show 2 ≤ sizeLine; decide, x_fix O1 fun p2 G2 H2 s2 O2 e2 => ?_⟩
    exact q G2 H2 p2 L1 s2 O2 gr e2
  walk_at "s"
  refine x_isiL (hv.at O) ?_
  walk_at "s"
  rcases hv with ⟨rfl, hv, ht⟩ | ⟨p0, xs, ds, rfl, rfl, rfl, hx, hz⟩
  · refine ite_b (fun c => absurd (eq_of_beq c) ht) (fun _ => ?_)
    refine x_next ?_
    exact fin H [] dv (.inl ⟨rfl, rfl⟩) O (hv.mono O.sub) rv.1
  · refine ite_t ?_
    walk_at "s"
    refine ⟨ty_l (SqL.of O.at0), ?_⟩
    walk_at "s"
    refine x_app O.at0 (lt_line (by omega)) (x_md0 O fun H1 O1 => ?_)
    exact fin H1 [(p0, _)] (.list (ds ++ [.str "more"])) (.inr ⟨p0, xs, rfl, rfl, rfl⟩) O1 (.lst (SqL.of O1.at0) (dtl_snoc (hx.mono O1.sub) (.str _))) (rv.2 ds rfl)
abbrev s__law_write_told : Stmt := top 28
theorem sc__law_write_told : FnScope ["disk", "block", "text", "by_name", "e"] ["disk", "block", "text", "by_name"] (defScope s__law_write_told) := ⟨rfl, rfl, rfl, by decide +kernel, rfl, by decide +kernel, by decide +kernel⟩
def sp_wt (K : PySem.W.Frag) (C : Addr) : Sp := fun vs H Q _ => ∃ (G : Hp) (R : List (Addr × HO)) (p dx s t w : Addr) (m : Nat) (lf : Option Nat) (dd : Bool) (vb vt : V) (db dt : PyData) (ss ts ws : List V) (cn : Bool), vs = [.ref p, vb, vt, .bl cn] ∧ Own G H (dkL C p dx s t w m lf dd ss ts ws ++ R) ∧ ts.length = m ∧
  Dt K G vb db ∧ Dt K G vt dt ∧ Rp db ∧ Rp dt ∧ (∀ x, dt = .str x → x.length ≤ 100000) ∧ ws.length ≤ 10000 ∧
  (dd = true → ∀ (G' H' : Hp) (q : Addr), Same G G' → Own G' H' (dkL C p dx s t w m lf dd ss ts ws ++ R) → G' q = some (.lst [.str "cut", .bl true]) → Q (.ref q) H') ∧
  (dd = false → ixB m db = false → ∀ (G' H' : Hp) (q : Addr), Same G G' → Own G' H' (dkL C p dx s t w m lf dd ss ts ws ++ R) → G' q = some (.lst [.str "block", .bl true]) → Q (.ref q) H') ∧
  (dd = false → ixB m db = true → textB dt = false → ∀ (G' H' : Hp) (q : Addr), Same G G' → Own G' H' (dkL C p dx s t w m lf dd ss ts ws ++ R) → G' q = some (.lst [.str "text", .bl true]) → Q (.ref q) H') ∧
  (∀ (i : Nat) (x : Str), dd = false → db = .int i → i < m → dt = .str x → textB dt = true → stepL lf = none → ∀ (G' H' : Hp) (q : Addr), Same G G' → Own G' H' (dkL C p dx s t w m lf true ss ts ws ++ R) → G' q = some (.lst [.str "cut", .bl true]) → Q (.ref q) H') ∧
  (∀ (i : Nat) (x : Str) lf', dd = false → db = .int i → i < m → dt = .str x → textB dt = true → stepL lf = some lf' → ∀ (G' H' : Hp) (a q : Addr), Same G G' → Own G' H' (dkL C p dx s t w m lf' false ss (ts.set i (.str x)) (ws ++ [.ref a]) ++ R) → G' a = some (.tup [.int (i : Int), .str x]) → G' q = some (.lst [.str "told", .non]) → Q (.ref q) H')
/-- which error is caught by which handler -/
structure Ex (K : PySem.W.Frag) (CB CT CF CP CC : Addr) : Prop where
  TB : PySem.W.exmOne K (.ref CT) (.ref CB) = some false
  PB : PySem.W.exmOne K (.ref CP) (.ref CB) = some false
  PT : PySem.W.exmOne K (.ref CP) (.ref CT) = some false
  PC : PySem.W.exmOne K (.ref CP) (.ref CC) = some false
theorem ok_wt {f : Addr} {fd : FuncData} (F : Fun K "_law_write_told" "_law_write_told" s__law_write_told f fd) (B : Bt mg) (T : Tc K mg fa C D) (M_Disk_write : Mt P w K mg base k C "write" ["self", "block", "text"] (sp_wr K C CB CT CP))
    (MR_Disk_write : MtR P w K mg base k C "write" ["self", "block", "text"] ["text", "block"] (sp_wr K C CB CT CP)) (X_InvalidBlock : Xk P w K mg base k "InvalidBlock" CB D) (X_InvalidText : Xk P w K mg base k "InvalidText" CT D) (X_PowerCut : Xk0 P w K mg base k "PowerCut" CP D)
    (EX : Ex K CB CT CF CP CC) :
    FnG P w K mg base (k + 1) f fd ["disk", "block", "text", "by_name"] (sp_wt K C) := by
  refine fnG_of F sc__law_write_told (fun vs H Q E h => ?_) (fun cdv A outer s H vs Q E r h => ?_)
  · obtain ⟨_, _, _, _, _, _, _, _, _, _, _, _, _, _, _, _, _, _, rfl, _⟩ := h
    rfl
  · obtain ⟨G, R, p, dx, s, t, w, m, lf, dd, vb, vt, db, dt, ss, ts, ws, cn, rfl, O, hn, hb, ht, rb, rt, hz, hw, q0, q1, q2, q3, q4⟩ := h
    refine ⟨_, (pss_one (g_tries (i := 4) rfl rfl sc__law_write_told.nd rfl rfl (takes_of rfl rfl rfl rfl) (fun W pn xe tk _ =>
       (pss_one (ps_ret (d_lst (pa_cons pe_str (pa_cons (pe_ifExp (pt_truK (K := K) rfl (pv 3)) (g_methR MR_Disk_write r tk (pv 0) (pk_cons (pv 2) (pk_cons (pv 1) pk_nil))) (g_meth M_Disk_write r tk (pv 0) (pa_cons (pv 1) (pa_cons (pv 2) pa_nil)))) pa_nil))))))
       (.cons ⟨(by rfl), by decide, .inl X_InvalidBlock.at_⟩ (fun a oe cls d pn hz hf =>
       (pss_one (ps_ret (d_lst (pa_cons pe_str (pa_cons (pe_cmpR (oEqQ (K := K) rfl (r.q.mark _)) (pe_callB (cReprQ (K := K) rfl (r.q.mark _)) (by rfl) B.repr (by decide +kernel) (pa_cons (pe_xf X_InvalidBlock.xf X_InvalidBlock.ng hz hf (pv 4)) pa_nil)) (pe_callB (cReprQ (K := K) rfl (r.q.mark _)) (by rfl) B.repr (by decide +kernel) (pa_cons (pv 1) pa_nil)) (nomark _)) pa_nil))))))
       (.cons ⟨(by rfl), by decide, .inl X_InvalidText.at_⟩ (fun a oe cls d pn hz hf =>
       (pss_one (ps_ret (d_lst (pa_cons pe_str (pa_cons (pe_cmpR (oEqQ (K := K) rfl (r.q.mark _)) (pe_callB (cReprQ (K := K) rfl (r.q.mark _)) (by rfl) B.repr (by decide +kernel) (pa_cons (pe_xf X_InvalidText.xf X_InvalidText.ng hz hf (pv 4)) pa_nil)) (pe_callB (cReprQ (K := K) rfl (r.q.mark _)) (by rfl) B.repr (by decide +kernel) (pa_cons (pv 2) pa_nil)) (nomark _)) pa_nil))))))
       (.cons ⟨(by rfl), by decide, .inl X_PowerCut.at_⟩ (fun a oe cls d pn hz hf =>
       (pss_one (ps_ret (d_lst (pa_cons pe_str (pa_cons (pe_callB (cIsX0 hz hf) (by rfl) B.isinstance (by decide +kernel) (pa_cons (pv 4) (pa_cons (C8.pe_gc (by rfl) T.ForgetError) pa_nil))) pa_nil))))))
       .nil))))), ?_⟩
    try dsimp only [cxOf]
    refine x_start (σ' := [some _, some _, some _, some _, none]) rfl ?_
    walk_at "s"
    refine ite_b (fun c => ?_) (fun c => ?_)
    · walk_at "s"
      refine x_mI (dk_p O) f_meth ?_
      walk_at "s"
      refine ⟨G, _, p, dx, s, t, w, m, lf, dd, vb, vt, db, dt, ss, ts, ws, rfl, O, hn, hb.mono O.sub, fun G' H' s' O' => (ht.mono s').mono O'.sub, hz, hw, fun ed => ?_, fun ed cb d' G' H' s' O' e' => ?_, fun ed cb ct d' G' H' s' O' e' => ?_, fun i x ed e1 hi e2 ct el G' H' s' O' => ?_, fun i x lf' ed e1 hi e2 ct el G' H' a s' O' ea => ?_⟩
      · refine ⟨false, EX.PB, (fun z => nomatch z), fun _ => ⟨false, EX.PT, (fun z => nomatch z), fun _ => ⟨true, X_PowerCut.te, fun _ a ha => ?_, fun z => nomatch z⟩⟩⟩
        exact x_cutE O X_PowerCut rfl fun G2 H2 q s2 O2 e2 => q0 ed G2 H2 q s2 O2 e2
      · refine ⟨true, X_InvalidBlock.te, fun _ a ha => ?_, fun z => nomatch z⟩
        exact x_giv O' (hb.mono s') rb e' X_InvalidBlock rfl rfl fun G2 H2 q s2 O2 e2 => q1 ed cb G2 H2 q (s'.trans s2) O2 e2
      · refine ⟨false, EX.TB, (fun z => nomatch z), fun _ => ⟨true, X_InvalidText.te, fun _ a ha => ?_, fun z => nomatch z⟩⟩
        exact x_giv O' (ht.mono s') rt e' X_InvalidText rfl rfl fun G2 H2 q s2 O2 e2 => q2 ed cb ct G2 H2 q (s'.trans s2) O2 e2
      · refine ⟨false, EX.PB, (fun z => nomatch z), fun _ => ⟨false, EX.PT, (fun z => nomatch z), fun _ => ⟨true, X_PowerCut.te, fun _ a ha => ?_, fun z => nomatch z⟩⟩⟩
        exact x_cutE O' X_PowerCut rfl fun G2 H2 q s2 O2 eq => q3 i x ed e1 hi e2 ct el G2 H2 q (s'.trans s2) O2 eq
      · walk_at "s"
        refine ⟨by show 2 ≤ sizeLine; decide, x_fix O' fun q G1 H1 s1 O1 eq1 => ?_⟩
        exact q4 i x lf' ed e1 hi e2 ct el G1 H1 a q (s'.trans s1) O1 (s1 _ _ ea) eq1
    · walk_at "s"
      refine x_mI (dk_p O) f_meth ?_
      walk_at "s"
      refine ⟨G, _, p, dx, s, t, w, m, lf, dd, vb, vt, db, dt, ss, ts, ws, rfl, O, hn, hb.mono O.sub, fun G' H' s' O' => (ht.mono s').mono O'.sub, hz, hw, fun ed => ?_, fun ed cb d' G' H' s' O' e' => ?_, fun ed cb ct d' G' H' s' O' e' => ?_, fun i x ed e1 hi e2 ct el G' H' s' O' => ?_, fun i x lf' ed e1 hi e2 ct el G' H' a s' O' ea => ?_⟩
      · refine ⟨false, EX.PB, (fun z => nomatch z), fun _ => ⟨false, EX.PT, (fun z => nomatch z), fun _ => ⟨true, X_PowerCut.te, fun _ a ha => ?_, fun z => nomatch z⟩⟩⟩
        exact x_cutE O X_PowerCut rfl fun G2 H2 q s2 O2 e2 => q0 ed G2 H2 q s2 O2 e2
      · refine ⟨true, X_InvalidBlock.te, fun _ a ha => ?_, fun z => nomatch z⟩
        exact x_giv O' (hb.mono s') rb e' X_InvalidBlock rfl rfl fun G2 H2 q s2 O2 e2 => q1 ed cb G2 H2 q (s'.trans s2) O2 e2
      · refine ⟨false, EX.TB, (fun z => nomatch z), fun _ => ⟨true, X_InvalidText.te, fun _ a ha => ?_, fun z => nomatch z⟩⟩
        exact x_giv O' (ht.mono s') rt e' X_InvalidText rfl rfl fun G2 H2 q s2 O2 e2 => q2 ed cb ct G2 H2 q (s'.trans s2) O2 e2
      · refine ⟨false, EX.PB, (fun z => nomatch z), fun _ => ⟨false, EX.PT, (fun z => nomatch z), fun _ => ⟨true, X_PowerCut.te, fun _ a ha => ?_, fun z => nomatch z⟩⟩⟩
        exact x_cutE O' X_PowerCut rfl fun G2 H2 q s2 O2 eq => q3 i x ed e1 hi e2 ct el G2 H2 q (s'.trans s2) O2 eq
      · walk_at "s"
        refine ⟨by show 2 ≤ sizeLine; decide, x_fix O' fun q G1 H1 s1 O1 eq1 => ?_⟩
        exact q4 i x lf' ed e1 hi e2 ct el G1 H1 a q (s'.trans s1) O1 (s1 _ _ ea) eq1
abbrev s__law_sync_told : Stmt := top 29
theorem sc__law_sync_told : FnScope ["disk", "e"] ["disk"] (defScope s__law_sync_told) := ⟨rfl, rfl, rfl, by decide +kernel, rfl, by decide +kernel, by decide +kernel⟩
def sp_st (C : Addr) : Sp := fun vs H Q _ => ∃ (G : Hp) (R : List (Addr × HO)) (p dx s t w : Addr) (m : Nat) (lf : Option Nat) (dd : Bool) (ss ts ws : List V), vs = [.ref p] ∧ Own G H (dkL C p dx s t w m lf dd ss ts ws ++ R) ∧
  (dd = true → ∀ (G' H' : Hp) (q : Addr), Same G G' → Own G' H' (dkL C p dx s t w m lf dd ss ts ws ++ R) → G' q = some (.lst [.str "cut", .bl true]) → Q (.ref q) H') ∧
  (dd = false → stepL lf = none → ∀ (G' H' : Hp) (q : Addr), Same G G' → Own G' H' (dkL C p dx s t w m lf true ss ts ws ++ R) → G' q = some (.lst [.str "cut", .bl true]) → Q (.ref q) H') ∧
  (∀ lf', dd = false → stepL lf = some lf' → ∀ (G' H' : Hp) (s' w' q : Addr), Same G G' → Own G' H' (dkL C p dx s' t w' m lf' false ts ts [] ++ R) → G' q = some (.lst [.str "told", .non]) → Q (.ref q) H')
theorem ok_st {f : Addr} {fd : FuncData} (F : Fun K "_law_sync_told" "_law_sync_told" s__law_sync_told f fd) (B : Bt mg) (T : Tc K mg fa C D) (M_Disk_sync : Mt P w K mg base k C "sync" ["self"] (sp_sy C CP)) (X_PowerCut : Xk0 P w K mg base k "PowerCut" CP D) :
    FnG P w K mg base (k + 1) f fd ["disk"] (sp_st C) := by
  refine fnG_of F sc__law_sync_told (fun vs H Q E h => ?_) (fun cdv A outer s H vs Q E r h => ?_)
  · obtain ⟨_, _, _, _, _, _, _, _, _, _, _, _, _, rfl, _⟩ := h
    rfl
  · obtain ⟨G, R, p, dx, s, t, w, m, lf, dd, ss, ts, ws, rfl, O, q0, q1, q2⟩ := h
    refine ⟨_, (pss_one (ps_try_as (i := 1) rfl rfl sc__law_sync_told.nd rfl rfl ⟨(by rfl), by decide, .inl X_PowerCut.at_⟩ (takes_of rfl rfl rfl rfl) (fun W pn xe tk _ =>
       (pss_one (ps_ret (d_lst (pa_cons pe_str (pa_cons (g_meth0 M_Disk_sync r tk (pv 0)) pa_nil))))))
       (fun a oe cls d pn hz hf =>
       (pss_one (ps_ret (d_lst (pa_cons pe_str (pa_cons (pe_callB (cIsX0 hz hf) (by rfl) B.isinstance (by decide +kernel) (pa_cons (pv 1) (pa_cons (C8.pe_gc (by rfl) T.ForgetError) pa_nil))) pa_nil)))))))), ?_⟩
    try dsimp only [cxOf]
    refine x_start (σ' := [some _, none]) rfl ?_
    walk_at "s"
    refine x_mI (dk_p O) f_meth ?_
    walk_at "s"
    refine ⟨G, _, p, dx, s, t, w, m, lf, dd, ss, ts, ws, rfl, O, fun ed => ?_, fun ed el H' O' => ?_, fun lf' ed el H' s' w' O' => ?_⟩
    · refine ⟨true, X_PowerCut.te, fun _ a ha => ?_, fun z => nomatch z⟩
      exact x_cutE O X_PowerCut rfl fun G2 H2 q s2 O2 e2 => q0 ed G2 H2 q s2 O2 e2
    · refine ⟨true, X_PowerCut.te, fun _ a ha => ?_, fun z => nomatch z⟩
      exact x_cutE O' X_PowerCut rfl fun G2 H2 q s2 O2 e2 => q1 ed el G2 H2 q s2 O2 e2
    · walk_at "s"
      refine ⟨by show 2 ≤ sizeLine; decide, x_fix O' fun q G1 H1 s1 O1 eq1 => ?_⟩
      exact q2 lf' ed el G1 H1 s' w' q s1 O1 eq1
end
end M85
set_option maxHeartbeats 4000000
namespace M85
open PySem PySem.Spec PyProof.Rows L2 G
local macro_rules | `(tactic| walk_at "hp") => `(tactic| first | assumption | exact Own.at0 (by assumption) | exact Own.at1 (by assumption) | exact Own.at2 (by assumption) | exact Own.at3 (by assumption) | exact Own.sub (by assumption) _ _ (by assumption) | exact upd_same)
local macro_rules | `(tactic| walk_at "hl") => `(tactic| first | assumption | exact SqL.of (by walk_at "hp") | exact Own.seq (by assumption) (by assumption) | exact Own.seq (by assumption) (SqL.of (by assumption)))
local macro_rules | `(tactic| walk_at "ht") => `(tactic| first | assumption | exact SqT.of (by walk_at "hp") | exact Own.set (by assumption) (by assumption) | exact Own.set (by assumption) (SqT.of (by assumption)))
local macro_rules | `(tactic| walk_at "n") => `(tactic| (intros; (try dsimp only [List.set, wipe, List.map, List.set_cons_succ, List.set_cons_zero]); (try exact rfl)))
local macro_rules | `(tactic| walk_at "n1") => `(tactic| with_reducible first | (refine x_asgN (σ' := ?s) ?hs ?q; (case hs => walk_at "n")) | (refine x_gN (σ' := ?s) ?hs ?q; (case hs => walk_at "n")) | (refine And.intro (show wipe _ _ = _ from (by walk_at "n")) ?_) | (refine x_parN (σ' := ?s) ?hs ?q; (case hs => walk_at "n")) | (refine x_par3N (σ' := ?s) ?hs ?q; (case hs => walk_at "n")))
local macro_rules | `(tactic| walk_at "v1") => `(tactic| ((with_reducible refine x_var (v := ?v) ?h ?q); (case h => first | exact rfl | assumption)))
local macro_rules | `(tactic| walk_at "s1") => `(tactic| with_reducible first | refine x_op ?_ | refine x_acons ?_ | refine x_c ?_ | refine x_call ?_ | refine x_anil ?_ | refine x_cb ?_ | refine x_seq ?_ | refine x_asgG ?_ | refine x_gC ?_ | refine x_gNl ?_ | refine x_ret ?_ | refine x_ifs ?_ | refine x_test ?_ | refine x_testb ?_ | refine x_and ?_ | refine x_or ?_ | refine x_andV ?_ | refine x_isB ?_ | refine x_add ?_ | refine x_lt ?_ | refine x_inti ?_ | refine x_isI ?_ | refine x_lst ?_ | refine x_tup ?_ | refine x_slice ?_ | refine x_nop ?_ | refine x_part ?_ | refine x_bm ?_ | refine x_sub ?_ | refine x_rI0 ?_ | refine x_drop ?_ | refine x_next ?_ | refine x_brk ?_ | refine x_cnt ?_ | refine x_par2 ?_ | refine x_par33 ?_ | refine x_un ?_ | refine x_rU ?_ | refine x_le ?_ | refine x_gt ?_ | refine x_ge ?_ | refine x_lts ?_ | refine x_intb ?_ | refine x_abs ?_ | refine x_tru ?_ | refine x_trub ?_ | refine x_trui ?_ | refine x_not ?_ | refine x_orV ?_ | refine x_notV ?_ | refine x_if ?_ | refine x_isN ?_ | refine x_isnN ?_ | refine x_dict ?_ | refine x_bm0 ?_ | refine x_revL ?_ | refine x_lcR ?_ | refine x_lcS ?_ | refine x_forR ?_ | refine x_forS ?_ | refine x_yes ?_ | refine ite_t ?_ | refine ite_f ?_)
local macro_rules | `(tactic| walk_at "s") => `(tactic| repeat (first | walk_at "v1" | walk_at "s1" | walk_at "n1"))
local macro_rules | `(tactic| walk_at "bd") => `(tactic| first | decide | omega | exact Nat.le_refl _)
local macro_rules | `(tactic| walk_at "ft") => `(tactic| first
  | with_reducible exact la_nil | with_reducible exact fa_nil | with_reducible exact ft_non | with_reducible exact ft_bl | with_reducible exact ft_dict | ((with_reducible refine ft_str (n := 10) (x := ?x) ?h); (case h => exact And.intro rfl (by decide))) | ((with_reducible refine ft_int (i := ?i) ?h); (case h => decide))
  | ((with_reducible refine ft_var (v := ?v) (m := ?m) (n := ?n) ?h ?f); (case h => exact rfl); (case f => assumption))
  | ((with_reducible refine fa_cons (m1 := ?a) (n1 := ?b) (m2 := ?c) (n2 := ?d) ?f ?g); (case f => walk_at "ft"); (case g => walk_at "ft"))
  | ((with_reducible refine ft_tup (m := ?m) (n := ?n) ?f ?h); (case f => walk_at "ft"); (case h => walk_at "bd"))
  | ((with_reducible refine ft_lst (m := ?m) (n := ?n) ?f ?h); (case f => walk_at "ft"); (case h => walk_at "bd"))
  | ((with_reducible refine la_cons (m1 := ?a) (n1 := ?b) (B := ?c) ?f ?g ?h ?i); (case f => walk_at "ft"); (case h => walk_at "bd"); (case i => walk_at "bd"); (case g => walk_at "ft"))
  | ((with_reducible refine lt_var (v := ?v) (m := ?m) (n := ?n) (B := ?b) ?h ?f); (case h => exact rfl); (case f => assumption))
  | ((with_reducible refine lt_add (B1 := ?a) (B2 := ?b) ?f ?g ?h); (case f => walk_at "ft"); (case g => walk_at "ft"); (case h => walk_at "bd"))
  | ((with_reducible refine ft_addsv (x := ?x) (m := ?m) (n := 10) ?h ?s ?a ?z); (case h => exact rfl); (case s => assumption); (case a => exact And.intro rfl (by decide)); (case z => decide))
  | ((with_reducible refine lt_lst ?f ?h); (case f => walk_at "ft"); (case h => walk_at "bd")))
local macro_rules | `(tactic| walk_at "s1") => `(tactic| with_reducible first | refine x_fld ?_ | refine x_sfld ?_ | refine x_m ?_ | refine x_mr ?_ | refine x_i ?_ | refine x_ir ?_ | refine x_gfld ?_ | refine x_mko ?_ | refine x_vei ?_ | refine x_ost ?_ | refine ite_nt ?_ | refine ite_nf ?_)
section
variable {P : Program} {w : World} {K : PySem.W.Frag} {mg : Str → Option Value} {base : Heap} {k : Nat} {fa C D CB CT CM CF CP CC : Addr}
abbrev s__law_limit_told : Stmt := top 30
theorem sc__law_limit_told : FnScope ["disk", "count", "by_name", "e"] ["disk", "count", "by_name"] (defScope s__law_limit_told) := ⟨rfl, rfl, rfl, by decide +kernel, rfl, by decide +kernel, by decide +kernel⟩
def sp_ll (K : PySem.W.Frag) (C : Addr) : Sp := fun vs H Q _ => ∃ (G : Hp) (R L0 : List (Addr × HO)) (p dx s t w : Addr) (m : Nat) (lf : Option Nat) (dd : Bool) (v : V) (d : PyData) (ss ts ws : List V) (cn : Bool), vs = [.ref p, v, .bl cn] ∧ Own G H (dkL C p dx s t w m lf dd ss ts ws ++ (L0 ++ R)) ∧ Val K G v d L0 ∧ Rv d ∧
  (dd = true → ∀ (G' H' : Hp) (q : Addr), Same G G' → Own G' H' (dkL C p dx s t w m lf dd ss ts ws ++ R) → G' q = some (.lst [.str "cut", .bl true]) → Q (.ref q) H') ∧
  (∀ lf', dd = false → cntB d = some lf' → ∀ (G' H' : Hp) (q : Addr), Same G G' → Own G' H' (dkL C p dx s t w m lf' dd ss ts ws ++ R) → G' q = some (.lst [.str "told", .non]) → Q (.ref q) H') ∧
  (dd = false → cntB d = none → ∀ (G' H' : Hp) (q : Addr), Same G G' → Own G' H' (dkL C p dx s t w m lf dd ss ts ws ++ R) → G' q = some (.lst [.str "count", .bl true]) → Q (.ref q) H')
theorem ok_ll {f : Addr} {fd : FuncData} (F : Fun K "_law_limit_told" "_law_limit_told" s__law_limit_told f fd) (B : Bt mg) (T : Tc K mg fa C D) (M_Disk_limit : Mt P w K mg base k C "limit" ["self", "count"] (sp_li K C CP CC)) (MR_Disk_limit : MtR P w K mg base k C "limit" ["self", "count"] ["count"] (sp_li K C CP CC))
    (X_InvalidCount : Xk P w K mg base k "InvalidCount" CC D) (X_PowerCut : Xk0 P w K mg base k "PowerCut" CP D) (EX : Ex K CB CT CF CP CC) : FnG P w K mg base (k + 1) f fd ["disk", "count", "by_name"] (sp_ll K C) := by
  refine fnG_of F sc__law_limit_told (fun vs H Q E h => ?_) (fun cdv A outer s H vs Q E r h => ?_)
  · obtain ⟨_, _, _, _, _, _, _, _, _, _, _, _, _, _, _, _, _, rfl, _⟩ := h
    rfl
  · obtain ⟨G, R, L0, p, dx, s, t, w, m, lf, dd, v, d, ss, ts, ws, cn, rfl, O, hv, rv, q0, q1, q2⟩ := h
    refine ⟨_, (pss_one (g_tries (i := 3) rfl rfl sc__law_limit_told.nd rfl rfl (takes_of rfl rfl rfl rfl) (fun W pn xe tk _ =>
       (pss_one (ps_ret (d_lst (pa_cons pe_str (pa_cons (pe_ifExp (pt_truK (K := K) rfl (pv 2)) (g_methR MR_Disk_limit r tk (pv 0) (pk_cons (pv 1) pk_nil)) (g_meth M_Disk_limit r tk (pv 0) (pa_cons (pv 1) pa_nil))) pa_nil))))))
       (.cons ⟨(by rfl), by decide, .inl X_InvalidCount.at_⟩ (fun a oe cls d pn hz hf =>
       (pss_cons (ps_if (pt_truK (K := K) rfl (pe_callB (cIsiK (K := K) rfl) (by rfl) B.isinstance (by decide +kernel) (pa_cons (pv 1) (pa_cons (pe_bltn (v := .ty "list") (u := .type "list") (by rfl) B.list (by decide +kernel) rfl) pa_nil))))
       (pss_one (ps_expr (pe_bmK' (K := K) rfl PySem.F.plainAttrs_list PySem.F.slot_list_append PySem.F.type_list_append mApp (pv 1) (pa_cons pe_str pa_nil))))
       pss_nil)
       (pss_one (ps_ret (d_lst (pa_cons pe_str (pa_cons (pe_and (pe_callB (cIsX hz hf) (by rfl) B.isinstance (by decide +kernel) (pa_cons (pv 3) (pa_cons (C8.pe_gc (by rfl) T.ForgetError) pa_nil))) (pe_one (pe_cmpR (oEqQ (K := K) rfl (r.q.mark _)) (pe_callB (cReprQ (K := K) rfl (r.q.mark _)) (by rfl) B.repr (by decide +kernel) (pa_cons (pe_xf X_InvalidCount.xf X_InvalidCount.ng hz hf (pv 3)) pa_nil)) (pe_callB (cReprQ (K := K) rfl (r.q.mark _)) (by rfl) B.repr (by decide +kernel) (pa_cons (pv 1) pa_nil)) (nomark _)))) pa_nil)))))))
       (.cons ⟨(by rfl), by decide, .inl X_PowerCut.at_⟩ (fun a oe cls d pn hz hf =>
       (pss_one (ps_ret (d_lst (pa_cons pe_str (pa_cons (pe_callB (cIsX0 hz hf) (by rfl) B.isinstance (by decide +kernel) (pa_cons (pv 3) (pa_cons (C8.pe_gc (by rfl) T.ForgetError) pa_nil))) pa_nil))))))
       .nil)))), ?_⟩
    try dsimp only [cxOf]
    refine x_start (σ' := [some _, some _, some _, none]) rfl ?_
    walk_at "s"
    have hH := hv.at (Own.ab O)
    refine ite_b (fun c => ?_) (fun c => ?_)
    · walk_at "s"
      refine x_mI (dk_p O) f_meth ?_
      walk_at "s"
      refine ⟨G, _, p, dx, s, t, w, m, lf, dd, v, d, ss, ts, ws, rfl, O, hH, fun ed => ?_, fun lf' ed el H' O' => ?_, fun ed el d' G' H' s' O' e' => ?_⟩
      · refine ⟨false, EX.PC, (fun z => nomatch z), fun _ => ⟨true, X_PowerCut.te, fun _ a ha => ?_, fun z => nomatch z⟩⟩
        exact x_cutE O X_PowerCut rfl fun G2 H2 q s2 O2 e2 => q0 ed G2 H2 q s2 (Own.ab O2).dropA e2
      · walk_at "s"
        refine ⟨by show 2 ≤ sizeLine; decide, x_fix O' fun q G1 H1 s1 O1 eq1 => ?_⟩
        exact q1 lf' ed el G1 H1 q s1 (Own.ab O1).dropA eq1
      · refine ⟨true, X_InvalidCount.te, fun _ a ha => ?_, fun z => nomatch z⟩
        exact x_givL (Own.ab O') (hv.same s') rv e' X_InvalidCount rfl rfl fun G2 H2 q L1 s2 O2 _ e2 => q2 ed el G2 H2 q (s'.trans s2) O2.dropA e2
    · walk_at "s"
      refine x_mI (dk_p O) f_meth ?_
      walk_at "s"
      refine ⟨G, _, p, dx, s, t, w, m, lf, dd, v, d, ss, ts, ws, rfl, O, hH, fun ed => ?_, fun lf' ed el H' O' => ?_, fun ed el d' G' H' s' O' e' => ?_⟩
      · refine ⟨false, EX.PC, (fun z => nomatch z), fun _ => ⟨true, X_PowerCut.te, fun _ a ha => ?_, fun z => nomatch z⟩⟩
        exact x_cutE O X_PowerCut rfl fun G2 H2 q s2 O2 e2 => q0 ed G2 H2 q s2 (Own.ab O2).dropA e2
      · walk_at "s"
        refine ⟨by show 2 ≤ sizeLine; decide, x_fix O' fun q G1 H1 s1 O1 eq1 => ?_⟩
        exact q1 lf' ed el G1 H1 q s1 (Own.ab O1).dropA eq1
      · refine ⟨true, X_InvalidCount.te, fun _ a ha => ?_, fun z => nomatch z⟩
        exact x_givL (Own.ab O') (hv.same s') rv e' X_InvalidCount rfl rfl fun G2 H2 q L1 s2 O2 _ e2 => q2 ed el G2 H2 q (s'.trans s2) O2.dropA e2
abbrev s__law_remains_told : Stmt := top 31
theorem sc__law_remains_told : FnScope ["disk", "fates", "by_name", "e"] ["disk", "fates", "by_name"] (defScope s__law_remains_told) := ⟨rfl, rfl, rfl, by decide +kernel, rfl, by decide +kernel, by decide +kernel⟩
def sp_mt (K : PySem.W.Frag) (C : Addr) : Sp := fun vs H Q _ => ∃ (G : Hp) (R L0 : List (Addr × HO)) (p dx s t w : Addr) (m : Nat) (lf : Option Nat) (dd : Bool) (v : V) (d : PyData) (ss ts ws : List V) (wl : List (Nat × V)) (cn : Bool), vs = [.ref p, v, .bl cn] ∧ Own G H (dkL C p dx s t w m lf dd ss ts ws ++ (L0 ++ R)) ∧ Val K G v d L0 ∧ Rv d ∧
  1 ≤ m ∧ m ≤ 8 ∧ ss.length = m ∧ WrT G ws wl ∧ (∀ b ∈ wl, b.1 < m) ∧ wl.length ≤ 10000 ∧ (sqI d).length ≤ 100000 ∧
  (fatesB wl.length d = false → ∀ (G' H' : Hp) (q : Addr) (L1 : List (Addr × HO)), Same G G' → Own G' H' (L1 ++ (dkL C p dx s t w m lf dd ss ts ws ++ R)) → Gr v L0 L1 → G' q = some (.lst [.str "fates", .bl true]) → Q (.ref q) H') ∧
  (∀ fl : List Str, (d = .list (fl.map PyData.str) ∨ d = .tuple (fl.map PyData.str)) → fl.length = wl.length → (∀ f ∈ fl, wFates.contains f = true) →
  ∀ (G' H' : Hp) (p' dx' s' t' w' q : Addr), Same G G' → Own G' H' (dkL C p' dx' s' t' w' m none false (rem ss wl fl) (rem ss wl fl) [] ++ (dkL C p dx s t w m lf dd ss ts ws ++ (L0 ++ R))) → G' q = some (.lst [.str "told", .ref p']) → Q (.ref q) H')
theorem ok_mt {f : Addr} {fd : FuncData} (F : Fun K "_law_remains_told" "_law_remains_told" s__law_remains_told f fd) (B : Bt mg) (T : Tc K mg fa C D) (M_Disk_remains : Mt P w K mg base k C "remains" ["self", "fates"] (sp_rm K C CF)) (MR_Disk_remains : MtR P w K mg base k C "remains" ["self", "fates"] ["fates"] (sp_rm K C CF))
    (X_InvalidFates : Xk P w K mg base k "InvalidFates" CF D) : FnG P w K mg base (k + 1) f fd ["disk", "fates", "by_name"] (sp_mt K C) := by
  refine fnG_of F sc__law_remains_told (fun vs H Q E h => ?_) (fun cdv A outer s H vs Q E r h => ?_)
  · obtain ⟨_, _, _, _, _, _, _, _, _, _, _, _, _, _, _, _, _, _, rfl, _⟩ := h
    rfl
  · obtain ⟨G, R, L0, p, dx, s, t, w, m, lf, dd, v, d, ss, ts, ws, wl, cn, rfl, O, hv, rv, m1, m8, hss, hw, hwm, hz, hz2, q1, q2⟩ := h
    refine ⟨_, (pss_one (ps_try_as (i := 3) rfl rfl sc__law_remains_told.nd rfl rfl ⟨(by rfl), by decide, .inl X_InvalidFates.at_⟩ (takes_of rfl rfl rfl rfl) (fun W pn xe tk _ =>
       (pss_one (ps_ret (d_lst (pa_cons pe_str (pa_cons (pe_ifExp (pt_truK (K := K) rfl (pv 2)) (g_methR MR_Disk_remains r tk (pv 0) (pk_cons (pv 1) pk_nil)) (g_meth M_Disk_remains r tk (pv 0) (pa_cons (pv 1) pa_nil))) pa_nil))))))
       (fun a oe cls d pn hz hf =>
       (pss_cons (ps_if (pt_truK (K := K) rfl (pe_callB (cIsiK (K := K) rfl) (by rfl) B.isinstance (by decide +kernel) (pa_cons (pv 1) (pa_cons (pe_bltn (v := .ty "list") (u := .type "list") (by rfl) B.list (by decide +kernel) rfl) pa_nil))))
       (pss_one (ps_expr (pe_bmK' (K := K) rfl PySem.F.plainAttrs_list PySem.F.slot_list_append PySem.F.type_list_append mApp (pv 1) (pa_cons pe_str pa_nil))))
       pss_nil)
       (pss_one (ps_ret (d_lst (pa_cons pe_str (pa_cons (pe_and (pe_callB (cIsX hz hf) (by rfl) B.isinstance (by decide +kernel) (pa_cons (pv 3) (pa_cons (C8.pe_gc (by rfl) T.ForgetError) pa_nil))) (pe_one (pe_cmpR (oEqQ (K := K) rfl (r.q.mark _)) (pe_callB (cReprQ (K := K) rfl (r.q.mark _)) (by rfl) B.repr (by decide +kernel) (pa_cons (pe_xf X_InvalidFates.xf X_InvalidFates.ng hz hf (pv 3)) pa_nil)) (pe_callB (cReprQ (K := K) rfl (r.q.mark _)) (by rfl) B.repr (by decide +kernel) (pa_cons (pv 1) pa_nil)) (nomark _)))) pa_nil))))))))), ?_⟩
    try dsimp only [cxOf]
    refine x_start (σ' := [some _, some _, some _, none]) rfl ?_
    walk_at "s"
    refine ite_b (fun c => ?_) (fun c => ?_)
    · walk_at "s"
      refine x_mI (dk_p O) f_meth ?_
      walk_at "s"
      refine ⟨G, R, L0, p, dx, s, t, w, v, d, m, lf, dd, ss, ts, ws, wl, rfl, O, m1, m8, hss, hw, hwm, hv, hz, hz2, fun cb d' G' H' s' O' e' => ?_, fun fl ed hfl hft G' H' p' dx' s'' t' w' s' O' => ?_⟩
      · refine ⟨true, X_InvalidFates.te, fun _ a ha => ?_, fun z => nomatch z⟩
        exact x_givL (Own.ab O') (hv.same s') rv e' X_InvalidFates rfl rfl fun G2 H2 q L1 s2 O2 gr e2 => q1 cb G2 H2 q L1 (s'.trans s2) O2 gr e2
      · walk_at "s"
        refine ⟨by show 2 ≤ sizeLine; decide, x_fix O' fun q G1 H1 s1 O1 eq1 => ?_⟩
        exact q2 fl ed hfl hft G1 H1 p' dx' s'' t' w' q (s'.trans s1) O1 eq1
    · walk_at "s"
      refine x_mI (dk_p O) f_meth ?_
      walk_at "s"
      refine ⟨G, R, L0, p, dx, s, t, w, v, d, m, lf, dd, ss, ts, ws, wl, rfl, O, m1, m8, hss, hw, hwm, hv, hz, hz2, fun cb d' G' H' s' O' e' => ?_, fun fl ed hfl hft G' H' p' dx' s'' t' w' s' O' => ?_⟩
      · refine ⟨true, X_InvalidFates.te, fun _ a ha => ?_, fun z => nomatch z⟩
        exact x_givL (Own.ab O') (hv.same s') rv e' X_InvalidFates rfl rfl fun G2 H2 q L1 s2 O2 gr e2 => q1 cb G2 H2 q L1 (s'.trans s2) O2 gr e2
      · walk_at "s"
        refine ⟨by show 2 ≤ sizeLine; decide, x_fix O' fun q G1 H1 s1 O1 eq1 => ?_⟩
        exact q2 fl ed hfl hft G1 H1 p' dx' s'' t' w' q (s'.trans s1) O1 eq1
abbrev s__law_read_wrong : Stmt := top 32
theorem sc__law_read_wrong : FnScope ["disk", "block", "e"] ["disk", "block"] (defScope s__law_read_wrong) := ⟨rfl, rfl, rfl, by decide +kernel, rfl, by decide +kernel, by decide +kernel⟩
def sp_rw (K : PySem.W.Frag) (C : Addr) : Sp := fun vs H Q _ => ∃ (G : Hp) (R : List (Addr × HO)) (p dx s t w : Addr) (m : Nat) (lf : Option Nat) (dd : Bool) (v : V) (d : PyData) (ss ts ws : List V), vs = [.ref p, v] ∧ Own G H (dkL C p dx s t w m lf dd ss ts ws ++ R) ∧ ts.length = m ∧ Dt K G v d ∧ Rp d ∧ ixB m d = false ∧
  ∀ (G' H' : Hp), Same G G' → Own G' H' (dkL C p dx s t w m lf dd ss ts ws ++ R) → Q (.bl true) H'
theorem ok_rw {f : Addr} {fd : FuncData} (F : Fun K "_law_read_wrong" "_law_read_wrong" s__law_read_wrong f fd) (B : Bt mg) (T : Tc K mg fa C D) (M_Disk_read : Mt P w K mg base k C "read" ["self", "block"] (sp_rd K C CB))
    (X_InvalidBlock : Xk P w K mg base k "InvalidBlock" CB D) : FnG P w K mg base (k + 1) f fd ["disk", "block"] (sp_rw K C) := by
  refine fnG_of F sc__law_read_wrong (fun vs H Q E h => ?_) (fun cdv A outer s H vs Q E r h => ?_)
  · obtain ⟨_, _, _, _, _, _, _, _, _, _, _, _, _, _, _, rfl, _⟩ := h
    rfl
  · obtain ⟨G, R, p, dx, s, t, w, m, lf, dd, v, d, ss, ts, ws, rfl, O, hn, hv, rv, hb, q⟩ := h
    refine ⟨_, (pss_one (ps_try_as (i := 2) rfl rfl sc__law_read_wrong.nd rfl rfl ⟨(by rfl), by decide, .inl X_InvalidBlock.at_⟩ (takes_of rfl rfl rfl rfl) (fun W pn xe tk _ =>
       (pss_cons (ps_expr (g_meth M_Disk_read r tk (pv 0) (pa_cons (pv 1) pa_nil)))
       (pss_one (ps_ret pe_bl))))
       (fun a oe cls d pn hz hf =>
       (pss_one (ps_ret (pe_and (pe_callB (cIsX hz hf) (by rfl) B.isinstance (by decide +kernel) (pa_cons (pv 2) (pa_cons (C8.pe_gc (by rfl) T.ForgetError) pa_nil))) (pe_one (pe_cmpR (oEqQ (K := K) rfl (r.q.mark _)) (pe_callB (cReprQ (K := K) rfl (r.q.mark _)) (by rfl) B.repr (by decide +kernel) (pa_cons (pe_xf X_InvalidBlock.xf X_InvalidBlock.ng hz hf (pv 2)) pa_nil)) (pe_callB (cReprQ (K := K) rfl (r.q.mark _)) (by rfl) B.repr (by decide +kernel) (pa_cons (pv 1) pa_nil)) (nomark _))))))))), ?_⟩
    try dsimp only [cxOf]
    refine x_start (σ' := [some _, some _, none]) rfl ?_
    walk_at "s"
    refine x_mI (dk_p O) f_meth ?_
    walk_at "s"
    refine ⟨G, _, p, dx, s, t, w, m, lf, dd, v, d, ts, rfl, O, dk_p O, dk_t O, hn, hv.mono O.sub, fun i x e1 e2 => ?_, fun _ d' G' H' s' O' e' => ?_⟩
    · subst e1
      have hi : i < ts.length := (List.getElem?_eq_some_iff.mp e2).1
      exact absurd hb (by simp only [ixB, Bool.and_eq_false_iff, decide_eq_false_iff_not]; omega)
    · refine ⟨true, X_InvalidBlock.te, fun _ a ha => ?_, fun z => nomatch z⟩
      have hd1 := O'.sub _ _ e'
      have he := (hv.mono s').mono O'.sub
      walk_at "s"
      refine ⟨.ref D, .ref D, true, CB, d', _, rfl, rfl, X_InvalidBlock.xi, rfl, hd1, fun u z => z, X_InvalidBlock.kf, ?_⟩
      walk_at "s"
      refine ⟨_, rfl, rfl, rfl, d', _, v, rfl, hd1, (by rw [lookup_put, if_pos rfl]), ?_⟩
      walk_at "s"
      refine x_reprP he rv ?_
      walk_at "s"
      refine x_reprP he rv ?_
      refine x_eq rfl ?_
      rw [decide_eq_true rfl]
      walk_at "s"
      exact q G' H' s' O'
end
end M85
set_option maxHeartbeats 4000000
namespace M85
open PySem PySem.Spec PyProof.Rows L2 G
local macro_rules | `(tactic| walk_at "hp") => `(tactic| first | assumption | exact Own.at0 (by assumption) | exact Own.at1 (by assumption) | exact Own.at2 (by assumption) | exact Own.at3 (by assumption) | exact Own.sub (by assumption) _ _ (by assumption) | exact upd_same)
local macro_rules | `(tactic| walk_at "hl") => `(tactic| first | assumption | exact SqL.of (by walk_at "hp") | exact Own.seq (by assumption) (by assumption) | exact Own.seq (by assumption) (SqL.of (by assumption)))
local macro_rules | `(tactic| walk_at "ht") => `(tactic| first | assumption | exact SqT.of (by walk_at "hp") | exact Own.set (by assumption) (by assumption) | exact Own.set (by assumption) (SqT.of (by assumption)))
local macro_rules | `(tactic| walk_at "n") => `(tactic| (intros; (try dsimp only [List.set, wipe, List.map, List.set_cons_succ, List.set_cons_zero]); (try exact rfl)))
local macro_rules | `(tactic| walk_at "n1") => `(tactic| with_reducible first | (refine x_asgN (σ' := ?s) ?hs ?q; (case hs => walk_at "n")) | (refine x_gN (σ' := ?s) ?hs ?q; (case hs => walk_at "n")) | (refine And.intro (show wipe _ _ = _ from (by walk_at "n")) ?_) | (refine x_parN (σ' := ?s) ?hs ?q; (case hs => walk_at "n")) | (refine x_par3N (σ' := ?s) ?hs ?q; (case hs => walk_at "n")))
local macro_rules | `(tactic| walk_at "v1") => `(tactic| ((with_reducible refine x_var (v := ?v) ?h ?q); (case h => first | exact rfl | assumption)))
local macro_rules | `(tactic| walk_at "s1") => `(tactic| with_reducible first | refine x_op ?_ | refine x_acons ?_ | refine x_c ?_ | refine x_call ?_ | refine x_anil ?_ | refine x_cb ?_ | refine x_seq ?_ | refine x_asgG ?_ | refine x_gC ?_ | refine x_gNl ?_ | refine x_ret ?_ | refine x_ifs ?_ | refine x_test ?_ | refine x_testb ?_ | refine x_and ?_ | refine x_or ?_ | refine x_andV ?_ | refine x_isB ?_ | refine x_add ?_ | refine x_lt ?_ | refine x_inti ?_ | refine x_isI ?_ | refine x_lst ?_ | refine x_tup ?_ | refine x_slice ?_ | refine x_nop ?_ | refine x_part ?_ | refine x_bm ?_ | refine x_sub ?_ | refine x_rI0 ?_ | refine x_drop ?_ | refine x_next ?_ | refine x_brk ?_ | refine x_cnt ?_ | refine x_par2 ?_ | refine x_par33 ?_ | refine x_un ?_ | refine x_rU ?_ | refine x_le ?_ | refine x_gt ?_ | refine x_ge ?_ | refine x_lts ?_ | refine x_intb ?_ | refine x_abs ?_ | refine x_tru ?_ | refine x_trub ?_ | refine x_trui ?_ | refine x_not ?_ | refine x_orV ?_ | refine x_notV ?_ | refine x_if ?_ | refine x_isN ?_ | refine x_isnN ?_ | refine x_dict ?_ | refine x_bm0 ?_ | refine x_revL ?_ | refine x_lcR ?_ | refine x_lcS ?_ | refine x_forR ?_ | refine x_forS ?_ | refine x_yes ?_ | refine ite_t ?_ | refine ite_f ?_)
local macro_rules | `(tactic| walk_at "s") => `(tactic| repeat (first | walk_at "v1" | walk_at "s1" | walk_at "n1"))
local macro_rules | `(tactic| walk_at "bd") => `(tactic| first | decide | omega | exact Nat.le_refl _)
local macro_rules | `(tactic| walk_at "ft") => `(tactic| first
  | with_reducible exact la_nil | with_reducible exact fa_nil | with_reducible exact ft_non | with_reducible exact ft_bl | with_reducible exact ft_dict | ((with_reducible refine ft_str (n := 10) (x := ?x) ?h); (case h => exact And.intro rfl (by decide))) | ((with_reducible refine ft_int (i := ?i) ?h); (case h => decide))
  | ((with_reducible refine ft_var (v := ?v) (m := ?m) (n := ?n) ?h ?f); (case h => exact rfl); (case f => assumption))
  | ((with_reducible refine fa_cons (m1 := ?a) (n1 := ?b) (m2 := ?c) (n2 := ?d) ?f ?g); (case f => walk_at "ft"); (case g => walk_at "ft"))
  | ((with_reducible refine ft_tup (m := ?m) (n := ?n) ?f ?h); (case f => walk_at "ft"); (case h => walk_at "bd"))
  | ((with_reducible refine ft_lst (m := ?m) (n := ?n) ?f ?h); (case f => walk_at "ft"); (case h => walk_at "bd"))
  | ((with_reducible refine la_cons (m1 := ?a) (n1 := ?b) (B := ?c) ?f ?g ?h ?i); (case f => walk_at "ft"); (case h => walk_at "bd"); (case i => walk_at "bd"); (case g => walk_at "ft"))
  | ((with_reducible refine lt_var (v := ?v) (m := ?m) (n := ?n) (B := ?b) ?h ?f); (case h => exact rfl); (case f => assumption))
  | ((with_reducible refine lt_add (B1 := ?a) (B2 := ?b) ?f ?g ?h); (case f => walk_at "ft"); (case g => walk_at "ft"); (case h => walk_at "bd"))
  | ((with_reducible refine ft_addsv (x := ?x) (m := ?m) (n := 10) ?h ?s ?a ?z); (case h => exact rfl); (case s => assumption); (case a => exact And.intro rfl (by decide)); (case z => decide))
  | ((with_reducible refine lt_lst ?f ?h); (case f => walk_at "ft"); (case h => walk_at "bd")))
local macro_rules | `(tactic| walk_at "s1") => `(tactic| with_reducible first | refine x_fld ?_ | refine x_sfld ?_ | refine x_m ?_ | refine x_mr ?_ | refine x_i ?_ | refine x_ir ?_ | refine x_gfld ?_ | refine x_mko ?_ | refine x_vei ?_ | refine x_ost ?_ | refine ite_nt ?_ | refine ite_nf ?_)
section
variable {G H : Hp} {R : List (Addr × HO)} {a n s w : Addr} {now syn wr xs : List V} {lf lf' : Option Nat} {dd dd' : Bool} {S : Hp → Prop}
theorem x_stN (O : Own G H (stL a n s w now syn wr lf dd ++ R)) (k : ∀ H', Own G H' (stL a n s w xs syn wr lf dd ++ R) → S H') : md n (.lst xs) H S := k _ (Own.updA (A := [_]) O)
theorem x_stW (O : Own G H (stL a n s w now syn wr lf dd ++ R)) (k : ∀ H', Own G H' (stL a n s w now syn xs lf dd ++ R) → S H') : md w (.lst xs) H S := k _ (Own.updA (A := [_, _, _]) O)
theorem x_stA (O : Own G H (stL a n s w now syn wr lf dd ++ R)) (k : ∀ H', Own G H' (stL a n s w now syn wr lf' dd' ++ R) → S H') : md a (.lst [.ref n, .ref s, .ref w, lfV lf', .bl dd']) H S := k _ (Own.updA (A := []) O)
end
/-- a disk and its own state, m blocks, at most j writes, lf uses left, dead or not -/
def Pr (C : Addr) (G : Hp) (p a : Addr) (m j : Nat) (lf : Option Nat) (dd : Bool) (L : List (Addr × HO)) : Prop := ∃ (dx s t w n s2 w2 : Addr) (syn now ws wr : List V) (wl : List (Nat × V)), L = dkL C p dx s t w m lf dd syn now ws ++ stL a n s2 w2 now syn wr lf dd ∧ WrT G ws wl ∧ WrT G wr wl ∧
  now.length = m ∧ syn.length = m ∧ 1 ≤ m ∧ m ≤ 8 ∧ (∀ x ∈ now, TxV x) ∧ (∀ x ∈ syn, TxV x) ∧ (∀ b ∈ wl, b.1 < m ∧ TxV b.2) ∧ wl.length ≤ j
theorem Pr.same {C : Addr} {G G' : Hp} {p a : Addr} {m j j' : Nat} {lf : Option Nat} {dd : Bool} {L : List (Addr × HO)} (h : Pr C G p a m j lf dd L) (s : Same G G') (e : j ≤ j') : Pr C G' p a m j' lf dd L := by
  obtain ⟨dx, s0, t, w, n, s2, w2, syn, now, ws, wr, wl, rfl, w1, wr1, r⟩ := h
  exact ⟨dx, s0, t, w, n, s2, w2, syn, now, ws, wr, wl, rfl, w1.mono s, wr1.mono s, r.1, r.2.1, r.2.2.1, r.2.2.2.1, r.2.2.2.2.1, r.2.2.2.2.2.1, r.2.2.2.2.2.2.1, Nat.le_trans r.2.2.2.2.2.2.2 e⟩
theorem txv_str {x : Str} {n : Nat} (h : Tx n x) (l : n ≤ 4000) : TxV (.str x) := .inr ⟨n, x, rfl, h, l⟩
theorem txv_set {xs : List V} {x : V} {i : Nat} (h : ∀ y ∈ xs, TxV y) (hx : TxV x) : ∀ y ∈ xs.set i x, TxV y := fun y hy => by
  rcases List.mem_or_eq_of_mem_set hy with h1 | h1
  · exact h y h1
  · rw [h1]; exact hx
theorem wrt_snoc {G : Hp} {a i : Addr} {x : V} : ∀ {ws : List V} {wl : List (Nat × V)}, WrT G ws wl → G a = some (.tup [.int (i : Int), x]) → WrT G (ws ++ [.ref a]) (wl ++ [(i, x)])
  | _, _, .nil, h => .cons ⟨a, rfl, h⟩ .nil
  | _, _, .cons z t, h => .cons z (wrt_snoc t h)
theorem wl_snoc {m i : Nat} {x : V} {wl : List (Nat × V)} (h : ∀ b ∈ wl, b.1 < m ∧ TxV b.2) (hi : i < m) (hx : TxV x) : ∀ b ∈ wl ++ [(i, x)], b.1 < m ∧ TxV b.2 := fun b hb => by
  rcases List.mem_append.mp hb with hb | hb
  · exact h b hb
  · rw [List.mem_singleton.mp hb]
    exact ⟨hi, hx⟩
theorem stp_txv {acc : List V} {z : (Nat × V) × Str} (h : ∀ x ∈ acc, TxV x) (hz : TxV z.1.2) : ∀ x ∈ stp acc z, TxV x := fun x hx => by
  unfold stp at hx
  split at hx
  · exact h x hx
  · refine txv_set h ?_ x hx
    split
    · exact hz
    · exact .inl rfl
theorem fold_txv : ∀ {l : List ((Nat × V) × Str)} {acc : List V}, (∀ x ∈ acc, TxV x) → (∀ z ∈ l, TxV z.1.2) → ∀ x ∈ l.foldl stp acc, TxV x
  | [], _, h, _ => h
  | z :: l, acc, h, hl => fold_txv (l := l) (stp_txv h (hl z List.mem_cons_self)) fun y hy => hl y (List.mem_cons_of_mem _ hy)
theorem rem_txv {syn : List V} {wl : List (Nat × V)} {fl : List Str} {m : Nat} (h : ∀ x ∈ syn, TxV x) (hw : ∀ b ∈ wl, b.1 < m ∧ TxV b.2) : ∀ x ∈ rem syn wl fl, TxV x :=
  fold_txv h fun z hz => (hw z.1 (List.of_mem_zip hz).1).2
theorem rem_len {syn : List V} {wl : List (Nat × V)} {fl : List Str} : (rem syn wl fl).length = syn.length := fold_len
theorem TxV.dt {K : PySem.W.Frag} {x : V} (h : TxV x) : ∃ d, (∀ H, Dt K H x d) ∧ Rp d := by
  rcases h with rfl | ⟨n, y, rfl, hy, l⟩
  · exact ⟨.none, fun _ => .non, Rp.bd (m := 0) (n := 0) ⟨rfl, Nat.le_refl _, Nat.le_refl _⟩ (by decide) (by decide)⟩
  · exact ⟨.str y, fun _ => .str y, Rp.bd (Bd.str (hy.st l)) (by decide) (by decide)⟩
section
variable {G H : Hp} {L R : List (Addr × HO)} {b : Addr} {u : HO} {C p dx s t w a n s2 w2 : Addr} {m : Nat} {lf lf2 : Option Nat} {dd dd2 : Bool} {ss ts ws now syn wr : List V}
theorem to_d (O : Own G H ((b, u) :: ((dkL C p dx s t w m lf dd ss ts ws ++ stL a n s2 w2 now syn wr lf2 dd2) ++ R))) : Own G H (dkL C p dx s t w m lf dd ss ts ws ++ ((b, u) :: (stL a n s2 w2 now syn wr lf2 dd2 ++ R))) := by
  rw [List.append_assoc] at O
  exact Own.ab (A := [(b, u)]) (B := dkL C p dx s t w m lf dd ss ts ws) O
theorem of_d (O : Own G H (dkL C p dx s t w m lf dd ss ts ws ++ ((b, u) :: (stL a n s2 w2 now syn wr lf2 dd2 ++ R)))) : Own G H ((b, u) :: ((dkL C p dx s t w m lf dd ss ts ws ++ stL a n s2 w2 now syn wr lf2 dd2) ++ R)) := by
  rw [List.append_assoc]
  exact Own.ab (A := dkL C p dx s t w m lf dd ss ts ws) (B := [(b, u)]) O
theorem to_s (O : Own G H ((b, u) :: ((dkL C p dx s t w m lf dd ss ts ws ++ stL a n s2 w2 now syn wr lf2 dd2) ++ R))) : Own G H (stL a n s2 w2 now syn wr lf2 dd2 ++ ((b, u) :: (dkL C p dx s t w m lf dd ss ts ws ++ R))) := by
  rw [List.append_assoc] at O
  exact Own.c1 (A := [(b, u)]) (B := dkL C p dx s t w m lf dd ss ts ws) (C := stL a n s2 w2 now syn wr lf2 dd2) O
theorem of_s (O : Own G H (stL a n s2 w2 now syn wr lf2 dd2 ++ ((b, u) :: (dkL C p dx s t w m lf dd ss ts ws ++ R)))) : Own G H ((b, u) :: ((dkL C p dx s t w m lf dd ss ts ws ++ stL a n s2 w2 now syn wr lf2 dd2) ++ R)) := by
  rw [List.append_assoc]
  exact Own.c3 (A := [(b, u)]) (B := dkL C p dx s t w m lf dd ss ts ws) (C := stL a n s2 w2 now syn wr lf2 dd2) O
theorem ds_of (O : Own G H ((dkL C p dx s t w m lf dd ss ts ws ++ stL a n s2 w2 now syn wr lf2 dd2) ++ R)) : Own G H (dkL C p dx s t w m lf dd ss ts ws ++ (stL a n s2 w2 now syn wr lf2 dd2 ++ R)) := by
  rw [List.append_assoc] at O
  exact O
theorem of_ds (O : Own G H (dkL C p dx s t w m lf dd ss ts ws ++ (stL a n s2 w2 now syn wr lf2 dd2 ++ R))) : Own G H ((dkL C p dx s t w m lf dd ss ts ws ++ stL a n s2 w2 now syn wr lf2 dd2) ++ R) := by
  rw [List.append_assoc]
  exact O
theorem to_p (O : Own G H ((b, u) :: (L ++ R))) : Own G H (L ++ ((b, u) :: R)) := Own.ab (A := [(b, u)]) (B := L) O
theorem of_p (O : Own G H (L ++ ((b, u) :: R))) : Own G H ((b, u) :: (L ++ R)) := Own.ab (A := L) (B := [(b, u)]) O
end
theorem eq2 {x : Str} (h : PyData.eqv (.list [.str x, .bool true]) (.list [.str x, .bool true]) = true) {K : PySem.W.Frag} {H : Hp} {Q : VK} {p q : Addr} (h1 : H p = some (.lst [.str x, .bl true])) (h2 : H q = some (.lst [.str x, .bl true]))
    (s1 : SeqAt.shaped (.list [.str x, .bool true]) = true) (k : Q (.bl true) H) : aEq K (.ref p) (.ref q) H Q := by
  refine x_eqD (.lst (SqL.of h1) (.cons (.str _) (.cons (.bl _) .nil))) (.lst (SqL.of h2) (.cons (.str _) (.cons (.bl _) .nil))) s1 s1 ?_
  rw [h]
  exact k
theorem ne2 {x : Str} (h : PyData.eqv (.list [.str x, .bool true]) (.list [.str x, .bool true]) = true) {K : PySem.W.Frag} {H : Hp} {Q : VK} {p q : Addr} (h1 : H p = some (.lst [.str x, .bl true])) (h2 : H q = some (.lst [.str x, .bl true]))
    (s1 : SeqAt.shaped (.list [.str x, .bool true]) = true) (k : Q (.bl false) H) : aNe K (.ref p) (.ref q) H Q := by
  refine x_neD (.lst (SqL.of h1) (.cons (.str _) (.cons (.bl _) .nil))) (.lst (SqL.of h2) (.cons (.str _) (.cons (.bl _) .nil))) s1 s1 ?_
  rw [h]
  exact k
section
variable {P : Program} {w : World} {K : PySem.W.Frag} {mg : Str → Option Value} {base : Heap} {k : Nat} {fa C D CB CT CM CF CP CC : Addr}
abbrev s__law_uses : Stmt := top 33
theorem sc__law_uses : FnScope ["state", "told"] ["state", "told"] (defScope s__law_uses) := ⟨rfl, rfl, rfl, by decide +kernel, rfl, by decide +kernel, by decide +kernel⟩
def sp_us : Sp := fun vs H Q _ => ∃ (G : Hp) (R : List (Addr × HO)) (a n s w q : Addr) (now syn wr : List V) (lf : Option Nat) (dd : Bool), vs = [.ref a, .ref q] ∧ Own G H (stL a n s w now syn wr lf dd ++ R) ∧
  (((dd = true ∨ stepL lf = none) ∧ G q = some (.lst [.str "cut", .bl true]) ∧ ∀ (G' H' : Hp) (r : Addr), Same G G' → Own G' H' (stL a n s w now syn wr lf true ++ R) → G' r = some (.tup [.bl true, .bl false]) → Q (.ref r) H') ∨
  ∃ lf', dd = false ∧ stepL lf = some lf' ∧ G q = some (.lst [.str "told", .non]) ∧ ∀ (G' H' : Hp) (r : Addr), Same G G' → Own G' H' (stL a n s w now syn wr lf' false ++ R) → G' r = some (.tup [.bl true, .bl true]) → Q (.ref r) H')
theorem ok_us {f : Addr} {fd : FuncData} (F : Fun K "_law_uses" "_law_uses" s__law_uses f fd) (B : Bt mg) : FnG P w K mg base (k + 1) f fd ["state", "told"] sp_us := by
  refine fnG_of F sc__law_uses (fun vs H Q E h => ?_) (fun cdv A outer s H vs Q E r h => ?_)
  · obtain ⟨_, _, _, _, _, _, _, _, _, _, _, _, rfl, _⟩ := h
    rfl
  · obtain ⟨G, R, a, n, s, w, q, now, syn, wr, lf, dd, rfl, O, hq⟩ := h
    refine ⟨_, (pss_cons (ps_if (PW.pt (pw_or (pt_truK (K := K) rfl (pe_ix (ixK (K := K) rfl) (pv 0) pe_int (fun _ _ => rfl))) (pw_or1 (pt_cmpR (oEqK (K := K) rfl r) (pe_ix (ixK (K := K) rfl) (pv 0) pe_int (fun _ _ => rfl)) pe_int (nomark _)))))
       (pss_cons (ps_asg pe_bl (pg_sub (pv 0) pe_int sSet))
       (pss_one (ps_ret (d_tup (pa_cons (pe_cmpR (oEqK (K := K) rfl r) (pv 1) (d_lst (pa_cons pe_str (pa_cons pe_bl pa_nil))) (nomark _)) (pa_cons pe_bl pa_nil))))))
       pss_nil)
       (pss_cons (ps_if (pt_cmpR oIsn (pe_ix (ixK (K := K) rfl) (pv 0) pe_int (fun _ _ => rfl)) pe_non (nomark _))
       (pss_one (ps_asg (pe_op op_sub (pe_ix (ixK (K := K) rfl) (pv 0) pe_int (fun _ _ => rfl)) pe_int) (pg_sub (pv 0) pe_int sSet)))
       pss_nil)
       (pss_one (ps_ret (d_tup (pa_cons (pe_and (pe_cmpR (oEqK (K := K) rfl r) (pe_ix (ixK (K := K) rfl) (pv 1) pe_int (fun _ _ => rfl)) pe_str (nomark _)) (pe_one (pe_cmpR oIs (pe_ix (ixK (K := K) rfl) (pv 1) pe_int (fun _ _ => rfl)) pe_non (nomark _)))) (pa_cons pe_bl pa_nil))))))), ?_⟩
    try dsimp only [cxOf]
    refine x_start (σ' := [some _, some _]) rfl ?_
    have cut : (dd = true ∨ stepL lf = none) → ∀ S : Prop, (G q = some (.lst [.str "cut", .bl true]) → (∀ (G' H' : Hp) (r : Addr), Same G G' → Own G' H' (stL a n s w now syn wr lf true ++ R) → G' r = some (.tup [.bl true, .bl false]) → Q (.ref r) H') → S) → S := fun h S z => by
      rcases hq with ⟨_, e, q⟩ | ⟨lf', e1, e2, _⟩
      · exact z e q
      · rcases h with h | h
        · rw [e1] at h; cases h
        · rw [e2] at h; cases h
    walk_at "s"
    refine x_ixl (i := 4) (SqL.of (st_a O)) rfl ?_
    cases dd with
    | true =>
      walk_at "s"
      refine x_setl (st_a O) rfl (x_stA (lf' := lf) (dd' := true) O fun H1 O1 => ?_)
      refine cut (.inl rfl) _ fun eq q => ?_
      walk_at "s"
      refine ⟨by show 2 ≤ sizeLine; decide, x_fix O1 fun p2 G2 H2 s2 O2 e2 => ?_⟩
      refine eq2 (by decide +kernel) (O2.sub _ _ (s2 _ _ eq)) (O2.sub _ _ e2) (by decide +kernel) ?_
      walk_at "s"
      refine ⟨by show 2 ≤ sizeLine; decide, x_fix O2 fun p3 G3 H3 s3 O3 e3 => ?_⟩
      exact q G3 H3 p3 (s2.trans s3) O3 e3
    | false =>
      walk_at "s"
      refine x_ixl (i := 3) (SqL.of (st_a O)) rfl ?_
      match lf, O, hq, cut with
      | none, O, hq, _ =>
        rcases hq with ⟨h, _⟩ | ⟨lf', _, el, eq, q⟩
        · rcases h with h | h <;> cases h
        cases el
        walk_at "s"
        refine x_eq rfl ?_
        walk_at "s"
        refine ite_f ?_
        walk_at "s"
        refine x_ixl (i := 3) (SqL.of (st_a O)) rfl ?_
        walk_at "s"
        refine ite_b (fun c => absurd c (by decide)) (fun _ => ?_)
        walk_at "s"
        refine x_ixl (i := 0) (SqL.of (O.sub _ _ eq)) rfl ?_
        walk_at "s"
        refine x_eq rfl ?_
        rw [decide_eq_true rfl]
        walk_at "s"
        refine x_ixl (i := 1) (SqL.of (O.sub _ _ eq)) rfl ?_
        walk_at "s"
        refine ⟨by show 2 ≤ sizeLine; decide, x_fix O fun p3 G3 H3 s3 O3 e3 => ?_⟩
        exact q G3 H3 p3 s3 O3 e3
      | some 0, O, _, cut =>
        walk_at "s"
        refine x_eq rfl ?_
        walk_at "s"
        refine ite_t ?_
        walk_at "s"
        refine x_setl (st_a O) rfl (x_stA (lf' := some 0) (dd' := true) O fun H1 O1 => ?_)
        refine cut (.inr rfl) _ fun eq q => ?_
        walk_at "s"
        refine ⟨by show 2 ≤ sizeLine; decide, x_fix O1 fun p2 G2 H2 s2 O2 e2 => ?_⟩
        refine eq2 (by decide +kernel) (O2.sub _ _ (s2 _ _ eq)) (O2.sub _ _ e2) (by decide +kernel) ?_
        walk_at "s"
        refine ⟨by show 2 ≤ sizeLine; decide, x_fix O2 fun p3 G3 H3 s3 O3 e3 => ?_⟩
        exact q G3 H3 p3 (s2.trans s3) O3 e3
      | some (r + 1), O, hq, _ =>
        rcases hq with ⟨h, _⟩ | ⟨lf', _, el, eq, q⟩
        · rcases h with h | h <;> cases h
        cases el
        walk_at "s"
        refine x_eq rfl ?_
        have el : lfV (some (r + 1)) = V.int ((r + 1 : Nat) : Int) := rfl
        rw [el, int_eq]
        walk_at "s"
        refine ite_b (fun c => absurd (of_decide_eq_true c) (by omega)) (fun _ => ?_)
        walk_at "s"
        refine x_ixl (i := 3) (SqL.of (st_a O)) rfl ?_
        walk_at "s"
        rw [el]
        refine ite_b (fun _ => ?_) (fun c => absurd c (by rw [decide_eq_false (fun e => nomatch e)]; decide))
        walk_at "s"
        refine x_ixl (i := 3) (SqL.of (st_a O)) rfl ?_
        walk_at "s"
        refine ⟨_, 1, rfl, rfl, ?_⟩
        have en : ((r + 1 : Nat) : Int) - 1 = (r : Int) := by omega
        dsimp only
        rw [en]
        walk_at "s"
        refine x_setl (st_a O) rfl (x_stA (lf' := some r) (dd' := false) O fun H1 O1 => ?_)
        walk_at "s"
        refine x_ixl (i := 0) (SqL.of (O1.sub _ _ eq)) rfl ?_
        walk_at "s"
        refine x_eq rfl ?_
        rw [decide_eq_true rfl]
        walk_at "s"
        refine x_ixl (i := 1) (SqL.of (O1.sub _ _ eq)) rfl ?_
        walk_at "s"
        refine ⟨by show 2 ≤ sizeLine; decide, x_fix O1 fun p3 G3 H3 s3 O3 e3 => ?_⟩
        exact q G3 H3 p3 s3 O3 e3
end
end M85
set_option maxHeartbeats 4000000
namespace M85
open PySem PySem.Spec PyProof.Rows L2 G
local macro_rules | `(tactic| walk_at "hp") => `(tactic| first | assumption | exact Own.at0 (by assumption) | exact Own.at1 (by assumption) | exact Own.at2 (by assumption) | exact Own.at3 (by assumption) | exact Own.sub (by assumption) _ _ (by assumption) | exact upd_same)
local macro_rules | `(tactic| walk_at "hl") => `(tactic| first | assumption | exact SqL.of (by walk_at "hp") | exact Own.seq (by assumption) (by assumption) | exact Own.seq (by assumption) (SqL.of (by assumption)))
local macro_rules | `(tactic| walk_at "ht") => `(tactic| first | assumption | exact SqT.of (by walk_at "hp") | exact Own.set (by assumption) (by assumption) | exact Own.set (by assumption) (SqT.of (by assumption)))
local macro_rules | `(tactic| walk_at "n") => `(tactic| (intros; (try dsimp only [List.set, wipe, List.map, List.set_cons_succ, List.set_cons_zero]); (try exact rfl)))
local macro_rules | `(tactic| walk_at "n1") => `(tactic| with_reducible first | (refine x_asgN (σ' := ?s) ?hs ?q; (case hs => walk_at "n")) | (refine x_gN (σ' := ?s) ?hs ?q; (case hs => walk_at "n")) | (refine And.intro (show wipe _ _ = _ from (by walk_at "n")) ?_) | (refine x_parN (σ' := ?s) ?hs ?q; (case hs => walk_at "n")) | (refine x_par3N (σ' := ?s) ?hs ?q; (case hs => walk_at "n")))
local macro_rules | `(tactic| walk_at "v1") => `(tactic| ((with_reducible refine x_var (v := ?v) ?h ?q); (case h => first | exact rfl | assumption)))
local macro_rules | `(tactic| walk_at "s1") => `(tactic| with_reducible first | refine x_op ?_ | refine x_acons ?_ | refine x_c ?_ | refine x_call ?_ | refine x_anil ?_ | refine x_cb ?_ | refine x_seq ?_ | refine x_asgG ?_ | refine x_gC ?_ | refine x_gNl ?_ | refine x_ret ?_ | refine x_ifs ?_ | refine x_test ?_ | refine x_testb ?_ | refine x_and ?_ | refine x_or ?_ | refine x_andV ?_ | refine x_isB ?_ | refine x_add ?_ | refine x_lt ?_ | refine x_inti ?_ | refine x_isI ?_ | refine x_lst ?_ | refine x_tup ?_ | refine x_slice ?_ | refine x_nop ?_ | refine x_part ?_ | refine x_bm ?_ | refine x_sub ?_ | refine x_rI0 ?_ | refine x_drop ?_ | refine x_next ?_ | refine x_brk ?_ | refine x_cnt ?_ | refine x_par2 ?_ | refine x_par33 ?_ | refine x_un ?_ | refine x_rU ?_ | refine x_le ?_ | refine x_gt ?_ | refine x_ge ?_ | refine x_lts ?_ | refine x_intb ?_ | refine x_abs ?_ | refine x_tru ?_ | refine x_trub ?_ | refine x_trui ?_ | refine x_not ?_ | refine x_orV ?_ | refine x_notV ?_ | refine x_if ?_ | refine x_isN ?_ | refine x_isnN ?_ | refine x_dict ?_ | refine x_bm0 ?_ | refine x_revL ?_ | refine x_lcR ?_ | refine x_lcS ?_ | refine x_forR ?_ | refine x_forS ?_ | refine x_yes ?_ | refine ite_t ?_ | refine ite_f ?_)
local macro_rules | `(tactic| walk_at "s") => `(tactic| repeat (first | walk_at "v1" | walk_at "s1" | walk_at "n1"))
local macro_rules | `(tactic| walk_at "bd") => `(tactic| first | decide | omega | exact Nat.le_refl _)
local macro_rules | `(tactic| walk_at "ft") => `(tactic| first
  | with_reducible exact la_nil | with_reducible exact fa_nil | with_reducible exact ft_non | with_reducible exact ft_bl | with_reducible exact ft_dict | ((with_reducible refine ft_str (n := 10) (x := ?x) ?h); (case h => exact And.intro rfl (by decide))) | ((with_reducible refine ft_int (i := ?i) ?h); (case h => decide))
  | ((with_reducible refine ft_var (v := ?v) (m := ?m) (n := ?n) ?h ?f); (case h => exact rfl); (case f => assumption))
  | ((with_reducible refine fa_cons (m1 := ?a) (n1 := ?b) (m2 := ?c) (n2 := ?d) ?f ?g); (case f => walk_at "ft"); (case g => walk_at "ft"))
  | ((with_reducible refine ft_tup (m := ?m) (n := ?n) ?f ?h); (case f => walk_at "ft"); (case h => walk_at "bd"))
  | ((with_reducible refine ft_lst (m := ?m) (n := ?n) ?f ?h); (case f => walk_at "ft"); (case h => walk_at "bd"))
  | ((with_reducible refine la_cons (m1 := ?a) (n1 := ?b) (B := ?c) ?f ?g ?h ?i); (case f => walk_at "ft"); (case h => walk_at "bd"); (case i => walk_at "bd"); (case g => walk_at "ft"))
  | ((with_reducible refine lt_var (v := ?v) (m := ?m) (n := ?n) (B := ?b) ?h ?f); (case h => exact rfl); (case f => assumption))
  | ((with_reducible refine lt_add (B1 := ?a) (B2 := ?b) ?f ?g ?h); (case f => walk_at "ft"); (case g => walk_at "ft"); (case h => walk_at "bd"))
  | ((with_reducible refine ft_addsv (x := ?x) (m := ?m) (n := 10) ?h ?s ?a ?z); (case h => exact rfl); (case s => assumption); (case a => exact And.intro rfl (by decide)); (case z => decide))
  | ((with_reducible refine lt_lst ?f ?h); (case f => walk_at "ft"); (case h => walk_at "bd")))
local macro_rules | `(tactic| walk_at "s1") => `(tactic| with_reducible first | refine x_fld ?_ | refine x_sfld ?_ | refine x_m ?_ | refine x_mr ?_ | refine x_i ?_ | refine x_ir ?_ | refine x_gfld ?_ | refine x_mko ?_ | refine x_vei ?_ | refine x_ost ?_ | refine ite_nt ?_ | refine ite_nf ?_)
/-- one use -/
def useL (lf : Option Nat) (dd : Bool) : Option Nat × Bool := match dd, stepL lf with
  | true, _ => (lf, true)
  | false, none => (lf, true)
  | false, some l => (l, false)
theorem use_dead {lf : Option Nat} : useL lf true = (lf, true) := rfl
theorem use_none {lf : Option Nat} (h : stepL lf = none) : useL lf false = (lf, true) := by unfold useL; rw [h]
theorem use_some {lf l : Option Nat} (h : stepL lf = some l) : useL lf false = (l, false) := by unfold useL; rw [h]
section
variable {P : Program} {w : World} {K : PySem.W.Frag} {mg : Str → Option Value} {base : Heap} {k : Nat} {fa C D CB CT CM CF CP CC : Addr}
abbrev s__law_write_right : Stmt := top 34
theorem sc__law_write_right : FnScope ["box", "disk", "state", "by_name", "block", "text", "right", "done"] ["box", "disk", "state", "by_name"] (defScope s__law_write_right) := ⟨rfl, rfl, rfl, by decide +kernel, rfl, by decide +kernel, by decide +kernel⟩
def sp_wg (C : Addr) : Sp := fun vs H Q _ => ∃ (G : Hp) (R L : List (Addr × HO)) (b p a : Addr) (m j N : Nat) (lf : Option Nat) (dd : Bool) (bx : List V) (cn : Bool), vs = [.ref b, .ref p, .ref a, .bl cn] ∧ Own G H ((b, .lst bx) :: (L ++ R)) ∧ Pr C G p a m j lf dd L ∧ j ≤ 5000 ∧ Box (N + 6) bx ∧
  ∀ (G' H' : Hp) (L' : List (Addr × HO)) bx', Same G G' → Own G' H' ((b, .lst bx') :: (L' ++ R)) → Pr C G' p a m (j + 1) (useL lf dd).1 (useL lf dd).2 L' → Box N bx' → Q (.bl true) H'
theorem ok_wg {f : Addr} {fd : FuncData} (F : Fun K "_law_write_right" "_law_write_right" s__law_write_right f fd) (B : Bt mg) (C__law_take : Cal P w K mg base k "_law_take" ["box", "many"] sp_take) (C__law_text : Cal P w K mg base k "_law_text" ["box"] sp_lt)
    (C__law_uses : Cal P w K mg base k "_law_uses" ["state", "told"] sp_us) (C__law_write_told : Cal P w K mg base k "_law_write_told" ["disk", "block", "text", "by_name"] (sp_wt K C)) : FnG P w K mg base (k + 1) f fd ["box", "disk", "state", "by_name"] (sp_wg C) := by
  refine fnG_of F sc__law_write_right (fun vs H Q E h => ?_) (fun cdv A outer s H vs Q E r h => ?_)
  · obtain ⟨_, _, _, _, _, _, _, _, _, _, _, _, _, rfl, _⟩ := h
    rfl
  · obtain ⟨G, R, L, b, p, a, m, jj, N, lf, dd, bx, cn, rfl, O, ⟨dx, s, t, w, n, s2, w2, syn, now, ws, wr, wl, rfl, w1, wr1, ln, ls, m1, m8, tn, tsy, tw, lw⟩, hj5, bo, q⟩ := h
    refine ⟨_, (pss_cons (ps_par (i := 4) (j := 5) rfl sc__law_write_right.nd rfl rfl (by decide) rfl rfl (pa_cons (g_call C__law_take r (by rfl) passL (pa_cons (pv 0) (pa_cons (pe_callB (cLenK (K := K) rfl) (by rfl) B.len (by decide +kernel) (pa_cons (pe_ix (ixK (K := K) rfl) (pv 2) pe_int (fun _ _ => rfl)) pa_nil)) pa_nil))) (pa_cons (g_call C__law_text r (by rfl) passL (pa_cons (pv 0) pa_nil)) pa_nil)) (by rfl))
       (pss_cons (ps_asg (g_call C__law_uses r (by rfl) passL (pa_cons (pv 2) (pa_cons (g_call C__law_write_told r (by rfl) passL (pa_cons (pv 1) (pa_cons (pv 4) (pa_cons (pv 5) (pa_cons (pv 3) pa_nil))))) pa_nil))) (pg_tupK (K := K) (n := 2) rfl rfl (pgs_cons (pg_name (i := 6) sc__law_write_right.nd rfl (Or.inl rfl)) (pgs_cons (pg_name (i := 7) sc__law_write_right.nd rfl (Or.inl rfl)) pgs_nil))))
       (pss_cons (ps_if (pt_truK (K := K) rfl (pv 7))
       (pss_cons (ps_asg (pv 5) (pg_sub (pe_ix (ixK (K := K) rfl) (pv 2) pe_int (fun _ _ => rfl)) (pv 4) sSet))
       (pss_one (ps_expr (pe_bmK' (K := K) rfl PySem.F.plainAttrs_list PySem.F.slot_list_append PySem.F.type_list_append mApp (pe_ix (ixK (K := K) rfl) (pv 2) pe_int (fun _ _ => rfl)) (pa_cons (d_tup (pa_cons (pv 4) (pa_cons (pv 5) pa_nil))) pa_nil)))))
       pss_nil)
       (pss_one (ps_ret (pv 6)))))), ?_⟩
    try dsimp only [cxOf]
    refine x_start (σ' := [some _, some _, some _, some _, none, none, none, none]) rfl ?_
    have hws : ws.length = wl.length := w1.len
    have hwr : wr.length = wl.length := wr1.len
    have S0 := to_s O
    walk_at "s"
    refine x_ixl (i := 0) (SqL.of (st_a S0)) rfl ?_
    walk_at "s"
    refine x_lenl (SqL.of (st_n S0)) ?_
    refine ⟨G, _, b, now.length, N + 5, bx, rfl, O, bo, by omega, by omega, fun H1 r1 b1 r10 r11 O1 B1 => ?_⟩
    obtain ⟨i, rfl⟩ := Int.eq_ofNat_of_zero_le r10
    have hi : i < now.length := by omega
    walk_at "s"
    refine ⟨G, _, b, N, b1, rfl, O1, B1, fun G2 H2 x z b2 s2' hx lx O2 B2 => ?_⟩
    have tx := txv_str hx (Nat.le_trans lx (by decide))
    walk_at "s"
    refine ⟨G2, _, p, dx, s, t, w, m, lf, dd, .int (i : Int), .str x, .int (i : Int), .str x, syn, now, ws, cn, rfl, to_d O2, ln, .int _, .str x, Rp.int (by omega), Rp.bd (Bd.str (hx.st lx)) (by decide) (by decide), fun y e => by cases e; rw [hx.1]; omega, by omega,
      fun ed G4 H4 q4 s4 O4 e4 => ?_, fun ed cb => ?_, fun ed _ ct => ?_, fun i' x' ed e1 hi1 e2 ct el G4 H4 q4 s4 O4 e4 => ?_, fun i' x' lf' ed e1 hi1 e2 ct el G4 H4 a4 q4 s4 O4 ea e4 => ?_⟩
    · subst ed
      walk_at "s"
      refine ⟨G4, _, a, n, s2, w2, q4, now, syn, wr, lf, true, rfl, to_s (of_d O4), .inl ⟨.inl rfl, e4, fun G5 H5 r5 s5 O5 e5 => ?_⟩⟩
      refine x_gT (SqT.of (O5.sub _ _ e5)) rfl ?_
      refine x_gC ?_
      walk_at "n1"
      refine x_gC ?_
      walk_at "n1"
      refine x_gNl ?_
      walk_at "s"
      have sa := s2'.trans (s4.trans s5)
      exact q G5 H5 _ b2 sa (of_s O5) ⟨dx, s, t, w, n, s2, w2, syn, now, ws, wr, wl, rfl, w1.mono sa, wr1.mono sa, ln, ls, m1, m8, tn, tsy, tw, by omega⟩ B2
    · exact absurd cb (by simp only [ixB, Bool.and_eq_false_iff, decide_eq_false_iff_not]; omega)
    · rw [hx.text (Nat.le_trans lx (by decide))] at ct
      cases ct
    · subst ed
      rw [use_none el] at q
      walk_at "s"
      refine ⟨G4, _, a, n, s2, w2, q4, now, syn, wr, lf, false, rfl, to_s (of_d O4), .inl ⟨.inr el, e4, fun G5 H5 r5 s5 O5 e5 => ?_⟩⟩
      refine x_gT (SqT.of (O5.sub _ _ e5)) rfl ?_
      refine x_gC ?_
      walk_at "n1"
      refine x_gC ?_
      walk_at "n1"
      refine x_gNl ?_
      walk_at "s"
      have sa := s2'.trans (s4.trans s5)
      exact q G5 H5 _ b2 sa (of_s O5) ⟨dx, s, t, w, n, s2, w2, syn, now, ws, wr, wl, rfl, w1.mono sa, wr1.mono sa, ln, ls, m1, m8, tn, tsy, tw, by omega⟩ B2
    · subst ed
      obtain rfl : i = i' := by
        have e' := PyData.int.inj e1
        omega
      cases e2
      rw [use_some el] at q
      walk_at "s"
      refine ⟨G4, _, a, n, s2, w2, q4, now, syn, wr, lf, false, rfl, to_s (of_d O4), .inr ⟨lf', rfl, el, e4, fun G5 H5 r5 s5 O5 e5 => ?_⟩⟩
      refine x_gT (SqT.of (O5.sub _ _ e5)) rfl ?_
      refine x_gC ?_
      walk_at "n1"
      refine x_gC ?_
      walk_at "n1"
      refine x_gNl ?_
      walk_at "s"
      refine x_ixl (i := 0) (SqL.of (st_a O5)) rfl ?_
      walk_at "s"
      refine x_setl (st_n O5) (ixN_nat hi) (x_stN O5 fun H6 O6 => ?_)
      walk_at "s"
      refine x_ixl (i := 2) (SqL.of (st_a O6)) rfl ?_
      refine ⟨ty_l (SqL.of (st_w O6)), ?_⟩
      walk_at "s"
      refine ⟨by show 2 ≤ sizeLine; decide, x_fix O6 fun a7 G7 H7 s7 O7 e7 => ?_⟩
      walk_at "s"
      refine x_app (st_w O7) (lt_line (by omega)) (x_stW O7 fun H8 O8 => ?_)
      walk_at "s"
      have sb := s5.trans s7
      have sa := s2'.trans (s4.trans sb)
      exact q G7 H8 _ b2 sa (of_s O8) ⟨dx, s, t, w, n, s2, w2, syn, now.set i (.str x), ws ++ [.ref a4], wr ++ [.ref a7], wl ++ [(i, .str x)], rfl, wrt_snoc (w1.mono sa) (sb _ _ ea), wrt_snoc (wr1.mono sa) e7,
        by rw [List.length_set]; exact ln, ls, m1, m8, txv_set tn tx, tsy, wl_snoc tw (by omega) tx, by rw [List.length_append]; show _ + 1 ≤ _; omega⟩ B2
abbrev s__law_sync_right : Stmt := top 35
theorem sc__law_sync_right : FnScope ["disk", "state", "right", "done"] ["disk", "state"] (defScope s__law_sync_right) := ⟨rfl, rfl, rfl, by decide +kernel, rfl, by decide +kernel, by decide +kernel⟩
def sp_sg (C : Addr) : Sp := fun vs H Q _ => ∃ (G : Hp) (R L : List (Addr × HO)) (p a : Addr) (m j : Nat) (lf : Option Nat) (dd : Bool), vs = [.ref p, .ref a] ∧ Own G H (L ++ R) ∧ Pr C G p a m j lf dd L ∧
  ∀ (G' H' : Hp) (L' : List (Addr × HO)), Same G G' → Own G' H' (L' ++ R) → Pr C G' p a m j (useL lf dd).1 (useL lf dd).2 L' → Q (.bl true) H'
theorem ok_sg {f : Addr} {fd : FuncData} (F : Fun K "_law_sync_right" "_law_sync_right" s__law_sync_right f fd) (B : Bt mg) (C__law_uses : Cal P w K mg base k "_law_uses" ["state", "told"] sp_us) (C__law_sync_told : Cal P w K mg base k "_law_sync_told" ["disk"] (sp_st C)) :
    FnG P w K mg base (k + 1) f fd ["disk", "state"] (sp_sg C) := by
  refine fnG_of F sc__law_sync_right (fun vs H Q E h => ?_) (fun cdv A outer s H vs Q E r h => ?_)
  · obtain ⟨_, _, _, _, _, _, _, _, _, rfl, _⟩ := h
    rfl
  · obtain ⟨G, R, L, p, a, m, jj, lf, dd, rfl, O, ⟨dx, s, t, w, n, s2, w2, syn, now, ws, wr, wl, rfl, w1, wr1, ln, ls, m1, m8, tn, tsy, tw, lw⟩, q⟩ := h
    refine ⟨_, (pss_cons (ps_asg (g_call C__law_uses r (by rfl) passL (pa_cons (pv 1) (pa_cons (g_call C__law_sync_told r (by rfl) passL (pa_cons (pv 0) pa_nil)) pa_nil))) (pg_tupK (K := K) (n := 2) rfl rfl (pgs_cons (pg_name (i := 2) sc__law_sync_right.nd rfl (Or.inl rfl)) (pgs_cons (pg_name (i := 3) sc__law_sync_right.nd rfl (Or.inl rfl)) pgs_nil))))
       (pss_cons (ps_if (pt_truK (K := K) rfl (pv 3))
       (pss_one (ps_asg (d_tup (pa_cons (pe_callTy (cListK (K := K) rfl) (by rfl) B.list (by decide +kernel) (pa_cons (pe_ix (ixK (K := K) rfl) (pv 1) pe_int (fun _ _ => rfl)) pa_nil)) (pa_cons (d_lst pa_nil) pa_nil))) (pg_tupK (K := K) (n := 2) rfl rfl (pgs_cons (pg_sub (pv 1) pe_int sSet) (pgs_cons (pg_sub (pv 1) pe_int sSet) pgs_nil)))))
       pss_nil)
       (pss_one (ps_ret (pv 2))))), ?_⟩
    try dsimp only [cxOf]
    refine x_start (σ' := [some _, some _, none, none]) rfl ?_
    have O0 := ds_of O
    walk_at "s"
    refine ⟨G, _, p, dx, s, t, w, m, lf, dd, syn, now, ws, rfl, O0, fun ed G4 H4 q4 s4 O4 e4 => ?_, fun ed el G4 H4 q4 s4 O4 e4 => ?_, fun lf' ed el G4 H4 s' w' q4 s4 O4 e4 => ?_⟩
    · subst ed
      refine ⟨G4, _, a, n, s2, w2, q4, now, syn, wr, lf, true, rfl, Own.ab O4, .inl ⟨.inl rfl, e4, fun G5 H5 r5 s5 O5 e5 => ?_⟩⟩
      refine x_gT (SqT.of (O5.sub _ _ e5)) rfl ?_
      refine x_gC ?_
      walk_at "n1"
      refine x_gC ?_
      walk_at "n1"
      refine x_gNl ?_
      walk_at "s"
      have sa := s4.trans s5
      exact q G5 H5 _ sa (of_ds (Own.ab O5)) ⟨dx, s, t, w, n, s2, w2, syn, now, ws, wr, wl, rfl, w1.mono sa, wr1.mono sa, ln, ls, m1, m8, tn, tsy, tw, by omega⟩
    · subst ed
      rw [use_none el] at q
      refine ⟨G4, _, a, n, s2, w2, q4, now, syn, wr, lf, false, rfl, Own.ab O4, .inl ⟨.inr el, e4, fun G5 H5 r5 s5 O5 e5 => ?_⟩⟩
      refine x_gT (SqT.of (O5.sub _ _ e5)) rfl ?_
      refine x_gC ?_
      walk_at "n1"
      refine x_gC ?_
      walk_at "n1"
      refine x_gNl ?_
      walk_at "s"
      have sa := s4.trans s5
      exact q G5 H5 _ sa (of_ds (Own.ab O5)) ⟨dx, s, t, w, n, s2, w2, syn, now, ws, wr, wl, rfl, w1.mono sa, wr1.mono sa, ln, ls, m1, m8, tn, tsy, tw, by omega⟩
    · subst ed
      rw [use_some el] at q
      refine ⟨G4, _, a, n, s2, w2, q4, now, syn, wr, lf, false, rfl, Own.ab O4, .inr ⟨lf', rfl, el, e4, fun G5 H5 r5 s5 O5 e5 => ?_⟩⟩
      refine x_gT (SqT.of (O5.sub _ _ e5)) rfl ?_
      refine x_gC ?_
      walk_at "n1"
      refine x_gC ?_
      walk_at "n1"
      refine x_gNl ?_
      walk_at "s"
      refine x_ixl (i := 0) (SqL.of (st_a O5)) rfl ?_
      walk_at "s"
      refine x_listL (SqL.of (st_n O5)) (x_new O5 fun s9 H6 O6 => ?_)
      walk_at "s"
      refine ⟨by show 0 ≤ sizeLine; decide, x_new O6 fun w9 H7 O7 => ?_⟩
      walk_at "s"
      refine ⟨by show 2 ≤ sizeLine; decide, x_fix O7 fun p8 G8 H8 s8 O8 e8 => ?_⟩
      refine x_gT (SqT.of (O8.sub _ _ e8)) rfl ?_
      refine x_gC ?_
      walk_at "s"
      refine x_setl (Own.in_ (A := [_, _]) O8) rfl (x_mdA (A := [_, _]) O8 fun H9 O9 => ?_)
      refine x_gC ?_
      walk_at "s"
      refine x_setl (Own.in_ (A := [_, _]) O9) rfl (x_mdA (A := [_, _]) O9 fun Ha Oa => ?_)
      refine x_gNl ?_
      have S7 : Own G8 Ha (stL a n s9 w9 now now [] lf' false ++ (dkL C p dx s' t w' m lf' false now now [] ++ R)) := Own.putAt (A := [_, _]) (Own.putAt (A := [_, _, _]) (Own.dropAt (A := [_, _, _, _]) (Own.dropAt (A := [_, _, _, _]) Oa)))
      walk_at "s"
      have sa := s4.trans (s5.trans s8)
      exact q G8 Ha _ sa (of_ds (Own.ab S7)) ⟨dx, s', t, w', n, s9, w9, now, now, [], [], [], rfl, .nil, .nil, ln, ln, m1, m8, tn, tn, (fun _ z => nomatch z), Nat.zero_le _⟩
end
end M85
set_option maxHeartbeats 4000000
namespace M85
open PySem PySem.Spec PyProof.Rows L2 G
local macro_rules | `(tactic| walk_at "hp") => `(tactic| first | assumption | exact Own.at0 (by assumption) | exact Own.at1 (by assumption) | exact Own.at2 (by assumption) | exact Own.at3 (by assumption) | exact Own.sub (by assumption) _ _ (by assumption) | exact upd_same)
local macro_rules | `(tactic| walk_at "hl") => `(tactic| first | assumption | exact SqL.of (by walk_at "hp") | exact Own.seq (by assumption) (by assumption) | exact Own.seq (by assumption) (SqL.of (by assumption)))
local macro_rules | `(tactic| walk_at "ht") => `(tactic| first | assumption | exact SqT.of (by walk_at "hp") | exact Own.set (by assumption) (by assumption) | exact Own.set (by assumption) (SqT.of (by assumption)))
local macro_rules | `(tactic| walk_at "n") => `(tactic| (intros; (try dsimp only [List.set, wipe, List.map, List.set_cons_succ, List.set_cons_zero]); (try exact rfl)))
local macro_rules | `(tactic| walk_at "n1") => `(tactic| with_reducible first | (refine x_asgN (σ' := ?s) ?hs ?q; (case hs => walk_at "n")) | (refine x_gN (σ' := ?s) ?hs ?q; (case hs => walk_at "n")) | (refine And.intro (show wipe _ _ = _ from (by walk_at "n")) ?_) | (refine x_parN (σ' := ?s) ?hs ?q; (case hs => walk_at "n")) | (refine x_par3N (σ' := ?s) ?hs ?q; (case hs => walk_at "n")))
local macro_rules | `(tactic| walk_at "v1") => `(tactic| ((with_reducible refine x_var (v := ?v) ?h ?q); (case h => first | exact rfl | assumption)))
local macro_rules | `(tactic| walk_at "s1") => `(tactic| with_reducible first | refine x_op ?_ | refine x_acons ?_ | refine x_c ?_ | refine x_call ?_ | refine x_anil ?_ | refine x_cb ?_ | refine x_seq ?_ | refine x_asgG ?_ | refine x_gC ?_ | refine x_gNl ?_ | refine x_ret ?_ | refine x_ifs ?_ | refine x_test ?_ | refine x_testb ?_ | refine x_and ?_ | refine x_or ?_ | refine x_andV ?_ | refine x_isB ?_ | refine x_add ?_ | refine x_lt ?_ | refine x_inti ?_ | refine x_isI ?_ | refine x_lst ?_ | refine x_tup ?_ | refine x_slice ?_ | refine x_nop ?_ | refine x_part ?_ | refine x_bm ?_ | refine x_sub ?_ | refine x_rI0 ?_ | refine x_drop ?_ | refine x_next ?_ | refine x_brk ?_ | refine x_cnt ?_ | refine x_par2 ?_ | refine x_par33 ?_ | refine x_un ?_ | refine x_rU ?_ | refine x_le ?_ | refine x_gt ?_ | refine x_ge ?_ | refine x_lts ?_ | refine x_intb ?_ | refine x_abs ?_ | refine x_tru ?_ | refine x_trub ?_ | refine x_trui ?_ | refine x_not ?_ | refine x_orV ?_ | refine x_notV ?_ | refine x_if ?_ | refine x_isN ?_ | refine x_isnN ?_ | refine x_dict ?_ | refine x_bm0 ?_ | refine x_revL ?_ | refine x_lcR ?_ | refine x_lcS ?_ | refine x_forR ?_ | refine x_forS ?_ | refine x_yes ?_ | refine ite_t ?_ | refine ite_f ?_)
local macro_rules | `(tactic| walk_at "s") => `(tactic| repeat (first | walk_at "v1" | walk_at "s1" | walk_at "n1"))
local macro_rules | `(tactic| walk_at "bd") => `(tactic| first | decide | omega | exact Nat.le_refl _)
local macro_rules | `(tactic| walk_at "ft") => `(tactic| first
  | with_reducible exact la_nil | with_reducible exact fa_nil | with_reducible exact ft_non | with_reducible exact ft_bl | with_reducible exact ft_dict | ((with_reducible refine ft_str (n := 10) (x := ?x) ?h); (case h => exact And.intro rfl (by decide))) | ((with_reducible refine ft_int (i := ?i) ?h); (case h => decide))
  | ((with_reducible refine ft_var (v := ?v) (m := ?m) (n := ?n) ?h ?f); (case h => exact rfl); (case f => assumption))
  | ((with_reducible refine fa_cons (m1 := ?a) (n1 := ?b) (m2 := ?c) (n2 := ?d) ?f ?g); (case f => walk_at "ft"); (case g => walk_at "ft"))
  | ((with_reducible refine ft_tup (m := ?m) (n := ?n) ?f ?h); (case f => walk_at "ft"); (case h => walk_at "bd"))
  | ((with_reducible refine ft_lst (m := ?m) (n := ?n) ?f ?h); (case f => walk_at "ft"); (case h => walk_at "bd"))
  | ((with_reducible refine la_cons (m1 := ?a) (n1 := ?b) (B := ?c) ?f ?g ?h ?i); (case f => walk_at "ft"); (case h => walk_at "bd"); (case i => walk_at "bd"); (case g => walk_at "ft"))
  | ((with_reducible refine lt_var (v := ?v) (m := ?m) (n := ?n) (B := ?b) ?h ?f); (case h => exact rfl); (case f => assumption))
  | ((with_reducible refine lt_add (B1 := ?a) (B2 := ?b) ?f ?g ?h); (case f => walk_at "ft"); (case g => walk_at "ft"); (case h => walk_at "bd"))
  | ((with_reducible refine ft_addsv (x := ?x) (m := ?m) (n := 10) ?h ?s ?a ?z); (case h => exact rfl); (case s => assumption); (case a => exact And.intro rfl (by decide)); (case z => decide))
  | ((with_reducible refine lt_lst ?f ?h); (case f => walk_at "ft"); (case h => walk_at "bd")))
local macro_rules | `(tactic| walk_at "s1") => `(tactic| with_reducible first | refine x_fld ?_ | refine x_sfld ?_ | refine x_m ?_ | refine x_mr ?_ | refine x_i ?_ | refine x_ir ?_ | refine x_gfld ?_ | refine x_mko ?_ | refine x_vei ?_ | refine x_ost ?_ | refine ite_nt ?_ | refine ite_nf ?_)
theorem rp0 {d : PyData} (h : Bd 0 0 d) : Rp d := Rp.bd h (by decide) (by decide)
section
variable {P : Program} {w : World} {K : PySem.W.Frag} {mg : Str → Option Value} {base : Heap} {k : Nat} {fa C D CB CT CM CF CP CC : Addr}
theorem lf_dt {H : Hp} {lf : Option Nat} : ∃ d, Dt K H (lfV lf) d ∧ tyN d ≠ "list" ∧ cntB d = some lf := by
  cases lf with
  | none => exact ⟨.none, .non, by decide, rfl⟩
  | some n => exact ⟨.int n, .int n, by show ("int" : String) ≠ "list"; decide, by simp only [cntB]; rw [if_pos (by omega), Int.toNat_natCast]⟩
abbrev s__law_limit_right : Stmt := top 36
theorem sc__law_limit_right : FnScope ["box", "disk", "state", "by_name", "count", "told"] ["box", "disk", "state", "by_name"] (defScope s__law_limit_right) := ⟨rfl, rfl, rfl, by decide +kernel, rfl, by decide +kernel, by decide +kernel⟩
def sp_lg (C : Addr) : Sp := fun vs H Q _ => ∃ (G : Hp) (R L : List (Addr × HO)) (b p a : Addr) (m j N : Nat) (lf : Option Nat) (dd : Bool) (bx : List V) (cn : Bool), vs = [.ref b, .ref p, .ref a, .bl cn] ∧ Own G H ((b, .lst bx) :: (L ++ R)) ∧ Pr C G p a m j lf dd L ∧ Box (N + 3) bx ∧
  ∀ (G' H' : Hp) (L' : List (Addr × HO)) (lf' : Option Nat) bx', Same G G' → Own G' H' ((b, .lst bx') :: (L' ++ R)) → Pr C G' p a m j lf' dd L' → Box N bx' → Q (.bl true) H'
theorem ok_lg {f : Addr} {fd : FuncData} (F : Fun K "_law_limit_right" "_law_limit_right" s__law_limit_right f fd) (B : Bt mg) (C__law_take : Cal P w K mg base k "_law_take" ["box", "many"] sp_take)
    (C__law_limit_told : Cal P w K mg base k "_law_limit_told" ["disk", "count", "by_name"] (sp_ll K C)) : FnG P w K mg base (k + 1) f fd ["box", "disk", "state", "by_name"] (sp_lg C) := by
  refine fnG_of F sc__law_limit_right (fun vs H Q E h => ?_) (fun cdv A outer s H vs Q E r h => ?_)
  · obtain ⟨_, _, _, _, _, _, _, _, _, _, _, _, _, rfl, _⟩ := h
    rfl
  · obtain ⟨G, R, L, b, p, a, m, jj, N, lf, dd, bx, cn, rfl, O, ⟨dx, s, t, w, n, s2, w2, syn, now, ws, wr, wl, rfl, w1, wr1, ln, ls, m1, m8, tn, tsy, tw, lw⟩, bo, q⟩ := h
    refine ⟨_, (pss_cons (ps_set (i := 4) sc__law_limit_right.nd rfl (Or.inl rfl) (pe_ix (ixK (K := K) rfl) (d_lst (pa_cons pe_int (pa_cons pe_int (pa_cons pe_int (pa_cons pe_int (pa_cons pe_int (pa_cons pe_int (pa_cons pe_non (pa_cons pe_int pa_nil))))))))) (g_call C__law_take r (by rfl) passL (pa_cons (pv 0) (pa_cons pe_int pa_nil))) (fun _ _ => rfl)))
       (pss_cons (ps_if (pt_cmpR (oEqK (K := K) rfl r) (g_call C__law_take r (by rfl) passL (pa_cons (pv 0) (pa_cons pe_int pa_nil))) pe_int (nomark _))
       (pss_cons (ps_set (i := 4) sc__law_limit_right.nd rfl (Or.inl rfl) (pe_ix (ixK (K := K) rfl) (d_lst (pa_cons (pe_un un_neg pe_int) (pa_cons pe_bl (pa_cons pe_bl (pa_cons pe_str (pa_cons (d_tup (pa_cons pe_int pa_nil)) (pa_cons (d_lst (pa_cons pe_int pa_nil)) (pa_cons d_dict (pa_cons pe_str (pa_cons (pe_un un_neg (pe_op op_pow pe_int pe_int)) (pa_cons (d_lst pa_nil) pa_nil))))))))))) (g_call C__law_take r (by rfl) passL (pa_cons (pv 0) (pa_cons pe_int pa_nil))) (fun _ _ => rfl)))
       (pss_one (ps_ret (pe_cmpR (oEqK (K := K) rfl r) (g_call C__law_limit_told r (by rfl) passL (pa_cons (pv 1) (pa_cons (pv 4) (pa_cons (pv 3) pa_nil)))) (pe_ix (ixK (K := K) rfl) (d_lst (pa_cons (d_lst (pa_cons pe_str (pa_cons pe_bl pa_nil))) (pa_cons (d_lst (pa_cons pe_str (pa_cons pe_bl pa_nil))) pa_nil))) (pe_callTy cInt (by rfl) B.int (by decide +kernel) (pa_cons (pe_ix (ixK (K := K) rfl) (pv 2) pe_int (fun _ _ => rfl)) pa_nil)) (fun _ _ => rfl)) (nomark _)))))
       pss_nil)
       (pss_cons (ps_set (i := 5) sc__law_limit_right.nd rfl (Or.inl rfl) (g_call C__law_limit_told r (by rfl) passL (pa_cons (pv 1) (pa_cons (pv 4) (pa_cons (pv 3) pa_nil)))))
       (pss_cons (ps_if (pt_truK (K := K) rfl (pe_ix (ixK (K := K) rfl) (pv 2) pe_int (fun _ _ => rfl)))
       (pss_one (ps_ret (pe_cmpR (oEqK (K := K) rfl r) (pv 5) (d_lst (pa_cons pe_str (pa_cons pe_bl pa_nil))) (nomark _))))
       pss_nil)
       (pss_cons (ps_asg (pv 4) (pg_sub (pv 2) pe_int sSet))
       (pss_one (ps_ret (pe_and (pe_cmpR (oEqK (K := K) rfl r) (pe_ix (ixK (K := K) rfl) (pv 5) pe_int (fun _ _ => rfl)) pe_str (nomark _)) (pe_one (pe_cmpR oIs (pe_ix (ixK (K := K) rfl) (pv 5) pe_int (fun _ _ => rfl)) pe_non (nomark _))))))))))), ?_⟩
    try dsimp only [cxOf]
    refine x_start (σ' := [some _, some _, some _, some _, none, none]) rfl ?_
    have mk : ∀ (G' : Hp) (lf' : Option Nat), Same G G' → Pr C G' p a m jj lf' dd (dkL C p dx s t w m lf' dd syn now ws ++ stL a n s2 w2 now syn wr lf' dd) := fun G' lf' s' => ⟨dx, s, t, w, n, s2, w2, syn, now, ws, wr, wl, rfl, w1.mono s', wr1.mono s', ln, ls, m1, m8, tn, tsy, tw, lw⟩
    walk_at "s"
    refine ⟨by show 8 ≤ sizeLine; decide, x_fix O fun p1 G1 H1 s1 O1 e1 => ?_⟩
    walk_at "s"
    refine ⟨G1, _, b, 8, N + 2, bx, rfl, O1, bo, by decide, by decide, fun H2 r2 b2 r20 r21 O2 B2 => ?_⟩
    obtain ⟨lf1, el1⟩ : ∃ lf1 : Option Nat, atI [V.int 0, V.int 1, V.int 2, V.int 3, V.int 4, V.int 6, V.non, V.int 5] r2 = some (lfV lf1) := by
      obtain ⟨j, rfl⟩ := Int.eq_ofNat_of_zero_le r20
      rcases (show j = 0 ∨ j = 1 ∨ j = 2 ∨ j = 3 ∨ j = 4 ∨ j = 5 ∨ j = 6 ∨ j = 7 by omega) with rfl | rfl | rfl | rfl | rfl | rfl | rfl | rfl
      · exact ⟨some 0, rfl⟩
      · exact ⟨some 1, rfl⟩
      · exact ⟨some 2, rfl⟩
      · exact ⟨some 3, rfl⟩
      · exact ⟨some 4, rfl⟩
      · exact ⟨some 6, rfl⟩
      · exact ⟨none, rfl⟩
      · exact ⟨some 5, rfl⟩
    refine x_ixl (SqL.of (O2.sub _ _ e1)) el1 ?_
    walk_at "s"
    refine ⟨G1, _, b, 3, N + 1, b2, rfl, O2, B2, by decide, by decide, fun H3 r3 b3 r30 r31 O3 B3 => ?_⟩
    walk_at "s"
    refine x_eq rfl ?_
    rw [int_eq]
    walk_at "s"
    refine ite_b (fun c => ?_) (fun c => ?_)
    · refine x_seq (x_asgG (x_eval (fun v' H' => ∃ (G' : Hp) (d : PyData) (L0 : List (Addr × HO)) (bx' : List V), Same G G' ∧ Own G' H' ((b, .lst bx') :: (L0 ++ ((dkL C p dx s t w m lf dd syn now ws ++ stL a n s2 w2 now syn wr lf dd) ++ R))) ∧ Val K G' v' d L0 ∧ Rv d ∧ cntB d = none ∧ Box N bx') (fun Q2 fin2 => ?_) ?_))
      · walk_at "s"
        refine ⟨by show 1 ≤ sizeLine; decide, x_fix O3 fun p4 G4 H4 s4 O4 e4 => ?_⟩
        walk_at "s"
        refine ⟨by show 1 ≤ sizeLine; decide, x_new O4 fun p5 H5 O5 => ?_⟩
        walk_at "s"
        refine x_fix O5 fun p6 G6 H6 s6 O6 e6 => ?_
        walk_at "s"
        refine x_rI ⟨by decide, by decide, by decide⟩ ?_
        walk_at "s"
        refine ⟨by show 0 ≤ sizeLine; decide, x_new O6 fun p7 H7 O7 => ?_⟩
        walk_at "s"
        refine ⟨by show 10 ≤ sizeLine; decide, x_fix O7 fun p8 G8 H8 s8 O8 e8 => ?_⟩
        walk_at "s"
        have Oa : Own G8 H8 ((b, .lst b3) :: (p7, .lst []) :: (p5, .lst [V.int 1]) :: ((dkL C p dx s t w m lf dd syn now ws ++ stL a n s2 w2 now syn wr lf dd) ++ R)) := Own.frontAt (A := [_, _]) O8
        refine ⟨G8, _, b, 10, N, b3, rfl, Oa, B3, by decide, by decide, fun H9 r9 b9 r90 r91 O9 B9 => ?_⟩
        have sG := s1.trans (s4.trans (s6.trans s8))
        have Ob : Own G8 H9 ((b, .lst b9) :: ((dkL C p dx s t w m lf dd syn now ws ++ stL a n s2 w2 now syn wr lf dd) ++ R)) := Own.dropAt (A := [_]) (Own.dropAt (A := [_]) O9)
        have O5' : Own G8 H9 ((b, .lst b9) :: ([(p5, .lst [V.int 1])] ++ ((dkL C p dx s t w m lf dd syn now ws ++ stL a n s2 w2 now syn wr lf dd) ++ R))) := Own.dropAt (A := [_]) O9
        have O7' : Own G8 H9 ((b, .lst b9) :: ([(p7, .lst [])] ++ ((dkL C p dx s t w m lf dd syn now ws ++ stL a n s2 w2 now syn wr lf dd) ++ R))) := Own.dropAt (A := [_, _]) O9
        have flat : ∀ (v : V) (d : PyData), Dt K G8 v d → tyN d ≠ "list" → Rp d → cntB d = none → Q2 v H9 := fun v d h1 h2 h3 h4 => fin2 _ _ ⟨G8, d, [], b9, sG, Ob, val_flat h1 h2, Rv.of h3 h2, h4, B9⟩
        have hq := SqL.of (K := K) (O9.sub _ _ e8)
        obtain ⟨j, rfl⟩ := Int.eq_ofNat_of_zero_le r90
        rcases (show j = 0 ∨ j = 1 ∨ j = 2 ∨ j = 3 ∨ j = 4 ∨ j = 5 ∨ j = 6 ∨ j = 7 ∨ j = 8 ∨ j = 9 by omega) with rfl | rfl | rfl | rfl | rfl | rfl | rfl | rfl | rfl | rfl
        · exact x_ixl hq rfl (flat _ _ (.int (-1)) (by decide) (Rp.int (by decide)) rfl)
        · exact x_ixl hq rfl (flat _ _ (.bl true) (by decide) (rp0 ⟨rfl, Nat.le_refl _, Nat.le_refl _⟩) rfl)
        · exact x_ixl hq rfl (flat _ _ (.bl false) (by decide) (rp0 ⟨rfl, Nat.le_refl _, Nat.le_refl _⟩) rfl)
        · exact x_ixl hq rfl (flat _ _ (.str "1") (by decide) (Rp.bd (Bd.str (n := 1) ⟨rfl, by decide⟩) (by decide) (by decide)) rfl)
        · exact x_ixl hq rfl (flat _ (.tuple [.int 1]) (.tup (SqT.of ((s6.trans s8) _ _ e4)) (.cons (.int 1) .nil)) (by decide) (Rp.bd (m := 2) (n := 20) ⟨rfl, by decide, by decide⟩ (by decide) (by decide)) rfl)
        · refine x_ixl hq rfl (fin2 _ _ ⟨G8, .list [.int 1], [(p5, .lst [V.int 1])], b9, sG, O5', .inr ⟨_, _, _, rfl, rfl, rfl, .cons (.int 1) .nil, by show 1 ≤ 1000; decide⟩, ⟨Rp.bd (m := 2) (n := 20) ⟨rfl, by decide, by decide⟩ (by decide) (by decide), fun ds e => ?_⟩, rfl, B9⟩)
          cases e
          exact Rp.bd (m := 2) (n := 40) ⟨rfl, by decide, by decide⟩ (by decide) (by decide)
        · exact x_ixl hq rfl (flat _ (.dict []) (.dic (kvs := []) (s8 _ _ e6) .nil .nil) (by decide) (Rp.bd (m := 2) (n := 10) ⟨rfl, by decide, by decide⟩ (by decide) (by decide)) rfl)
        · exact x_ixl hq rfl (flat _ _ (.str "") (by decide) (Rp.bd (Bd.str (n := 0) ⟨rfl, by decide⟩) (by decide) (by decide)) rfl)
        · exact x_ixl hq rfl (flat _ (.int (-(10 ^ 19))) (.int _) (by decide) ⟨by decide +kernel, Nat.le_trans (show (PyData.shown (.int (-(10 ^ 19)))).length ≤ 100 by decide +kernel) (by decide), by decide⟩ (by decide +kernel))
        · refine x_ixl hq rfl (fin2 _ _ ⟨G8, .list [], [(p7, .lst [])], b9, sG, O7', .inr ⟨_, _, _, rfl, rfl, rfl, .nil, by show 0 ≤ 1000; decide⟩, ⟨Rp.bd BdL.nil.lst (by decide) (by decide), fun ds e => ?_⟩, rfl, B9⟩)
          cases e
          exact Rp.bd (BdL.cons (Bd.str (n := 4) ⟨rfl, by decide⟩) BdL.nil).lst (by decide) (by decide)
      · rintro v H4 ⟨G4, d, L0, b4, s4, O4, hv, rv, hc, B4⟩
        walk_at "s"
        have O4' : Own G4 H4 (dkL C p dx s t w m lf dd syn now ws ++ (L0 ++ ((b, .lst b4) :: (stL a n s2 w2 now syn wr lf dd ++ R)))) := by
          rw [List.append_assoc] at O4
          exact (Own.c3 (A := L0) (B := [(b, .lst b4)]) (C := dkL C p dx s t w m lf dd syn now ws) (Own.c1 (A := [(b, .lst b4)]) (B := L0) (C := dkL C p dx s t w m lf dd syn now ws) O4).rab).c1
        refine ⟨G4, _, L0, p, dx, s, t, w, m, lf, dd, v, d, syn, now, ws, cn, rfl, O4', hv, rv, fun ed G5 H5 q5 s5 O5 e5 => ?_, fun lf' ed el => ?_, fun ed el G5 H5 q5 s5 O5 e5 => ?_⟩
        · subst ed
          walk_at "s"
          refine ⟨by show 2 ≤ sizeLine; decide, x_fix O5 fun p6 G6 H6 s6 O6 e6 => ?_⟩
          walk_at "s"
          refine ⟨by show 2 ≤ sizeLine; decide, x_fix O6 fun p7 G7 H7 s7 O7 e7 => ?_⟩
          walk_at "s"
          refine ⟨by show 2 ≤ sizeLine; decide, x_fix O7 fun p8 G8 H8 s8 O8 e8 => ?_⟩
          walk_at "s"
          refine x_ixl (i := 4) (SqL.of (st_a (to_s (of_d O8)))) rfl ?_
          refine .inr ⟨true, rfl, ?_⟩
          refine x_ixl (i := 1) (SqL.of (O8.sub _ _ e8)) rfl ?_
          exact eq2 (by decide +kernel) (O8.sub _ _ ((s6.trans (s7.trans s8)) _ _ e5)) (O8.sub _ _ (s8 _ _ e7)) (by decide +kernel) (q G8 H8 _ lf b4 (s4.trans (s5.trans (s6.trans (s7.trans s8)))) (of_d O8) (mk _ _ (s4.trans (s5.trans (s6.trans (s7.trans s8))))) B4)
        · rw [hc] at el
          cases el
        · subst ed
          walk_at "s"
          refine ⟨by show 2 ≤ sizeLine; decide, x_fix O5 fun p6 G6 H6 s6 O6 e6 => ?_⟩
          walk_at "s"
          refine ⟨by show 2 ≤ sizeLine; decide, x_fix O6 fun p7 G7 H7 s7 O7 e7 => ?_⟩
          walk_at "s"
          refine ⟨by show 2 ≤ sizeLine; decide, x_fix O7 fun p8 G8 H8 s8 O8 e8 => ?_⟩
          walk_at "s"
          refine x_ixl (i := 4) (SqL.of (st_a (to_s (of_d O8)))) rfl ?_
          refine .inr ⟨false, rfl, ?_⟩
          refine x_ixl (i := 0) (SqL.of (O8.sub _ _ e8)) rfl ?_
          exact eq2 (by decide +kernel) (O8.sub _ _ ((s6.trans (s7.trans s8)) _ _ e5)) (O8.sub _ _ ((s7.trans s8) _ _ e6)) (by decide +kernel) (q G8 H8 _ lf b4 (s4.trans (s5.trans (s6.trans (s7.trans s8)))) (of_d O8) (mk _ _ (s4.trans (s5.trans (s6.trans (s7.trans s8))))) B4)
    · walk_at "s"
      obtain ⟨d, hd, td, cd⟩ := lf_dt (K := K) (H := G1) (lf := lf1)
      have rd : Rp d := by
        obtain ⟨j, rfl⟩ := Int.eq_ofNat_of_zero_le r20
        rcases (show j = 0 ∨ j = 1 ∨ j = 2 ∨ j = 3 ∨ j = 4 ∨ j = 5 ∨ j = 6 ∨ j = 7 by omega) with rfl | rfl | rfl | rfl | rfl | rfl | rfl | rfl
        all_goals
          have e0 := Option.some.inj el1
          rw [← e0] at hd
          cases hd
          first | exact Rp.int (by decide) | exact rp0 ⟨rfl, Nat.le_refl _, Nat.le_refl _⟩
      refine ⟨G1, _, [], p, dx, s, t, w, m, lf, dd, lfV lf1, d, syn, now, ws, cn, rfl, to_d O3, val_flat hd td, Rv.of rd td, fun ed G5 H5 q5 s5 O5 e5 => ?_, fun lf' ed el G5 H5 q5 s5 O5 e5 => ?_, fun ed el => ?_⟩
      · subst ed
        walk_at "s"
        refine x_ixl (i := 4) (SqL.of (st_a (to_s (of_d O5)))) rfl ?_
        walk_at "s"
        refine ⟨by show 2 ≤ sizeLine; decide, x_fix O5 fun p6 G6 H6 s6 O6 e6 => ?_⟩
        exact eq2 (by decide +kernel) (O6.sub _ _ (s6 _ _ e5)) (O6.sub _ _ e6) (by decide +kernel) (q G6 H6 _ lf b3 (s1.trans (s5.trans s6)) (of_d O6) (mk _ _ (s1.trans (s5.trans s6))) (B3.le (by omega)))
      · subst ed
        obtain rfl : lf1 = lf' := by
          rw [cd] at el
          cases el
          rfl
        walk_at "s"
        have S5 := to_s (of_d O5)
        refine x_ixl (i := 4) (SqL.of (st_a S5)) rfl ?_
        walk_at "s"
        refine x_setl (st_a S5) rfl (x_stA (lf' := lf1) (dd' := false) S5 fun H6 S6 => ?_)
        walk_at "s"
        refine x_ixl (i := 0) (SqL.of (S6.sub _ _ e5)) rfl ?_
        walk_at "s"
        refine x_eq rfl ?_
        rw [decide_eq_true rfl]
        walk_at "s"
        refine x_ixl (i := 1) (SqL.of (S6.sub _ _ e5)) rfl ?_
        walk_at "s"
        rw [decide_eq_true rfl]
        exact q G5 H6 _ lf1 b3 (s1.trans s5) (of_s S6) (mk _ _ (s1.trans s5)) (B3.le (by omega))
      · rw [cd] at el
        cases el
end
end M85
set_option maxHeartbeats 4000000
namespace M85
open PySem PySem.Spec PyProof.Rows L2 G
local macro_rules | `(tactic| walk_at "hp") => `(tactic| first | assumption | exact Own.at0 (by assumption) | exact Own.at1 (by assumption) | exact Own.at2 (by assumption) | exact Own.at3 (by assumption) | exact Own.sub (by assumption) _ _ (by assumption) | exact upd_same)
local macro_rules | `(tactic| walk_at "hl") => `(tactic| first | assumption | exact SqL.of (by walk_at "hp") | exact Own.seq (by assumption) (by assumption) | exact Own.seq (by assumption) (SqL.of (by assumption)))
local macro_rules | `(tactic| walk_at "ht") => `(tactic| first | assumption | exact SqT.of (by walk_at "hp") | exact Own.set (by assumption) (by assumption) | exact Own.set (by assumption) (SqT.of (by assumption)))
local macro_rules | `(tactic| walk_at "n") => `(tactic| (intros; (try dsimp only [List.set, wipe, List.map, List.set_cons_succ, List.set_cons_zero]); (try exact rfl)))
local macro_rules | `(tactic| walk_at "n1") => `(tactic| with_reducible first | (refine x_asgN (σ' := ?s) ?hs ?q; (case hs => walk_at "n")) | (refine x_gN (σ' := ?s) ?hs ?q; (case hs => walk_at "n")) | (refine And.intro (show wipe _ _ = _ from (by walk_at "n")) ?_) | (refine x_parN (σ' := ?s) ?hs ?q; (case hs => walk_at "n")) | (refine x_par3N (σ' := ?s) ?hs ?q; (case hs => walk_at "n")))
local macro_rules | `(tactic| walk_at "v1") => `(tactic| ((with_reducible refine x_var (v := ?v) ?h ?q); (case h => first | exact rfl | assumption)))
local macro_rules | `(tactic| walk_at "s1") => `(tactic| with_reducible first | refine x_op ?_ | refine x_acons ?_ | refine x_c ?_ | refine x_call ?_ | refine x_anil ?_ | refine x_cb ?_ | refine x_seq ?_ | refine x_asgG ?_ | refine x_gC ?_ | refine x_gNl ?_ | refine x_ret ?_ | refine x_ifs ?_ | refine x_test ?_ | refine x_testb ?_ | refine x_and ?_ | refine x_or ?_ | refine x_andV ?_ | refine x_isB ?_ | refine x_add ?_ | refine x_lt ?_ | refine x_inti ?_ | refine x_isI ?_ | refine x_lst ?_ | refine x_tup ?_ | refine x_slice ?_ | refine x_nop ?_ | refine x_part ?_ | refine x_bm ?_ | refine x_sub ?_ | refine x_rI0 ?_ | refine x_drop ?_ | refine x_next ?_ | refine x_brk ?_ | refine x_cnt ?_ | refine x_par2 ?_ | refine x_par33 ?_ | refine x_un ?_ | refine x_rU ?_ | refine x_le ?_ | refine x_gt ?_ | refine x_ge ?_ | refine x_lts ?_ | refine x_intb ?_ | refine x_abs ?_ | refine x_tru ?_ | refine x_trub ?_ | refine x_trui ?_ | refine x_not ?_ | refine x_orV ?_ | refine x_notV ?_ | refine x_if ?_ | refine x_isN ?_ | refine x_isnN ?_ | refine x_dict ?_ | refine x_bm0 ?_ | refine x_revL ?_ | refine x_lcR ?_ | refine x_lcS ?_ | refine x_forR ?_ | refine x_forS ?_ | refine x_yes ?_ | refine ite_t ?_ | refine ite_f ?_)
local macro_rules | `(tactic| walk_at "s") => `(tactic| repeat (first | walk_at "v1" | walk_at "s1" | walk_at "n1"))
local macro_rules | `(tactic| walk_at "bd") => `(tactic| first | decide | omega | exact Nat.le_refl _)
local macro_rules | `(tactic| walk_at "ft") => `(tactic| first
  | with_reducible exact la_nil | with_reducible exact fa_nil | with_reducible exact ft_non | with_reducible exact ft_bl | with_reducible exact ft_dict | ((with_reducible refine ft_str (n := 10) (x := ?x) ?h); (case h => exact And.intro rfl (by decide))) | ((with_reducible refine ft_int (i := ?i) ?h); (case h => decide))
  | ((with_reducible refine ft_var (v := ?v) (m := ?m) (n := ?n) ?h ?f); (case h => exact rfl); (case f => assumption))
  | ((with_reducible refine fa_cons (m1 := ?a) (n1 := ?b) (m2 := ?c) (n2 := ?d) ?f ?g); (case f => walk_at "ft"); (case g => walk_at "ft"))
  | ((with_reducible refine ft_tup (m := ?m) (n := ?n) ?f ?h); (case f => walk_at "ft"); (case h => walk_at "bd"))
  | ((with_reducible refine ft_lst (m := ?m) (n := ?n) ?f ?h); (case f => walk_at "ft"); (case h => walk_at "bd"))
  | ((with_reducible refine la_cons (m1 := ?a) (n1 := ?b) (B := ?c) ?f ?g ?h ?i); (case f => walk_at "ft"); (case h => walk_at "bd"); (case i => walk_at "bd"); (case g => walk_at "ft"))
  | ((with_reducible refine lt_var (v := ?v) (m := ?m) (n := ?n) (B := ?b) ?h ?f); (case h => exact rfl); (case f => assumption))
  | ((with_reducible refine lt_add (B1 := ?a) (B2 := ?b) ?f ?g ?h); (case f => walk_at "ft"); (case g => walk_at "ft"); (case h => walk_at "bd"))
  | ((with_reducible refine ft_addsv (x := ?x) (m := ?m) (n := 10) ?h ?s ?a ?z); (case h => exact rfl); (case s => assumption); (case a => exact And.intro rfl (by decide)); (case z => decide))
  | ((with_reducible refine lt_lst ?f ?h); (case f => walk_at "ft"); (case h => walk_at "bd")))
local macro_rules | `(tactic| walk_at "s1") => `(tactic| with_reducible first | refine x_fld ?_ | refine x_sfld ?_ | refine x_m ?_ | refine x_mr ?_ | refine x_i ?_ | refine x_ir ?_ | refine x_gfld ?_ | refine x_mko ?_ | refine x_vei ?_ | refine x_ost ?_ | refine ite_nt ?_ | refine ite_nf ?_)
theorem fold_app : ∀ (l : List (Array Nat)) (acc : Array Nat), (l.foldl (· ++ ·) acc).toList = acc.toList ++ (l.map Array.toList).flatten
  | [], acc => by simp
  | a :: l, acc => by
    rw [List.foldl_cons, fold_app l, Array.toList_append, List.map_cons, List.flatten_cons, List.append_assoc]
theorem mul_tl {x : Str} {n : Int} (h : 1 < n) (h0 : x.length ≠ 0) : (Txt.mul x n).cps.toList = (List.replicate n.toNat x.cps.toList).flatten := by
  unfold Txt.mul
  rw [if_neg (by omega), if_neg (by simp only [Bool.or_eq_true, beq_iff_eq]; omega)]
  show ((List.replicate n.toNat x.cps).foldl (· ++ ·) #[]).toList = _
  rw [fold_app, List.map_replicate]
  rfl
theorem sum_rep (m : Nat) : ∀ n : Nat, (List.replicate n m).sum = n * m
  | 0 => by simp
  | n + 1 => by rw [List.replicate_succ, List.sum_cons, sum_rep m n, Nat.succ_mul, Nat.add_comm]
theorem mul_len {x : Str} {n : Int} (h : 1 < n) (h0 : x.length ≠ 0) : (Txt.mul x n).length = n.toNat * x.length := by
  rw [len_l, mul_tl h h0, List.length_flatten, List.map_replicate, sum_rep, ← len_l]
theorem Tx.mul {m : Nat} {x : Str} {n : Int} (s : Tx m x) (h : 1 < n) (h0 : m ≠ 0) : Tx (n.toNat * m) (Txt.mul x n) := by
  have h0' : x.length ≠ 0 := by rw [s.1]; exact h0
  refine ⟨by rw [mul_len h h0', s.1], fun c hc => ?_⟩
  rw [mul_tl h h0'] at hc
  obtain ⟨l, hl, hc⟩ := List.mem_flatten.mp hc
  rw [(List.mem_replicate.mp hl).2] at hc
  exact s.2 c hc
theorem text_nl {x : Str} (h : 10 ∈ x.cps.toList) : textB (.str x) = false := by
  show (decide (x.length ≤ 4000) && x.cps.toList.all okC) = false
  have : x.cps.toList.all okC = false := by
    rw [List.all_eq_false]
    exact ⟨10, h, by decide⟩
  rw [this, Bool.and_false]
theorem text_long {x : Str} (h : 4000 < x.length) : textB (.str x) = false := by
  show (decide (x.length ≤ 4000) && x.cps.toList.all okC) = false
  rw [decide_eq_false (by omega), Bool.false_and]
theorem nl_in : 10 ∈ (Str.ofString "\n").cps.toList := by decide +kernel
theorem nl_st : St 1 (Str.ofString "\n") := ⟨rfl, by decide⟩
theorem tx_b : Tx 1 (Str.ofString "b") := ⟨rfl, fun c hc => by
  rw [show (Str.ofString "b").cps.toList = [98] from by decide +kernel] at hc
  rw [List.mem_singleton.mp hc]
  decide⟩
section
variable {P : Program} {w : World} {K : PySem.W.Frag} {mg : Str → Option Value} {base : Heap} {k : Nat} {fa C D CB CT CM CF CP CC : Addr}
abbrev s__law_wrong_right : Stmt := top 37
theorem sc__law_wrong_right : FnScope ["box", "disk", "state", "by_name", "many", "way", "block", "text", "due"] ["box", "disk", "state", "by_name"] (defScope s__law_wrong_right) := ⟨rfl, rfl, rfl, by decide +kernel, rfl, by decide +kernel, by decide +kernel⟩
def sp_xr (C : Addr) : Sp := fun vs H Q _ => ∃ (G : Hp) (R L : List (Addr × HO)) (b p a : Addr) (m j N : Nat) (lf : Option Nat) (dd : Bool) (bx : List V) (cn : Bool), vs = [.ref b, .ref p, .ref a, .bl cn] ∧ Own G H ((b, .lst bx) :: (L ++ R)) ∧ Pr C G p a m j lf dd L ∧ j ≤ 5000 ∧ Box (N + 10) bx ∧
  ∀ (G' H' : Hp) (L' : List (Addr × HO)) bx', Same G G' → Own G' H' ((b, .lst bx') :: (L' ++ R)) → Pr C G' p a m j lf dd L' → Box N bx' → Q (.bl true) H'
theorem ok_xr {f : Addr} {fd : FuncData} (F : Fun K "_law_wrong_right" "_law_wrong_right" s__law_wrong_right f fd) (B : Bt mg) (C__law_take : Cal P w K mg base k "_law_take" ["box", "many"] sp_take) (C__law_text : Cal P w K mg base k "_law_text" ["box"] sp_lt)
    (C__law_write_told : Cal P w K mg base k "_law_write_told" ["disk", "block", "text", "by_name"] (sp_wt K C)) : FnG P w K mg base (k + 1) f fd ["box", "disk", "state", "by_name"] (sp_xr C) := by
  refine fnG_of F sc__law_wrong_right (fun vs H Q E h => ?_) (fun cdv A outer s H vs Q E r h => ?_)
  · obtain ⟨_, _, _, _, _, _, _, _, _, _, _, _, _, rfl, _⟩ := h
    rfl
  · obtain ⟨G, R, L, b, p, a, m, jj, N, lf, dd, bx, cn, rfl, O, ⟨dx, s, t, w, n, s2, w2, syn, now, ws, wr, wl, rfl, w1, wr1, ln, ls, m1, m8, tn, tsy, tw, lw⟩, hj5, bo, q⟩ := h
    refine ⟨_, (pss_cons (ps_par (i := 4) (j := 5) rfl sc__law_wrong_right.nd rfl rfl (by decide) rfl rfl (pa_cons (pe_callB (cLenK (K := K) rfl) (by rfl) B.len (by decide +kernel) (pa_cons (pe_ix (ixK (K := K) rfl) (pv 2) pe_int (fun _ _ => rfl)) pa_nil)) (pa_cons (g_call C__law_take r (by rfl) passL (pa_cons (pv 0) (pa_cons pe_int pa_nil))) pa_nil)) (by rfl))
       (pss_cons (ps_set (i := 6) sc__law_wrong_right.nd rfl (Or.inl rfl) (pe_ifExp (pt_cmpR oLt (pv 5) pe_int (nomark _)) (pe_ix (ixK (K := K) rfl) (d_lst (pa_cons (pv 4) (pa_cons (pe_un un_neg pe_int) (pa_cons pe_non (pa_cons pe_bl (pa_cons pe_str (pa_cons (d_tup (pa_cons pe_int pa_nil)) (pa_cons (pe_op (oAddK (K := K) rfl) (pv 4) pe_int) pa_nil)))))))) (g_call C__law_take r (by rfl) passL (pa_cons (pv 0) (pa_cons pe_int pa_nil))) (fun _ _ => rfl)) (g_call C__law_take r (by rfl) passL (pa_cons (pv 0) (pa_cons (pv 4) pa_nil)))))
       (pss_cons (ps_set (i := 7) sc__law_wrong_right.nd rfl (Or.inl rfl) (pe_ifExp (pt_cmpR oGt (pv 5) pe_int (nomark _)) (pe_ix (ixK (K := K) rfl) (d_lst (pa_cons pe_str (pa_cons pe_non (pa_cons pe_int (pa_cons pe_str (pa_cons (d_tup (pa_cons pe_str pa_nil)) (pa_cons (pe_op op_repS pe_str pe_int) (pa_cons pe_bl pa_nil)))))))) (g_call C__law_take r (by rfl) passL (pa_cons (pv 0) (pa_cons pe_int pa_nil))) (fun _ _ => rfl)) (g_call C__law_text r (by rfl) passL (pa_cons (pv 0) pa_nil))))
       (pss_cons (ps_set (i := 8) sc__law_wrong_right.nd rfl (Or.inl rfl) (pe_ifExp (pt_cmpR oLt (pv 5) pe_int (nomark _)) (d_lst (pa_cons pe_str (pa_cons pe_bl pa_nil))) (d_lst (pa_cons pe_str (pa_cons pe_bl pa_nil)))))
       (pss_cons (ps_if (pt_truK (K := K) rfl (pe_ix (ixK (K := K) rfl) (pv 2) pe_int (fun _ _ => rfl)))
       (pss_one (ps_set (i := 8) sc__law_wrong_right.nd rfl (Or.inl rfl) (d_lst (pa_cons pe_str (pa_cons pe_bl pa_nil)))))
       pss_nil)
       (pss_one (ps_ret (pe_cmpR (oEqK (K := K) rfl r) (g_call C__law_write_told r (by rfl) passL (pa_cons (pv 1) (pa_cons (pv 6) (pa_cons (pv 7) (pa_cons (pv 3) pa_nil))))) (pv 8) (nomark _))))))))), ?_⟩
    try dsimp only [cxOf]
    refine x_start (σ' := [some _, some _, some _, some _, none, none, none, none, none]) rfl ?_
    have hws : ws.length = wl.length := w1.len
    have mk : ∀ (G' : Hp), Same G G' → Pr C G' p a m jj lf dd (dkL C p dx s t w m lf dd syn now ws ++ stL a n s2 w2 now syn wr lf dd) := fun G' s' => ⟨dx, s, t, w, n, s2, w2, syn, now, ws, wr, wl, rfl, w1.mono s', wr1.mono s', ln, ls, m1, m8, tn, tsy, tw, lw⟩
    walk_at "s"
    refine x_ixl (i := 0) (SqL.of (st_a (to_s O))) rfl ?_
    walk_at "s"
    refine x_lenl (SqL.of (st_n (to_s O))) ?_
    rw [ln]
    walk_at "s"
    refine ⟨G, _, b, 3, N + 9, bx, rfl, O, bo, by decide, by decide, fun H1 way b1 y0 y1 O1 B1 => ?_⟩
    refine ⟨_, _, rfl, ?_⟩
    refine x_seq (x_asgG (x_eval (fun v' H' => ∃ (G' : Hp) (d : PyData) (bx' : List V), Same G G' ∧ Own G' H' ((b, .lst bx') :: ((dkL C p dx s t w m lf dd syn now ws ++ stL a n s2 w2 now syn wr lf dd) ++ R)) ∧ Dt K G' v' d ∧ Rp d ∧ ixB m d = !decide (way < 2) ∧ Box (N + 6) bx') (fun Q2 fin2 => ?_) ?_))
    · walk_at "s"
      refine ite_b (fun c => ?_) (fun c => ?_)
      · walk_at "s"
        refine ⟨by show 1 ≤ sizeLine; decide, x_fix O1 fun p4 G4 H4 s4 O4 e4 => ?_⟩
        walk_at "s"
        refine ⟨by show 7 ≤ sizeLine; decide, x_fix O4 fun p5 G5 H5 s5 O5 e5 => ?_⟩
        walk_at "s"
        refine ⟨G5, _, b, 7, N + 8, b1, rfl, O5, B1, by decide, by decide, fun H6 r6 b6 r60 r61 O6 B6 => ?_⟩
        have hq := SqL.of (K := K) (O6.sub _ _ e5)
        have sG := s4.trans s5
        have flat : ∀ (v : V) (d : PyData), Dt K G5 v d → Rp d → ixB m d = false → Q2 v H6 := fun v d h1 h3 h4 => fin2 _ _ ⟨G5, d, b6, sG, O6, h1, h3, by rw [h4, c]; rfl, B6.le (by omega)⟩
        obtain ⟨j, rfl⟩ := Int.eq_ofNat_of_zero_le r60
        rcases (show j = 0 ∨ j = 1 ∨ j = 2 ∨ j = 3 ∨ j = 4 ∨ j = 5 ∨ j = 6 by omega) with rfl | rfl | rfl | rfl | rfl | rfl | rfl
        · exact x_ixl hq rfl (flat _ _ (.int (m : Int)) (Rp.int (by omega)) (by simp only [ixB, Bool.and_eq_false_iff, decide_eq_false_iff_not]; omega))
        · exact x_ixl hq rfl (flat _ _ (.int (-1)) (Rp.int (by decide)) rfl)
        · exact x_ixl hq rfl (flat _ _ .non (rp0 ⟨rfl, Nat.le_refl _, Nat.le_refl _⟩) rfl)
        · exact x_ixl hq rfl (flat _ _ (.bl true) (rp0 ⟨rfl, Nat.le_refl _, Nat.le_refl _⟩) rfl)
        · exact x_ixl hq rfl (flat _ _ (.str "0") (Rp.bd (Bd.str (n := 1) ⟨rfl, by decide⟩) (by decide) (by decide)) rfl)
        · exact x_ixl hq rfl (flat _ (.tuple [.int 0]) (.tup (SqT.of (s5 _ _ e4)) (.cons (.int 0) .nil)) (Rp.bd (m := 2) (n := 20) ⟨rfl, by decide, by decide⟩ (by decide) (by decide)) rfl)
        · exact x_ixl hq rfl (flat _ (.int ((m : Int) + 3)) (.int _) (Rp.int (by omega)) (by simp only [ixB, Bool.and_eq_false_iff, decide_eq_false_iff_not]; omega))
      · walk_at "s"
        refine ⟨G, _, b, m, N + 8, b1, rfl, O1, B1, by omega, by omega, fun H6 r6 b6 r60 r61 O6 B6 => ?_⟩
        obtain ⟨j, rfl⟩ := Int.eq_ofNat_of_zero_le r60
        refine fin2 _ _ ⟨G, .int (j : Int), b6, Same.refl _, O6, .int _, Rp.int (by omega), ?_, B6.le (by omega)⟩
        rw [c]
        simp only [ixB, Bool.and_eq_true, decide_eq_true_eq, Bool.not_false]
        omega
    rintro vb H2 ⟨G2, db, b2, s2', O2, hb, rb, ib, B2⟩
    walk_at "n1"
    refine x_seq (x_asgG (x_eval (fun v' H' => ∃ (G' : Hp) (d : PyData) (bx' : List V), Same G2 G' ∧ Own G' H' ((b, .lst bx') :: ((dkL C p dx s t w m lf dd syn now ws ++ stL a n s2 w2 now syn wr lf dd) ++ R)) ∧ Dt K G' v' d ∧ Rp d ∧ (0 < way → textB d = false) ∧ (∀ x, d = .str x → x.length ≤ 100000) ∧ Box N bx') (fun Q2 fin2 => ?_) ?_))
    · walk_at "s"
      refine ite_b (fun c => ?_) (fun c => ?_)
      · walk_at "s"
        refine ⟨by show 1 ≤ sizeLine; decide, x_fix O2 fun p4 G4 H4 s4 O4 e4 => ?_⟩
        walk_at "s"
        have hm := tx_b.mul (n := 4001) (by decide) (by decide)
        refine x_repS (mul_small (by show 1 ≤ 1000; decide) (by decide) (by decide)) ?_
        generalize Txt.mul (Str.ofString "b") 4001 = t5 at hm
        have hm' : Tx 4001 t5 := hm
        walk_at "s"
        refine ⟨by show 7 ≤ sizeLine; decide, x_fix O4 fun p5 G5 H5 s5 O5 e5 => ?_⟩
        walk_at "s"
        refine ⟨G5, _, b, 7, N + 5, b2, rfl, O5, B2, by decide, by decide, fun H6 r6 b6 r60 r61 O6 B6 => ?_⟩
        have hq := SqL.of (K := K) (O6.sub _ _ e5)
        have sG := s4.trans s5
        have flat : ∀ (v : V) (d : PyData), Dt K G5 v d → Rp d → textB d = false → (∀ x, d = .str x → x.length ≤ 100000) → Q2 v H6 := fun v d h1 h3 h4 h5 => fin2 _ _ ⟨G5, d, b6, sG, O6, h1, h3, fun _ => h4, h5, B6.le (by omega)⟩
        obtain ⟨j, rfl⟩ := Int.eq_ofNat_of_zero_le r60
        rcases (show j = 0 ∨ j = 1 ∨ j = 2 ∨ j = 3 ∨ j = 4 ∨ j = 5 ∨ j = 6 by omega) with rfl | rfl | rfl | rfl | rfl | rfl | rfl
        · exact x_ixl hq rfl (flat _ _ (.str "a\n") (Rp.bd (Bd.str (n := 2) ⟨rfl, by decide⟩) (by decide) (by decide)) (text_nl (by decide +kernel)) (fun x e => by cases e; show 2 ≤ _; decide))
        · exact x_ixl hq rfl (flat _ _ .non (rp0 ⟨rfl, Nat.le_refl _, Nat.le_refl _⟩) rfl (fun _ e => nomatch e))
        · exact x_ixl hq rfl (flat _ _ (.int 7) (Rp.int (by decide)) rfl (fun _ e => nomatch e))
        · exact x_ixl hq rfl (flat _ _ (.str "\n") (Rp.bd (Bd.str nl_st) (by decide) (by decide)) (text_nl nl_in) (fun x e => by cases e; show 1 ≤ _; decide))
        · exact x_ixl hq rfl (flat _ (.tuple [.str "a"]) (.tup (SqT.of (s5 _ _ e4)) (.cons (.str "a") .nil)) (Rp.bd (BdL.cons (Bd.str (n := 1) ⟨rfl, by decide⟩) BdL.nil).tup (by decide) (by decide)) rfl (fun _ e => nomatch e))
        · exact x_ixl hq rfl (flat _ _ (.str t5) (Rp.bd (Bd.str (hm'.st (Nat.le_refl _))) (by decide) (by decide)) (text_long (by rw [hm'.1]; decide)) (fun x e => by cases e; rw [hm'.1]; decide))
        · exact x_ixl hq rfl (flat _ _ (.bl true) (rp0 ⟨rfl, Nat.le_refl _, Nat.le_refl _⟩) rfl (fun _ e => nomatch e))
      · walk_at "s"
        refine ⟨G2, _, b, N, b2, rfl, O2, B2.le (by omega), fun G4 H4 x z b4 s4 hx lx O4 B4 => ?_⟩
        exact fin2 _ _ ⟨G4, .str x, b4, s4, O4, .str x, Rp.bd (Bd.str (hx.st lx)) (by decide) (by decide), fun h => absurd h (of_decide_eq_false c), fun y e => by cases e; rw [hx.1]; omega, B4⟩
    rintro vt H3 ⟨G3, dt, b3, s3, O3, ht, rt, it, hz, B3⟩
    have s23 := s2'.trans s3
    walk_at "n1"
    refine x_seq (x_asgG (x_eval (fun v' H' => ∃ (G' : Hp) (p4 : Addr), v' = .ref p4 ∧ Same G3 G' ∧ Own G' H' ((b, .lst b3) :: ((dkL C p dx s t w m lf dd syn now ws ++ stL a n s2 w2 now syn wr lf dd) ++ R)) ∧ G' p4 = some (.lst [.str (if way < 2 then "block" else "text"), .bl true])) (fun Q2 fin2 => ?_) ?_))
    · walk_at "s"
      refine ite_b (fun c => ?_) (fun c => ?_)
      · walk_at "s"
        refine ⟨by show 2 ≤ sizeLine; decide, x_fix O3 fun p4 G4 H4 s4 O4 e4 => ?_⟩
        exact fin2 _ _ ⟨G4, p4, rfl, s4, O4, by rw [e4, if_pos (of_decide_eq_true c)]⟩
      · walk_at "s"
        refine ⟨by show 2 ≤ sizeLine; decide, x_fix O3 fun p4 G4 H4 s4 O4 e4 => ?_⟩
        exact fin2 _ _ ⟨G4, p4, rfl, s4, O4, by rw [e4, if_neg (of_decide_eq_false c)]⟩
    rintro _ H4 ⟨G4, p4, rfl, s4, O4, e4⟩
    have s24 := s2'.trans (s3.trans s4)
    walk_at "s"
    refine x_ixl (i := 4) (SqL.of (st_a (to_s O4))) rfl ?_
    cases dd with
    | true =>
      walk_at "s"
      refine ⟨by show 2 ≤ sizeLine; decide, x_fix O4 fun p5 G5 H5 s5 O5 e5 => ?_⟩
      walk_at "s"
      refine ⟨G5, _, p, dx, s, t, w, m, lf, true, vb, vt, db, dt, syn, now, ws, cn, rfl, to_d O5, ln, hb.mono (s3.trans (s4.trans s5)), ht.mono (s4.trans s5), rb, rt, hz, by omega,
        fun _ G6 H6 q6 s6 O6 e6 => ?_, (fun ed => nomatch ed), (fun ed => nomatch ed), (fun _ _ ed => nomatch ed), (fun _ _ _ ed => nomatch ed)⟩
      walk_at "s"
      have sa := s24.trans (s5.trans s6)
      exact eq2 (by decide +kernel) (O6.sub _ _ e6) (O6.sub _ _ (s6 _ _ e5)) (by decide +kernel) (q G6 H6 _ b3 sa (of_d O6) (mk _ sa) B3)
    | false =>
      walk_at "s"
      refine ⟨G4, _, p, dx, s, t, w, m, lf, false, vb, vt, db, dt, syn, now, ws, cn, rfl, to_d O4, ln, hb.mono (s3.trans s4), ht.mono s4, rb, rt, hz, by omega,
        (fun ed => nomatch ed), fun _ cb G6 H6 q6 s6 O6 e6 => ?_, fun _ cb ct G6 H6 q6 s6 O6 e6 => ?_, fun i x _ ei hi et ct => ?_, fun i x lf' _ ei hi et ct => ?_⟩
      · rw [ib] at cb
        have hw : way < 2 := by
          cases e : decide (way < 2) with
          | true => exact of_decide_eq_true e
          | false => rw [e] at cb; cases cb
        rw [if_pos hw] at e4
        walk_at "s"
        have sa := s24.trans s6
        exact eq2 (by decide +kernel) (O6.sub _ _ e6) (O6.sub _ _ (s6 _ _ e4)) (by decide +kernel) (q G6 H6 _ b3 sa (of_d O6) (mk _ sa) B3)
      · rw [ib] at cb
        have hw : ¬ way < 2 := by
          cases e : decide (way < 2) with
          | true => rw [e] at cb; cases cb
          | false => exact of_decide_eq_false e
        rw [if_neg hw] at e4
        walk_at "s"
        have sa := s24.trans s6
        exact eq2 (by decide +kernel) (O6.sub _ _ e6) (O6.sub _ _ (s6 _ _ e4)) (by decide +kernel) (q G6 H6 _ b3 sa (of_d O6) (mk _ sa) B3)
      all_goals
        exfalso
        subst ei
        have cb : ixB (m : Int) (.int (i : Int)) = true := by
          simp only [ixB, Bool.and_eq_true, decide_eq_true_eq]
          omega
        rw [ib] at cb
        have hw : ¬ way < 2 := by
          cases e : decide (way < 2) with
          | true => rw [e] at cb; cases cb
          | false => exact of_decide_eq_false e
        rw [it (by omega)] at ct
        cases ct
end
end M85
set_option maxHeartbeats 4000000
namespace M85
open PySem PySem.Spec PyProof.Rows L2 G
local macro_rules | `(tactic| walk_at "hp") => `(tactic| first | assumption | exact Own.at0 (by assumption) | exact Own.at1 (by assumption) | exact Own.at2 (by assumption) | exact Own.at3 (by assumption) | exact Own.sub (by assumption) _ _ (by assumption) | exact upd_same)
local macro_rules | `(tactic| walk_at "hl") => `(tactic| first | assumption | exact SqL.of (by walk_at "hp") | exact Own.seq (by assumption) (by assumption) | exact Own.seq (by assumption) (SqL.of (by assumption)))
local macro_rules | `(tactic| walk_at "ht") => `(tactic| first | assumption | exact SqT.of (by walk_at "hp") | exact Own.set (by assumption) (by assumption) | exact Own.set (by assumption) (SqT.of (by assumption)))
local macro_rules | `(tactic| walk_at "n") => `(tactic| (intros; (try dsimp only [List.set, wipe, List.map, List.set_cons_succ, List.set_cons_zero]); (try exact rfl)))
local macro_rules | `(tactic| walk_at "n1") => `(tactic| with_reducible first | (refine x_asgN (σ' := ?s) ?hs ?q; (case hs => walk_at "n")) | (refine x_gN (σ' := ?s) ?hs ?q; (case hs => walk_at "n")) | (refine And.intro (show wipe _ _ = _ from (by walk_at "n")) ?_) | (refine x_parN (σ' := ?s) ?hs ?q; (case hs => walk_at "n")) | (refine x_par3N (σ' := ?s) ?hs ?q; (case hs => walk_at "n")))
local macro_rules | `(tactic| walk_at "v1") => `(tactic| ((with_reducible refine x_var (v := ?v) ?h ?q); (case h => first | exact rfl | assumption)))
local macro_rules | `(tactic| walk_at "s1") => `(tactic| with_reducible first | refine x_op ?_ | refine x_acons ?_ | refine x_c ?_ | refine x_call ?_ | refine x_anil ?_ | refine x_cb ?_ | refine x_seq ?_ | refine x_asgG ?_ | refine x_gC ?_ | refine x_gNl ?_ | refine x_ret ?_ | refine x_ifs ?_ | refine x_test ?_ | refine x_testb ?_ | refine x_and ?_ | refine x_or ?_ | refine x_andV ?_ | refine x_isB ?_ | refine x_add ?_ | refine x_lt ?_ | refine x_inti ?_ | refine x_isI ?_ | refine x_lst ?_ | refine x_tup ?_ | refine x_slice ?_ | refine x_nop ?_ | refine x_part ?_ | refine x_bm ?_ | refine x_sub ?_ | refine x_rI0 ?_ | refine x_drop ?_ | refine x_next ?_ | refine x_brk ?_ | refine x_cnt ?_ | refine x_par2 ?_ | refine x_par33 ?_ | refine x_un ?_ | refine x_rU ?_ | refine x_le ?_ | refine x_gt ?_ | refine x_ge ?_ | refine x_lts ?_ | refine x_intb ?_ | refine x_abs ?_ | refine x_tru ?_ | refine x_trub ?_ | refine x_trui ?_ | refine x_not ?_ | refine x_orV ?_ | refine x_notV ?_ | refine x_if ?_ | refine x_isN ?_ | refine x_isnN ?_ | refine x_dict ?_ | refine x_bm0 ?_ | refine x_revL ?_ | refine x_lcR ?_ | refine x_lcS ?_ | refine x_forR ?_ | refine x_forS ?_ | refine x_yes ?_ | refine ite_t ?_ | refine ite_f ?_)
local macro_rules | `(tactic| walk_at "s") => `(tactic| repeat (first | walk_at "v1" | walk_at "s1" | walk_at "n1"))
local macro_rules | `(tactic| walk_at "bd") => `(tactic| first | decide | omega | exact Nat.le_refl _)
local macro_rules | `(tactic| walk_at "ft") => `(tactic| first
  | with_reducible exact la_nil | with_reducible exact fa_nil | with_reducible exact ft_non | with_reducible exact ft_bl | with_reducible exact ft_dict | ((with_reducible refine ft_str (n := 10) (x := ?x) ?h); (case h => exact And.intro rfl (by decide))) | ((with_reducible refine ft_int (i := ?i) ?h); (case h => decide))
  | ((with_reducible refine ft_var (v := ?v) (m := ?m) (n := ?n) ?h ?f); (case h => exact rfl); (case f => assumption))
  | ((with_reducible refine fa_cons (m1 := ?a) (n1 := ?b) (m2 := ?c) (n2 := ?d) ?f ?g); (case f => walk_at "ft"); (case g => walk_at "ft"))
  | ((with_reducible refine ft_tup (m := ?m) (n := ?n) ?f ?h); (case f => walk_at "ft"); (case h => walk_at "bd"))
  | ((with_reducible refine ft_lst (m := ?m) (n := ?n) ?f ?h); (case f => walk_at "ft"); (case h => walk_at "bd"))
  | ((with_reducible refine la_cons (m1 := ?a) (n1 := ?b) (B := ?c) ?f ?g ?h ?i); (case f => walk_at "ft"); (case h => walk_at "bd"); (case i => walk_at "bd"); (case g => walk_at "ft"))
  | ((with_reducible refine lt_var (v := ?v) (m := ?m) (n := ?n) (B := ?b) ?h ?f); (case h => exact rfl); (case f => assumption))
  | ((with_reducible refine lt_add (B1 := ?a) (B2 := ?b) ?f ?g ?h); (case f => walk_at "ft"); (case g => walk_at "ft"); (case h => walk_at "bd"))
  | ((with_reducible refine ft_addsv (x := ?x) (m := ?m) (n := 10) ?h ?s ?a ?z); (case h => exact rfl); (case s => assumption); (case a => exact And.intro rfl (by decide)); (case z => decide))
  | ((with_reducible refine lt_lst ?f ?h); (case f => walk_at "ft"); (case h => walk_at "bd")))
local macro_rules | `(tactic| walk_at "s1") => `(tactic| with_reducible first | refine x_fld ?_ | refine x_sfld ?_ | refine x_m ?_ | refine x_mr ?_ | refine x_i ?_ | refine x_ir ?_ | refine x_gfld ?_ | refine x_mko ?_ | refine x_vei ?_ | refine x_ost ?_ | refine ite_nt ?_ | refine ite_nf ?_)
section
variable {P : Program} {w : World} {K : PySem.W.Frag} {mg : Str → Option Value} {base : Heap} {k : Nat} {fa C D CB CT CM CF CP CC : Addr}
abbrev s__law_remained : Stmt := top 38
theorem sc__law_remained : FnScope ["state", "fates", "texts", "k", "block", "text"] ["state", "fates"] (defScope s__law_remained) := ⟨rfl, rfl, rfl, by decide +kernel, rfl, by decide +kernel, by decide +kernel⟩
def sp_rr (K : PySem.W.Frag) : Sp := fun vs H Q _ => ∃ (G : Hp) (R : List (Addr × HO)) (a n s w pf : Addr) (now syn wr : List V) (lf : Option Nat) (dd : Bool) (wl : List (Nat × V)) (fl : List Str), vs = [.ref a, .ref pf] ∧ Own G H (stL a n s w now syn wr lf dd ++ R) ∧ WrT G wr wl ∧ (∀ b ∈ wl, b.1 < syn.length) ∧
  SqL K G pf (fl.map V.str) ∧ fl.length = wl.length ∧ (∀ f ∈ fl, wFates.contains f = true) ∧ fl.length ≤ 10000 ∧
  ∀ (G' H' : Hp) (a' n' s' w' : Addr), Same G G' → Own G' H' (stL a' n' s' w' (rem syn wl fl) (rem syn wl fl) [] none false ++ (stL a n s w now syn wr lf dd ++ R)) → Q (.ref a') H'
theorem ok_rr {f : Addr} {fd : FuncData} (F : Fun K "_law_remained" "_law_remained" s__law_remained f fd) (B : Bt mg) : FnG P w K mg base (k + 1) f fd ["state", "fates"] (sp_rr K) := by
  refine fnG_of F sc__law_remained (fun vs H Q E h => ?_) (fun cdv A outer s H vs Q E r h => ?_)
  · obtain ⟨_, _, _, _, _, _, _, _, _, _, _, _, _, _, rfl, _⟩ := h
    rfl
  · obtain ⟨G, R, a, n, s, w, pf, now, syn, wr, lf, dd, wl, fl, rfl, O, hw, hwm, hf, hfl, hft, hz, q⟩ := h
    refine ⟨_, (pss_cons (ps_set (i := 2) sc__law_remained.nd rfl (Or.inl rfl) (pe_callTy (cListK (K := K) rfl) (by rfl) B.list (by decide +kernel) (pa_cons (pe_ix (ixK (K := K) rfl) (pv 0) pe_int (fun _ _ => rfl)) pa_nil)))
       (pss_cons (ps_for (passes_of rfl) rfl (pi_range1 (by rfl) B.range (pa_cons (pe_callB (cLenK (K := K) rfl) (by rfl) B.len (by decide +kernel) (pa_cons (pv 1) pa_nil)) pa_nil)) (pg_name (i := 3) sc__law_remained.nd rfl (Or.inl rfl))
       (pss_cons (ps_asg (pe_ix (ixK (K := K) rfl) (pe_ix (ixK (K := K) rfl) (pv 0) pe_int (fun _ _ => rfl)) (pv 3) (fun _ _ => rfl)) (pg_tupK (K := K) (n := 2) rfl rfl (pgs_cons (pg_name (i := 4) sc__law_remained.nd rfl (Or.inl rfl)) (pgs_cons (pg_name (i := 5) sc__law_remained.nd rfl (Or.inl rfl)) pgs_nil))))
       (pss_one (ps_if (pt_cmpR (oEqK (K := K) rfl r) (pe_ix (ixK (K := K) rfl) (pv 1) (pv 3) (fun _ _ => rfl)) pe_str (nomark _))
       (pss_one (ps_asg (pv 5) (pg_sub (pv 2) (pv 4) sSet)))
       (pss_one (ps_if (pt_cmpR (oEqK (K := K) rfl r) (pe_ix (ixK (K := K) rfl) (pv 1) (pv 3) (fun _ _ => rfl)) pe_str (nomark _))
       (pss_one (ps_asg pe_non (pg_sub (pv 2) (pv 4) sSet)))
       pss_nil))))))
       (pss_one (ps_ret (d_lst (pa_cons (pe_callTy (cListK (K := K) rfl) (by rfl) B.list (by decide +kernel) (pa_cons (pv 2) pa_nil)) (pa_cons (pe_callTy (cListK (K := K) rfl) (by rfl) B.list (by decide +kernel) (pa_cons (pv 2) pa_nil)) (pa_cons (d_lst pa_nil) (pa_cons pe_non (pa_cons pe_bl pa_nil)))))))))), ?_⟩
    try dsimp only [cxOf]
    refine x_start (σ' := [some _, some _, none, none, none, none]) rfl ?_
    walk_at "s"
    refine x_ixl (i := 1) (SqL.of (st_a O)) rfl ?_
    walk_at "s"
    refine x_listL (SqL.of (st_s O)) (x_new O fun tx H1 O1 => ?_)
    walk_at "s"
    refine x_lenl (O1.seq hf) ?_
    rw [List.length_map]
    refine x_rg (by omega) (by omega) ?_
    refine for_own walk_range O1 (fun i σ G' L' => ∃ x3 x4 x5 : Option V, σ = [some (.ref a), some (.ref pf), some (.ref tx), x3, x4, x5] ∧ (tx, .lst (remN syn wl fl i)) :: (stL a n s w now syn wr lf dd ++ R) = L') ⟨none, none, none, rfl, by rw [remN_zero]⟩ (fun _ _ _ _ _ _ _ _ => True.intro) ?_ ?_
    · rintro i x σ G' H' H2 L' hi s' O' ⟨x3, x4, x5, rfl, rfl⟩ ⟨rfl, rfl⟩
      have hi1 : i < fl.length := by omega
      have ef : fl[i]? = some fl[i] := List.getElem?_eq_getElem hi1
      have hff := hft _ (List.getElem_mem hi1)
      have ef' : (fl.map V.str)[i]? = some (V.str fl[i]) := by rw [List.getElem?_map, ef]; rfl
      generalize fl[i] = f at ef ef' hff
      have hi2 : i < wr.length := by rw [hw.len]; omega
      obtain ⟨a1, b, e1, eb, hb⟩ := (hw.mono s').get (List.getElem?_eq_getElem hi2)
      have hbm := hwm b (List.mem_of_getElem? eb)
      have er := remN_succ (ss := syn) eb ef
      walk_at "s"
      rw [Int.zero_add]
      have ew : wr[i]? = some (.ref a1) := by rw [List.getElem?_eq_getElem hi2, e1]
      have lb : b.1 < (remN syn wl fl i).length := by rw [remN_len]; omega
      refine x_ixl (i := 2) (SqL.of (st_a O'.tail)) rfl ?_
      walk_at "s"
      refine x_ixl (SqL.of (st_w O'.tail)) (atI_nat ew) ?_
      refine x_gT (SqT.of (O'.sub _ _ hb)) rfl ?_
      refine x_gC ?_
      walk_at "n1"
      refine x_gC ?_
      walk_at "n1"
      refine x_gNl ?_
      walk_at "s"
      refine x_ixl (O'.seq (s'.seq hf)) (atI_nat ef') ?_
      walk_at "s"
      refine x_eq rfl ?_
      rw [str_eq]
      walk_at "s"
      refine ite_b (fun c => ?_) (fun c => ?_)
      · have nd : f = "done" := eq_of_beq c
        have nl : ¬ f = "lost" := fun z => by rw [z] at nd; exact absurd nd (by decide +kernel)
        walk_at "s"
        refine x_setl O'.at0 (ixN_nat lb) (x_md0 O' fun H5 O5 => ?_)
        have es : stp (remN syn wl fl i) (b, f) = (remN syn wl fl i).set b.1 b.2 := by
          unfold stp
          rw [if_neg nl, if_pos nd]
        exact fvh s' O5 ⟨_, _, _, rfl, by rw [er, es]⟩
      · have nd : ¬ f = "done" := fun z => by rw [z] at c; exact absurd c (by decide +kernel)
        walk_at "s"
        refine x_ixl (O'.seq (s'.seq hf)) (atI_nat ef') ?_
        walk_at "s"
        refine x_eq rfl ?_
        rw [str_eq]
        walk_at "s"
        refine ite_b (fun c2 => ?_) (fun c2 => ?_)
        · have nt : f = "torn" := eq_of_beq c2
          have nl : ¬ f = "lost" := fun z => by rw [z] at nt; exact absurd nt (by decide +kernel)
          walk_at "s"
          refine x_setl O'.at0 (ixN_nat lb) (x_md0 O' fun H5 O5 => ?_)
          have es : stp (remN syn wl fl i) (b, f) = (remN syn wl fl i).set b.1 .non := by
            unfold stp
            rw [if_neg nl, if_neg nd]
          exact fvh s' O5 ⟨_, _, _, rfl, by rw [er, es]⟩
        · have nt : ¬ f = "torn" := fun z => by rw [z] at c2; exact absurd c2 (by decide +kernel)
          have nl : f = "lost" := by
            have hm : f ∈ wFates := by simpa using hff
            rcases List.mem_cons.mp hm with h | h
            · exact absurd h nd
            · rcases List.mem_cons.mp h with h | h
              · exact h
              · exact absurd (List.mem_singleton.mp h) nt
          walk_at "s"
          have es : stp (remN syn wl fl i) (b, f) = remN syn wl fl i := by
            unfold stp
            rw [if_pos nl]
          exact fvh s' O' ⟨_, _, _, rfl, by rw [er, es]⟩
    · rintro σ G' H' L' s' O' ⟨x3, x4, x5, rfl, rfl⟩
      rw [remN_all (by omega)] at O'
      walk_at "s"
      refine x_listL (SqL.of O'.at0) (x_new O' fun n9 H5 O5 => ?_)
      walk_at "s"
      refine x_listL (SqL.of O5.at1) (x_new O5 fun s9 H6 O6 => ?_)
      walk_at "s"
      refine ⟨by show 0 ≤ sizeLine; decide, x_new O6 fun w9 H7 O7 => ?_⟩
      walk_at "s"
      have O8 := Own.dropAt (A := [_, _, _]) (Own.putAt (A := [_]) (Own.putAt (A := [_, _]) O7))
      refine ⟨by show 5 ≤ sizeLine; decide, x_new O8 fun a9 H9 O9 => ?_⟩
      exact q G' H9 a9 n9 s9 w9 s' O9
abbrev s__law_fates_due : Stmt := top 40
theorem sc__law_fates_due : FnScope ["value", "many", "fate"] ["value", "many"] (defScope s__law_fates_due) := ⟨rfl, rfl, rfl, by decide +kernel, rfl, by decide +kernel, by decide +kernel⟩
def pFt : V → Bool
  | .str x => !wFates.contains x
  | _ => true
theorem filt_ne {K : PySem.W.Frag} {G : Hp} : ∀ {xs : List V} {ds : List PyData}, DtL K G xs ds → ds.all isF = false → (xs.filter pFt).isEmpty = false
  | [], _, .nil, h => by cases h
  | x :: xs, d :: ds, .cons hx t, h => by
    rw [List.all_cons] at h
    rw [List.filter_cons]
    cases e : pFt x with
    | true => rw [if_pos rfl]; rfl
    | false =>
      rw [if_neg (by decide)]
      refine filt_ne t ?_
      have hd : isF d = true := by
        cases hx with
        | str f =>
          show wFates.contains f = true
          have e' : (!wFates.contains f) = false := e
          cases z : wFates.contains f with
          | true => rfl
          | false => rw [z] at e'; cases e'
        | _ => cases e
      rw [hd, Bool.true_and] at h
      exact h
def sp_fd (K : PySem.W.Frag) : Sp := fun vs H Q _ => ∃ (G : Hp) (L : List (Addr × HO)) (v : V) (d : PyData) (n : Nat), vs = [v, .int n] ∧ Own G H L ∧ DtO K G L v d ∧ (sqI d).length ≤ 100000 ∧ fatesB n d = false ∧ ∀ (G' H' : Hp), Same G G' → Own G' H' L → Q (.bl false) H'
theorem ok_fd {f : Addr} {fd : FuncData} (F : Fun K "_law_fates_due" "_law_fates_due" s__law_fates_due f fd) (B : Bt mg) : FnG P w K mg base (k + 1) f fd ["value", "many"] (sp_fd K) := by
  refine fnG_of F sc__law_fates_due (fun vs H Q E h => ?_) (fun cdv A outer s H vs Q E r h => ?_)
  · obtain ⟨_, _, _, _, _, rfl, _⟩ := h
    rfl
  · obtain ⟨G, L, v, d, n, rfl, O, hv, hl, hb, q⟩ := h
    refine ⟨_, (pss_cons (ps_if (PW.pt (pw_or (pt_not (pt_truK (K := K) rfl (pe_callB (cIsiK (K := K) rfl) (by rfl) B.isinstance (by decide +kernel) (pa_cons (pv 0) (pa_cons (d_tup (pa_cons (pe_bltn (v := .ty "list") (u := .type "list") (by rfl) B.list (by decide +kernel) rfl) (pa_cons (pe_bltn (v := .ty "tuple") (u := .type "tuple") (by rfl) B.tuple (by decide +kernel) rfl) pa_nil))) pa_nil))))) (pw_or1 (pt_cmpR (oNeK (K := K) rfl r) (pe_callB (cLenK (K := K) rfl) (by rfl) B.len (by decide +kernel) (pa_cons (pv 0) pa_nil)) (pv 1) (nomark _)))))
       (pss_one (ps_ret pe_bl))
       pss_nil)
       (pss_one (ps_ret (pe_cmpR (oEqK (K := K) rfl r) (pe_lc (own := [("fate", 2)]) rfl sc__law_fates_due.nd (pi_sqK (K := K) rfl (pv 0)) (blkOk_by (N := ["value", "many", "fate"]) (sc := defScope s__law_fates_due) (by decide +kernel)) (fun _ _ _ _ _ => (pg_name (i := 2) sc__law_fates_due.nd rfl (Or.inl rfl))) (fun _ _ _ _ _ => (pts_one (PW.pt (pw_or (pt_not (pt_truK (K := K) rfl (pe_callB (cIsiK (K := K) rfl) (by rfl) B.isinstance (by decide +kernel) (pa_cons (pv 2) (pa_cons (pe_bltn (v := .ty "str") (u := .type "str") (by rfl) B.str (by decide +kernel) rfl) pa_nil))))) (pw_or1 (pt_cmpR (oNinK (K := K) rfl) (pv 2) (d_lst (pa_cons pe_str (pa_cons pe_str (pa_cons pe_str pa_nil)))) (by rfl))))))) (fun _ _ _ _ _ => (pv 2))) (d_lst pa_nil) (nomark _))))), ?_⟩
    try dsimp only [cxOf]
    refine x_start (σ' := [some _, some _, none]) rfl ?_
    walk_at "s"
    refine ⟨by show 2 ≤ sizeLine; decide, x_fix O fun p G1 H1 s1 O1 e1 => ?_⟩
    walk_at "s"
    have hv1 := hv.same s1
    refine x_isiLT (hv1.at O1) (O1.sub _ _ e1) ?_
    have e : (tyN d == "list" || tyN d == "tuple") = sqB d := by cases d <;> rfl
    rw [e]
    walk_at "s"
    cases csq : sqB d with
    | false =>
      walk_at "s"
      exact q G1 H1 s1 O1
    | true =>
    walk_at "s"
    obtain ⟨pa, xs, rfl, hs, hd⟩ : ∃ (pa : Addr) (xs : List V), v = .ref pa ∧ ((∀ (G' H' : Hp) (L0 : List (Addr × HO)), Same G1 G' → Own G' H' (L0 ++ L) → SqL K H' pa xs) ∨ (∀ (G' H' : Hp) (L0 : List (Addr × HO)), Same G1 G' → Own G' H' (L0 ++ L) → SqT K H' pa xs)) ∧ DtL K G1 xs (sqI d) := by
      rcases hv1 with hv1 | ⟨p, xs, ds, rfl, hm, rfl, hd⟩
      · cases hv1 with
        | lst h t => exact ⟨_, _, rfl, .inl fun G' H' L0 s' O' => O'.seq (s'.seq h), t⟩
        | tup h t => exact ⟨_, _, rfl, .inr fun G' H' L0 s' O' => O'.set (same_t s' h), t⟩
        | _ => exact absurd (show false = true from csq) (by decide)
      · exact ⟨p, xs, rfl, .inl fun G' H' L0 s' O' => SqL.of (O'.has _ (List.mem_append_right _ hm)).1, hd⟩
    refine x_lenLT (hs.imp (fun h => h G1 H1 [] (Same.refl _) O1) fun h => h G1 H1 [] (Same.refl _) O1) ?_
    walk_at "s"
    refine x_ne rfl ?_
    rw [hd.length]
    have en : decide (V.int ((sqI d).length : Int) = V.int (n : Int)) = decide ((sqI d).length = n) := decide_eq_decide.mpr ⟨fun z => by cases z; rfl, fun z => by rw [z]⟩
    rw [en]
    refine ⟨_, rfl, ?_⟩
    refine ite_b (fun c2 => ?_) (fun c2 => ?_)
    · walk_at "s"
      exact q G1 H1 s1 O1
    have c3 : decide ((sqI d).length = n) = true := by
      cases hb : decide ((sqI d).length = n) with
      | true => rfl
      | false => rw [hb] at c2; exact absurd c2 (by decide)
    have ea' : (sqI d).all isF = false := by
      unfold fatesB at hb
      rw [csq, c3, Bool.true_and, Bool.true_and] at hb
      exact hb
    walk_at "s"
    have lcn : ∀ J Gd (W : Walk J xs.length Gd (YAt xs)) (hG : ∀ (G' H' : Hp) (D : Addr) (acc : List V), Same G1 G' → Own G' H' ((D, .lst acc) :: L) → Gd H'),
        tLc (iAt J) (gName 2) (tOr (tNot (tTru K (tCB (aIsi K) (tCons (tVar 2) (tCons (tC (V.ty "str")) tNil)))))
              (tTest (tOp (rIn K true) (tVar 2) (dLst (tCons (tC (V.str (Str.ofString "done"))) (tCons (tC (V.str (Str.ofString "lost"))) (tCons (tC (V.str (Str.ofString "torn"))) tNil)))))))
            (tVar 2) (List.map (fun x => x.snd) [(Str.ofString "fate", 2)]) [some (V.ref pa), some (V.int (n : Int)), none] H1
          (fun x H1 => dLst tNil [some (V.ref pa), some (V.int (n : Int)), none] H1 fun y H2 => aEq K x y H2 Q) := by
      intro J Gd W hG
      refine lc_filt (by walk_at "n") W (fun _ _ _ _ _ y => y) O1 (by rw [hd.length]; omega) pFt hG ?_ ?_
      · rintro i x G' H' D acc hi ex s' O' kT kF
        obtain ⟨di, edi⟩ : ∃ d1, (sqI d)[i]? = some d1 := ⟨(sqI d)[i]'(by rw [← hd.length]; exact hi), List.getElem?_eq_getElem _⟩
        obtain ⟨vi, evi, hvi⟩ := hd.get i edi
        rw [ex] at evi
        cases evi
        walk_at "s"
        refine x_isiS (O'.dt (hvi.mono s')) ?_
        walk_at "s"
        cases hvi with
        | str f =>
          refine ite_f ?_
          walk_at "s"
          refine ⟨by show 3 ≤ sizeLine; decide, x_fix O' fun p4 G4 H4 s4 O4 e4 => ?_⟩
          refine x_ninS (ts := ["done", "lost", "torn"]) (.inl (SqL.of (O4.sub _ _ e4))) ?_
          walk_at "s"
          refine ite_b (fun c3 => ?_) (fun c3 => ?_)
          · exact kT _ _ _ s4 O4 c3 rfl
          · exact kF _ _ s4 O4 c3
        | _ => exact ite_t (kT _ _ _ (Same.refl _) O' rfl rfl)
      intro G9 H9 p9 s9 O9 e9
      walk_at "s"
      refine ⟨by show 0 ≤ sizeLine; decide, x_fix O9 fun pa Ga Ha sa Oa ea => ?_⟩
      refine .inr (.inr ⟨p9, pa, _, rfl, rfl, SqL.of (Oa.sub _ _ (sa _ _ e9)), SqL.of (Oa.sub _ _ ea), ?_⟩)
      rw [filt_ne hd ea']
      exact q Ga Ha (s1.trans (s9.trans sa)) Oa
    rcases hs with h | h
    · exact x_sqL (h G1 H1 [] (Same.refl _) O1) (lcn _ _ walk_list fun G' H' D acc s' O' => h G' H' [(D, .lst acc)] s' O')
    · exact x_sqT (h G1 H1 [] (Same.refl _) O1) (lcn _ _ walk_tup fun G' H' D acc s' O' => h G' H' [(D, .lst acc)] s' O')
end
end M85
set_option maxHeartbeats 4000000
namespace M85
open PySem PySem.Spec PyProof.Rows L2 G
local macro_rules | `(tactic| walk_at "hp") => `(tactic| first | assumption | exact Own.at0 (by assumption) | exact Own.at1 (by assumption) | exact Own.at2 (by assumption) | exact Own.at3 (by assumption) | exact Own.sub (by assumption) _ _ (by assumption) | exact upd_same)
local macro_rules | `(tactic| walk_at "hl") => `(tactic| first | assumption | exact SqL.of (by walk_at "hp") | exact Own.seq (by assumption) (by assumption) | exact Own.seq (by assumption) (SqL.of (by assumption)))
local macro_rules | `(tactic| walk_at "ht") => `(tactic| first | assumption | exact SqT.of (by walk_at "hp") | exact Own.set (by assumption) (by assumption) | exact Own.set (by assumption) (SqT.of (by assumption)))
local macro_rules | `(tactic| walk_at "n") => `(tactic| (intros; (try dsimp only [List.set, wipe, List.map, List.set_cons_succ, List.set_cons_zero]); (try exact rfl)))
local macro_rules | `(tactic| walk_at "n1") => `(tactic| with_reducible first | (refine x_asgN (σ' := ?s) ?hs ?q; (case hs => walk_at "n")) | (refine x_gN (σ' := ?s) ?hs ?q; (case hs => walk_at "n")) | (refine And.intro (show wipe _ _ = _ from (by walk_at "n")) ?_) | (refine x_parN (σ' := ?s) ?hs ?q; (case hs => walk_at "n")) | (refine x_par3N (σ' := ?s) ?hs ?q; (case hs => walk_at "n")))
local macro_rules | `(tactic| walk_at "v1") => `(tactic| ((with_reducible refine x_var (v := ?v) ?h ?q); (case h => first | exact rfl | assumption)))
local macro_rules | `(tactic| walk_at "s1") => `(tactic| with_reducible first | refine x_op ?_ | refine x_acons ?_ | refine x_c ?_ | refine x_call ?_ | refine x_anil ?_ | refine x_cb ?_ | refine x_seq ?_ | refine x_asgG ?_ | refine x_gC ?_ | refine x_gNl ?_ | refine x_ret ?_ | refine x_ifs ?_ | refine x_test ?_ | refine x_testb ?_ | refine x_and ?_ | refine x_or ?_ | refine x_andV ?_ | refine x_isB ?_ | refine x_add ?_ | refine x_lt ?_ | refine x_inti ?_ | refine x_isI ?_ | refine x_lst ?_ | refine x_tup ?_ | refine x_slice ?_ | refine x_nop ?_ | refine x_part ?_ | refine x_bm ?_ | refine x_sub ?_ | refine x_rI0 ?_ | refine x_drop ?_ | refine x_next ?_ | refine x_brk ?_ | refine x_cnt ?_ | refine x_par2 ?_ | refine x_par33 ?_ | refine x_un ?_ | refine x_rU ?_ | refine x_le ?_ | refine x_gt ?_ | refine x_ge ?_ | refine x_lts ?_ | refine x_intb ?_ | refine x_abs ?_ | refine x_tru ?_ | refine x_trub ?_ | refine x_trui ?_ | refine x_not ?_ | refine x_orV ?_ | refine x_notV ?_ | refine x_if ?_ | refine x_isN ?_ | refine x_isnN ?_ | refine x_dict ?_ | refine x_bm0 ?_ | refine x_revL ?_ | refine x_lcR ?_ | refine x_lcS ?_ | refine x_forR ?_ | refine x_forS ?_ | refine x_yes ?_ | refine ite_t ?_ | refine ite_f ?_)
local macro_rules | `(tactic| walk_at "s") => `(tactic| repeat (first | walk_at "v1" | walk_at "s1" | walk_at "n1"))
local macro_rules | `(tactic| walk_at "bd") => `(tactic| first | decide | omega | exact Nat.le_refl _)
local macro_rules | `(tactic| walk_at "ft") => `(tactic| first
  | with_reducible exact la_nil | with_reducible exact fa_nil | with_reducible exact ft_non | with_reducible exact ft_bl | with_reducible exact ft_dict | ((with_reducible refine ft_str (n := 10) (x := ?x) ?h); (case h => exact And.intro rfl (by decide))) | ((with_reducible refine ft_int (i := ?i) ?h); (case h => decide))
  | ((with_reducible refine ft_var (v := ?v) (m := ?m) (n := ?n) ?h ?f); (case h => exact rfl); (case f => assumption))
  | ((with_reducible refine fa_cons (m1 := ?a) (n1 := ?b) (m2 := ?c) (n2 := ?d) ?f ?g); (case f => walk_at "ft"); (case g => walk_at "ft"))
  | ((with_reducible refine ft_tup (m := ?m) (n := ?n) ?f ?h); (case f => walk_at "ft"); (case h => walk_at "bd"))
  | ((with_reducible refine ft_lst (m := ?m) (n := ?n) ?f ?h); (case f => walk_at "ft"); (case h => walk_at "bd"))
  | ((with_reducible refine la_cons (m1 := ?a) (n1 := ?b) (B := ?c) ?f ?g ?h ?i); (case f => walk_at "ft"); (case h => walk_at "bd"); (case i => walk_at "bd"); (case g => walk_at "ft"))
  | ((with_reducible refine lt_var (v := ?v) (m := ?m) (n := ?n) (B := ?b) ?h ?f); (case h => exact rfl); (case f => assumption))
  | ((with_reducible refine lt_add (B1 := ?a) (B2 := ?b) ?f ?g ?h); (case f => walk_at "ft"); (case g => walk_at "ft"); (case h => walk_at "bd"))
  | ((with_reducible refine ft_addsv (x := ?x) (m := ?m) (n := 10) ?h ?s ?a ?z); (case h => exact rfl); (case s => assumption); (case a => exact And.intro rfl (by decide)); (case z => decide))
  | ((with_reducible refine lt_lst ?f ?h); (case f => walk_at "ft"); (case h => walk_at "bd")))
local macro_rules | `(tactic| walk_at "s1") => `(tactic| with_reducible first | refine x_fld ?_ | refine x_sfld ?_ | refine x_m ?_ | refine x_mr ?_ | refine x_i ?_ | refine x_ir ?_ | refine x_gfld ?_ | refine x_mko ?_ | refine x_vei ?_ | refine x_ost ?_ | refine ite_nt ?_ | refine ite_nf ?_)
theorem okDL_app : ∀ {a b : List PyData}, okDL (a ++ b) = (okDL a && okDL b)
  | [], b => by simp only [List.nil_append, okDL, Bool.true_and]
  | d :: a, b => by simp only [List.cons_append, okDL, okDL_app, Bool.and_assoc]
theorem depthAll_app : ∀ {a b : List PyData}, PyData.depthAll (a ++ b) = max (PyData.depthAll a) (PyData.depthAll b)
  | [], b => by simp only [List.nil_append, PyData.depthAll]; omega
  | d :: a, b => by simp only [List.cons_append, PyData.depthAll, depthAll_app]; omega
theorem weightAll_app : ∀ {a b : List PyData}, PyData.weightAll (a ++ b) = PyData.weightAll a + PyData.weightAll b
  | [], b => by simp only [List.nil_append, PyData.weightAll]; omega
  | d :: a, b => by simp only [List.cons_append, PyData.weightAll, weightAll_app]; omega
theorem bdl_more {m n : Nat} {ds : List PyData} (h : BdL m n ds) : BdL m (n + 10) (ds ++ [.str "more"]) := by
  have c : BdL _ _ [PyData.str "more"] := BdL.cons (Bd.str (n := 4) ⟨rfl, by decide⟩) BdL.nil
  refine ⟨by rw [okDL_app, h.ok, c.ok]; rfl, by rw [depthAll_app]; have := h.dep; have := c.dep; omega, by rw [weightAll_app]; have := h.wt; have := c.wt; omega⟩
theorem bdl_all : ∀ {ds : List PyData}, (∀ d ∈ ds, Bd 2 10 d) → BdL 2 (11 * ds.length) ds
  | [], _ => ⟨rfl, by decide, Nat.le_refl _⟩
  | d :: ds, h => by
    have := BdL.cons (h d List.mem_cons_self) (bdl_all fun e he => h e (List.mem_cons_of_mem _ he))
    refine ⟨this.ok, this.dep, Nat.le_trans this.wt ?_⟩
    rw [List.length_cons]
    omega
theorem fate_st {f : Str} (h : wFates.contains f = true) : St 10 f := by
  have hm : f ∈ wFates := by simpa using h
  rcases List.mem_cons.mp hm with h | h
  · rw [h]; exact ⟨rfl, by decide⟩
  · rcases List.mem_cons.mp h with h | h
    · rw [h]; exact ⟨rfl, by decide⟩
    · rw [List.mem_singleton.mp h]; exact ⟨rfl, by decide⟩
theorem bdl_fates {fl : List Str} (h : ∀ f ∈ fl, wFates.contains f = true) : ∀ d ∈ fl.map PyData.str, Bd 2 10 d := fun d hd => by
  obtain ⟨f, hf, rfl⟩ := List.mem_map.mp hd
  exact (Bd.str (fate_st (h f hf))).mono (by decide) (Nat.le_refl _)
theorem dtl_set {K : PySem.W.Frag} {G : Hp} {v : V} {d : PyData} (h : Dt K G v d) : ∀ {xs : List V} {ds : List PyData} {j : Nat}, DtL K G xs ds → DtL K G (xs.set j v) (ds.set j d)
  | _, _, _, .nil => .nil
  | _, _, 0, .cons _ t => .cons h t
  | _, _, j + 1, .cons a t => .cons a (dtl_set h t)
theorem dtl_app {K : PySem.W.Frag} {G : Hp} : ∀ {xs ys : List V} {ds es : List PyData}, DtL K G xs ds → DtL K G ys es → DtL K G (xs ++ ys) (ds ++ es)
  | _, _, _, _, .nil, h => h
  | _, _, _, _, .cons a t, h => .cons a (dtl_app t h)
theorem fates_len {n : Nat} {ds : List PyData} (h : ds.length ≠ n) : fatesB n (.list ds) = false := by
  show (true && decide (ds.length = n) && ds.all isF) = false
  rw [decide_eq_false h, Bool.and_false, Bool.false_and]
theorem fates_lenT {n : Nat} {ds : List PyData} (h : ds.length ≠ n) : fatesB n (.tuple ds) = false := by
  show (true && decide (ds.length = n) && ds.all isF) = false
  rw [decide_eq_false h, Bool.and_false, Bool.false_and]
theorem fates_bad {n : Nat} {ds : List PyData} (h : ds.all isF = false) : fatesB n (.list ds) = false := by
  show (true && decide (ds.length = n) && ds.all isF) = false
  rw [h, Bool.and_false]
theorem all_bad {ds : List PyData} {d : PyData} {j : Nat} (h : ds[j]? = some d) (hd : isF d = false) : ds.all isF = false := by
  rw [List.all_eq_false]
  exact ⟨d, List.mem_of_getElem? h, by rw [hd]; decide⟩
theorem cut_strs (fl : List Str) (lo hi : Option Int) : ∃ gl : List Str, cutV (fl.map V.str) lo hi = gl.map V.str ∧ (∀ f ∈ gl, f ∈ fl) := by
  refine ⟨(fl.drop (HT.sIx (fl.map V.str).length 0 lo)).take (HT.sIx (fl.map V.str).length (fl.map V.str).length hi - HT.sIx (fl.map V.str).length 0 lo), ?_, fun f hf => List.mem_of_mem_drop (List.mem_of_mem_take hf)⟩
  unfold cutV
  rw [List.map_take, List.map_drop]
theorem cut_to {xs : List V} {j : Nat} (h : j ≤ xs.length) : (cutV xs none (some (j : Int))).length = j := by
  unfold cutV
  rw [List.length_take, List.length_drop, HT.sIx_nat, HT.sIx_none]
  omega
theorem cut_from {xs : List V} {j : Nat} (h : j ≤ xs.length) : (cutV xs (some (j : Int)) none).length = xs.length - j := by
  unfold cutV
  rw [List.length_take, List.length_drop, HT.sIx_nat, HT.sIx_none]
  omega
theorem Rp.dictL {x : Str} {m : Nat} {ds : List PyData} {n : Nat} (hx : St m x) (b2 : BdL 2 n ds) (hm : m ≤ 100) (hn : n ≤ 10000) : Rp (.dict [(.str x, .list ds)]) := by
  have b1 := Bd.str hx
  have b3 := b2.lst
  refine ⟨?_, ?_, ?_⟩
  · have h1 := okD_fits _ b1.ok (Nat.le_trans b1.wt (by omega))
    have h2 := okD_fits _ b3.ok (Nat.le_trans b3.wt (by omega))
    simp only [fits, fitsP, Bool.and_true, Bool.and_eq_true]
    exact ⟨by simpa only [fits] using h1, by simpa only [fits] using h2⟩
  · refine PyData.shown_fits (B := 13) (by decide) (by decide) ?_ ?_
    · have h1 := okD_short _ b1.ok
      have h2 := okD_short _ b3.ok
      simp only [PyData.leavesShort, PyData.leavesShortKv, Bool.and_true, Bool.and_eq_true]
      exact ⟨by simpa only [PyData.leavesShort] using h1, by simpa only [PyData.leavesShort] using h2⟩
    · have h1 := b1.wt
      have h2 := b2.wt
      simp only [PyData.weight, PyData.weightKv] at h1 h2 ⊢
      omega
  · have h2 := b2.dep
    simp only [PyData.depth, PyData.depthKv]
    omega
theorem Rv.bdl {ds : List PyData} {m n : Nat} (h : BdL m n ds) (hm : m ≤ 50) (hn : n ≤ 100000) : Rv (.list ds) :=
  ⟨Rp.bd h.lst (by omega) (by omega), fun es e => by
    cases e
    exact Rp.bd (bdl_more h).lst (by omega) (by omega)⟩
theorem x_lcE {K : PySem.W.Frag} {σ : L2.St} {H : Hp} {ta : TA} {g : TG} {tt : TT} {te : TE} {vs : List Nat} {Q : VK}
    (h : ta σ H fun zs H1 => ∃ a xs, zs = [.ref a] ∧ SqL K H1 a xs ∧ tLc (iAt (Ite K a)) g tt te vs σ H1 Q) : tLc (iEnum K ta) g tt te vs σ H Q := h
theorem x_whenH {c : TT} {t : TS} {n : L2.St → Hp → Prop} {r1 : VK} {b1 c1 : L2.St → Hp → Prop} {σ : L2.St} {H : Hp} (S : Hp → Prop) (rest : ∀ H, S H → n σ H) (h : (∀ H, S H → n σ H) → c σ H fun k H1 => if k = true then t ⟨n, r1, b1, c1⟩ σ H1 else n σ H1) : tIfS c t tNext ⟨n, r1, b1, c1⟩ σ H := h rest
theorem nonempty_strs {fl : List Str} : (fl.map V.str).isEmpty = decide (fl.length = 0) := by cases fl <;> rfl
section
variable {P : Program} {w : World} {K : PySem.W.Frag} {mg : Str → Option Value} {base : Heap} {k : Nat} {fa C D CB CT CM CF CP CC : Addr}
abbrev s__law_spoilt_fates : Stmt := top 39
theorem sc__law_spoilt_fates : FnScope ["box", "fates", "at", "way", "bad", "whole", "k", "fate"] ["box", "fates"] (defScope s__law_spoilt_fates) := ⟨rfl, rfl, rfl, by decide +kernel, rfl, by decide +kernel, by decide +kernel⟩
def sp_sf (K : PySem.W.Frag) : Sp := fun vs H Q _ => ∃ (G : Hp) (R : List (Addr × HO)) (b pf : Addr) (N : Nat) (bx : List V) (fl : List Str), vs = [.ref b, .ref pf] ∧ Own G H ((b, .lst bx) :: R) ∧ Box (N + 5) bx ∧ SqL K G pf (fl.map V.str) ∧ fl.length ≤ 300 ∧ (∀ f ∈ fl, wFates.contains f = true) ∧
  ∀ (G' H' : Hp) (v : V) (d : PyData) (L0 : List (Addr × HO)) bx', Same G G' → Own G' H' ((b, .lst bx') :: (L0 ++ R)) → Val K G' v d L0 → fatesB fl.length d = false → Rv d → (sqI d).length ≤ 1000 → Box N bx' → Q v H'
theorem ok_sf {f : Addr} {fd : FuncData} (F : Fun K "_law_spoilt_fates" "_law_spoilt_fates" s__law_spoilt_fates f fd) (B : Bt mg) (C__law_take : Cal P w K mg base k "_law_take" ["box", "many"] sp_take) : FnG P w K mg base (k + 1) f fd ["box", "fates"] (sp_sf K) := by
  refine fnG_of F sc__law_spoilt_fates (fun vs H Q E h => ?_) (fun cdv A outer s H vs Q E r h => ?_)
  · obtain ⟨_, _, _, _, _, _, _, rfl, _⟩ := h
    rfl
  · obtain ⟨G, R, b, pf, N, bx, fl, rfl, O, bo, hf, hl, hft, q⟩ := h
    refine ⟨_, (pss_cons (ps_asg (d_tup (pa_cons (g_call C__law_take r (by rfl) passL (pa_cons (pv 0) (pa_cons (pe_op (oAddK (K := K) rfl) (pe_callB (cLenK (K := K) rfl) (by rfl) B.len (by decide +kernel) (pa_cons (pv 1) pa_nil)) pe_int) pa_nil))) (pa_cons (g_call C__law_take r (by rfl) passL (pa_cons (pv 0) (pa_cons pe_int pa_nil))) pa_nil))) (pg_tupK (K := K) (n := 2) rfl rfl (pgs_cons (pg_name (i := 2) sc__law_spoilt_fates.nd rfl (Or.inr rfl)) (pgs_cons (pg_name (i := 3) sc__law_spoilt_fates.nd rfl (Or.inl rfl)) pgs_nil))))
       (pss_cons (ps_set (i := 4) sc__law_spoilt_fates.nd rfl (Or.inr rfl) (pe_ix (ixK (K := K) rfl) (d_lst (pa_cons pe_non (pa_cons pe_str (pa_cons pe_str (pa_cons pe_bl (pa_cons (d_tup (pa_cons pe_str pa_nil)) (pa_cons pe_int (pa_cons pe_str (pa_cons pe_str pa_nil))))))))) (g_call C__law_take r (by rfl) passL (pa_cons (pv 0) (pa_cons pe_int pa_nil))) (fun _ _ => rfl)))
       (pss_cons (ps_if (pt_cmpR (oEqK (K := K) rfl r) (pv 3) pe_int (nomark _))
       (pss_one (ps_ret (pe_op (oAddK (K := K) rfl) (pe_op (oAddK (K := K) rfl) (pe_slice (oSlK (K := K) rfl) (pv 1) po_none (po_some (pv 2))) (d_lst (pa_cons (pe_ix (ixK (K := K) rfl) (d_lst (pa_cons pe_str (pa_cons pe_str (pa_cons pe_str pa_nil)))) (g_call C__law_take r (by rfl) passL (pa_cons (pv 0) (pa_cons pe_int pa_nil))) (fun _ _ => rfl)) pa_nil))) (pe_slice (oSlK (K := K) rfl) (pv 1) (po_some (pv 2)) po_none))))
       pss_nil)
       (pss_cons (ps_if (PW.pt (pw_and (pt_cmpR (oEqK (K := K) rfl r) (pv 3) pe_int (nomark _)) (pw_and1 (pt_cmpR (oNeK (K := K) rfl r) (pv 1) (d_lst pa_nil) (nomark _)))))
       (pss_one (ps_ret (pe_slice (oSlK (K := K) rfl) (pv 1) po_none (po_some (pe_op op_sub (pe_callB (cLenK (K := K) rfl) (by rfl) B.len (by decide +kernel) (pa_cons (pv 1) pa_nil)) pe_int)))))
       pss_nil)
       (pss_cons (ps_if (PW.pt (pw_and (pt_cmpR (oEqK (K := K) rfl r) (pv 3) pe_int (nomark _)) (pw_and1 (pt_cmpR (oNeK (K := K) rfl r) (pv 1) (d_lst pa_nil) (nomark _)))))
       (pss_one (ps_ret (pe_lc (own := [("k", 6), ("fate", 7)]) rfl sc__law_spoilt_fates.nd (pi_enum (by rfl) B.enumerate (pa_cons (pv 1) pa_nil)) (blkOk_by (N := ["box", "fates", "at", "way", "bad", "whole", "k", "fate"]) (sc := defScope s__law_spoilt_fates) (by decide +kernel)) (fun _ _ _ _ _ => (pg_tupK (K := K) (n := 2) rfl rfl (pgs_cons (pg_name (i := 6) sc__law_spoilt_fates.nd rfl (Or.inl rfl)) (pgs_cons (pg_name (i := 7) sc__law_spoilt_fates.nd rfl (Or.inl rfl)) pgs_nil)))) (fun _ _ _ _ _ => pts_nil) (fun _ _ _ _ _ => (pe_ifExp (pt_cmpR (oEqK (K := K) rfl r) (pv 6) (pe_op op_modN (pe_callTy cInt (by rfl) B.int (by decide +kernel) (pa_cons (pv 2) pa_nil)) (pe_callB (cLenK (K := K) rfl) (by rfl) B.len (by decide +kernel) (pa_cons (pv 1) pa_nil))) (nomark _)) (pv 4) (pv 7))))))
       pss_nil)
       (pss_cons (ps_set (i := 5) sc__law_spoilt_fates.nd rfl (Or.inl rfl) (d_lst (pa_cons pe_non (pa_cons d_dict (pa_cons pe_str (pa_cons pe_bl (pa_cons pe_int (pa_cons (d_lst (pa_cons (pv 1) pa_nil)) (pa_cons pe_str (pa_cons (d_tup (pa_cons (pe_callTy (cTupleK (K := K) rfl) (by rfl) B.tuple (by decide +kernel) (pa_cons (pv 1) pa_nil)) (pa_cons pe_str pa_nil))) (pa_cons (d_dict1 pe_str (pv 1)) (pa_cons (pe_op oMul (d_lst (pa_cons pe_str pa_nil)) (pe_op (oAddK (K := K) rfl) (pe_callB (cLenK (K := K) rfl) (by rfl) B.len (by decide +kernel) (pa_cons (pv 1) pa_nil)) pe_int)) pa_nil))))))))))))
       (pss_one (ps_ret (pe_ix (ixK (K := K) rfl) (pv 5) (g_call C__law_take r (by rfl) passL (pa_cons (pv 0) (pa_cons pe_int pa_nil))) (fun _ _ => rfl)))))))))), ?_⟩
    try dsimp only [cxOf]
    refine x_start (σ' := [some _, some _, none, none, none, none, none, none]) rfl ?_
    have lm : (fl.map V.str).length = fl.length := List.length_map _
    have bf := bdl_all (bdl_fates hft)
    rw [List.length_map] at bf
    walk_at "s"
    refine x_lenl (O.seq hf) ?_
    rw [lm]
    walk_at "s"
    refine ⟨G, R, b, _, N + 4, bx, rfl, O, bo, by omega, by omega, fun H1 r1 b1 r10 r11 O1 B1 => ?_⟩
    obtain ⟨at_, rfl⟩ := Int.eq_ofNat_of_zero_le r10
    walk_at "s"
    refine ⟨G, R, b, 4, N + 3, b1, rfl, O1, B1, by decide, by decide, fun H2 way b2 y0 y1 O2 B2 => ?_⟩
    refine ⟨by show 2 ≤ sizeLine; decide, x_fix O2 fun pt Gt Ht st Ot et => ?_⟩
    refine x_gT (SqT.of (Ot.sub _ _ et)) rfl ?_
    refine x_gC ?_
    walk_at "n1"
    refine x_gC ?_
    walk_at "n1"
    refine x_gNl ?_
    refine x_seq (x_asgG (x_eval (fun v' H' => ∃ (G' : Hp) (d : PyData) (bx' : List V), Same G G' ∧ Own G' H' ((b, .lst bx') :: R) ∧ Dt K G' v' d ∧ isF d = false ∧ Bd 2 10 d ∧ Box (N + 2) bx') (fun Q2 fin2 => ?_) ?_))
    · walk_at "s"
      refine ⟨by show 1 ≤ sizeLine; decide, x_fix Ot fun p3 G3 H3 s3 O3 e3 => ?_⟩
      walk_at "s"
      refine ⟨by show 8 ≤ sizeLine; decide, x_fix O3 fun p4 G4 H4 s4 O4 e4 => ?_⟩
      walk_at "s"
      refine ⟨G4, R, b, 8, N + 2, b2, rfl, O4, B2, by decide, by decide, fun H5 r5 b5 r50 r51 O5 B5 => ?_⟩
      have hq := SqL.of (K := K) (O5.sub _ _ e4)
      have flat : ∀ (v : V) (d : PyData), Dt K G4 v d → isF d = false → Bd 2 10 d → Q2 v H5 := fun v d h1 h2 h3 => fin2 _ _ ⟨G4, d, b5, st.trans (s3.trans s4), O5, h1, h2, h3, B5⟩
      obtain ⟨j, rfl⟩ := Int.eq_ofNat_of_zero_le r50
      rcases (show j = 0 ∨ j = 1 ∨ j = 2 ∨ j = 3 ∨ j = 4 ∨ j = 5 ∨ j = 6 ∨ j = 7 by omega) with rfl | rfl | rfl | rfl | rfl | rfl | rfl | rfl
      · exact x_ixl hq rfl (flat _ _ .non rfl ⟨rfl, by decide, by decide⟩)
      · exact x_ixl hq rfl (flat _ _ (.str "Done") (by decide +kernel) ((Bd.str (n := 10) ⟨rfl, by decide⟩).mono (by decide) (by decide)))
      · exact x_ixl hq rfl (flat _ _ (.str "") (by decide +kernel) ((Bd.str (n := 10) ⟨rfl, by decide⟩).mono (by decide) (by decide)))
      · exact x_ixl hq rfl (flat _ _ (.bl true) rfl ⟨rfl, by decide, by decide⟩)
      · exact x_ixl hq rfl (flat _ (.tuple [.str "done"]) (.tup (SqT.of (s4 _ _ e3)) (.cons (.str "done") .nil)) rfl ((BdL.cons (Bd.str (n := 4) ⟨rfl, by decide⟩) BdL.nil).tup.mono (by decide) (by decide)))
      · exact x_ixl hq rfl (flat _ _ (.int 0) rfl ⟨rfl, by decide, by decide⟩)
      · exact x_ixl hq rfl (flat _ _ (.str "tor") (by decide +kernel) ((Bd.str (n := 10) ⟨rfl, by decide⟩).mono (by decide) (by decide)))
      · exact x_ixl hq rfl (flat _ _ (.str "done ") (by decide +kernel) ((Bd.str (n := 10) ⟨rfl, by decide⟩).mono (by decide) (by decide)))
    rintro vb H3 ⟨G3, db, b3, s3, O3, hb, ib, bb, B3⟩
    have own : ∀ (p : Addr) (xs : List V) (ds : List PyData) (m n : Nat) (G' H' : Hp) (bx' : List V), Same G G' → Own G' H' ((b, .lst bx') :: (p, .lst xs) :: R) → DtL K G' xs ds → fatesB fl.length (.list ds) = false → BdL m n ds → m ≤ 50 → n ≤ 100000 → ds.length ≤ 1000 → Box N bx' → Q (.ref p) H' :=
      fun p xs ds m n G' H' bx' s' O' hd hF hB hm hn hl' B' => q G' H' _ (.list ds) [(p, .lst xs)] bx' s' O' (.inr ⟨p, xs, ds, rfl, rfl, rfl, hd, by rw [hd.length]; exact hl'⟩) hF (Rv.bdl hB hm hn) hl' B'
    walk_at "s"
    refine x_eq rfl ?_
    rw [int_eq]
    walk_at "s"
    refine ite_b (fun c => ?_) (fun c => ?_)
    · walk_at "s"
      refine x_slL (O3.seq (s3.seq hf)) (x_fix O3 fun p4 G4 H4 s4 O4 e4 => ?_)
      obtain ⟨gl, eg, mg_⟩ := cut_strs fl none (some (at_ : Int))
      have lg : gl.length = at_ := by
        have := congrArg List.length eg
        rw [cut_to (by rw [lm]; omega), List.length_map] at this
        omega
      rw [eg] at e4
      walk_at "s"
      refine ⟨by show 3 ≤ sizeLine; decide, x_fix O4 fun p5 G5 H5 s5 O5 e5 => ?_⟩
      walk_at "s"
      refine ⟨G5, R, b, 3, N + 1, b3, rfl, O5, B3, by decide, by decide, fun H6 r6 b6 r60 r61 O6 B6 => ?_⟩
      obtain ⟨fx, ef, hfx⟩ : ∃ f : Str, atI [V.str (Str.ofString "done"), V.str (Str.ofString "lost"), V.str (Str.ofString "torn")] r6 = some (.str f) ∧ wFates.contains f = true := by
        rcases (show r6 = 0 ∨ r6 = 1 ∨ r6 = 2 by omega) with rfl | rfl | rfl
        · exact ⟨_, rfl, by decide +kernel⟩
        · exact ⟨_, rfl, by decide +kernel⟩
        · exact ⟨_, rfl, by decide +kernel⟩
      refine x_ixl (SqL.of (O6.sub _ _ e5)) ef ?_
      walk_at "s"
      refine ⟨by show 1 ≤ sizeLine; decide, x_fix O6 fun p7 G7 H7 s7 O7 e7 => ?_⟩
      refine x_addl (O7.sub _ _ ((s5.trans s7) _ _ e4)) (O7.sub _ _ e7) (sz20 (by rw [List.length_map]; show _ + 1 ≤ _; omega)) (x_fix O7 fun p8 G8 H8 s8 O8 e8 => ?_)
      walk_at "s"
      have s38 := s3.trans (s4.trans (s5.trans (s7.trans s8)))
      refine x_slL (O8.seq (s38.seq hf)) (x_fix O8 fun p9 G9 H9 s9 O9 e9 => ?_)
      obtain ⟨gl2, eg2, mg2⟩ := cut_strs fl (some (at_ : Int)) none
      have lg2 : gl2.length = fl.length - at_ := by
        have := congrArg List.length eg2
        rw [cut_from (by rw [lm]; omega)] at this
        simp only [List.length_map] at this
        omega
      rw [eg2] at e9
      refine x_addl (O9.sub _ _ (s9 _ _ e8)) (O9.sub _ _ e9) (sz20 (by simp only [List.length_append, List.length_map, List.length_cons, List.length_nil]; omega)) (x_new O9 fun pa Ha Oa => ?_)
      refine own pa _ ((gl.map PyData.str ++ [.str fx]) ++ gl2.map PyData.str) 2 _ G9 Ha b6 (s38.trans s9) Oa.swap (dtl_app (dtl_app dtl_strs (.cons (.str fx) .nil)) dtl_strs) (fates_len ?_) (bdl_all fun d hd => ?_) (by decide) ?_ ?_ (B6.le (by omega))
      · simp only [List.length_append, List.length_map, List.length_cons, List.length_nil]
        omega
      · rcases List.mem_append.mp hd with hd | hd
        · rcases List.mem_append.mp hd with hd | hd
          · exact bdl_fates (fun f h => hft f (mg_ f h)) d hd
          · rw [List.mem_singleton.mp hd]
            exact (Bd.str (fate_st hfx)).mono (by decide) (Nat.le_refl _)
        · exact bdl_fates (fun f h => hft f (mg2 f h)) d hd
      · simp only [List.length_append, List.length_map, List.length_cons, List.length_nil]
        omega
      · simp only [List.length_append, List.length_map, List.length_cons, List.length_nil]
        omega
    refine x_next ?_
    refine x_seq (x_whenH (fun H' => ∃ G' : Hp, Same G3 G' ∧ Own G' H' ((b, .lst b3) :: R)) ?_ (fun tl => ?_))
    · rintro H4 ⟨G4, s4, O4⟩
      refine x_seq (x_whenH (fun H' => ∃ G' : Hp, Same G4 G' ∧ Own G' H' ((b, .lst b3) :: R)) ?_ (fun tl => ?_))
      · rintro H5 ⟨G5, s5, O5⟩
        walk_at "s"
        refine x_fix O5 fun p6 G6 H6 s6 O6 e6 => ?_
        walk_at "s"
        refine ⟨by show 1 ≤ sizeLine; decide, x_new O6 fun p7 H7 O7 => ?_⟩
        walk_at "s"
        have sf6 := s3.trans (s4.trans (s5.trans s6))
        refine x_tupleL (O7.seq (sf6.seq hf)) (x_fix O7 fun p8 G8 H8 s8 O8 e8 => ?_)
        walk_at "s"
        refine ⟨by show 2 ≤ sizeLine; decide, x_fix O8 fun p9 G9 H9 s9 O9 e9 => ?_⟩
        walk_at "s"
        refine x_dict1 rfl (x_fix O9 fun pa Ga Ha sa Oa ea => ?_)
        walk_at "s"
        refine ⟨by show 1 ≤ sizeLine; decide, x_fix Oa fun pb Gb Hb sb Ob eb => ?_⟩
        walk_at "s"
        have sfb := sf6.trans (s8.trans (s9.trans (sa.trans sb)))
        refine x_lenl (Ob.seq (sfb.seq hf)) ?_
        rw [lm]
        walk_at "s"
        refine x_rep (Ob.sub _ _ eb) (by omega) (by omega) (by show 1 ≤ 1000; decide) ?_
        have er : (List.replicate ((fl.length : Int) + 1).toNat [V.str (Str.ofString "done")]).flatten = (List.replicate (fl.length + 1) (Str.ofString "done")).map V.str := by
          rw [show ((fl.length : Int) + 1).toNat = fl.length + 1 by omega, List.flatten_replicate_singleton, List.map_replicate]
        rw [er]
        refine x_new Ob fun pc Hc Oc => ?_
        walk_at "s"
        refine ⟨by show 10 ≤ sizeLine; decide, x_fix Oc fun pd Gd Hd sd Od ed => ?_⟩
        walk_at "s"
        have Oe : Own Gd Hd ((b, .lst b3) :: (pc, .lst ((List.replicate (fl.length + 1) (Str.ofString "done")).map V.str)) :: (p7, .lst [V.ref pf]) :: R) := Own.frontAt (A := [_, _]) Od
        refine ⟨Gd, _, b, 10, N, b3, rfl, Oe, B3.le (by omega), by decide, by decide, fun He re b9 re0 re1 Of B9 => ?_⟩
        have sG := sfb.trans sd
        have Oz : Own Gd He ((b, .lst b9) :: R) := Own.dropAt (A := [_]) (Own.dropAt (A := [_]) Of)
        have O7' : Own Gd He ((b, .lst b9) :: (p7, .lst [V.ref pf]) :: R) := Own.dropAt (A := [_]) Of
        have Oc' : Own Gd He ((b, .lst b9) :: (pc, .lst ((List.replicate (fl.length + 1) (Str.ofString "done")).map V.str)) :: R) := Own.dropAt (A := [_, _]) Of
        have hq := SqL.of (K := K) (Of.sub _ _ ed)
        have flat : ∀ (v : V) (d : PyData), Dt K Gd v d → tyN d ≠ "list" → Rp d → fatesB fl.length d = false → (sqI d).length ≤ 1000 → Q v He := fun v d h1 h2 h3 h4 h5 => q Gd He v d [] b9 sG Oz (val_flat h1 h2) h4 (Rv.of h3 h2) h5 B9
        have hfd : Dt K Gd (.ref pf) (.list (fl.map PyData.str)) := .lst (sG.seq hf) dtl_strs
        obtain ⟨j, rfl⟩ := Int.eq_ofNat_of_zero_le re0
        rcases (show j = 0 ∨ j = 1 ∨ j = 2 ∨ j = 3 ∨ j = 4 ∨ j = 5 ∨ j = 6 ∨ j = 7 ∨ j = 8 ∨ j = 9 by omega) with rfl | rfl | rfl | rfl | rfl | rfl | rfl | rfl | rfl | rfl
        · exact x_ixl hq rfl (flat _ _ .non (by decide) (rp0 ⟨rfl, Nat.le_refl _, Nat.le_refl _⟩) rfl (Nat.zero_le _))
        · exact x_ixl hq rfl (flat _ (.dict []) (.dic (kvs := []) ((s8.trans (s9.trans (sa.trans (sb.trans sd)))) _ _ e6) .nil .nil) (by decide) (Rp.bd (m := 2) (n := 10) ⟨rfl, by decide, by decide⟩ (by decide) (by decide)) rfl (Nat.zero_le _))
        · exact x_ixl hq rfl (flat _ _ (.str "done") (by decide) (Rp.bd (Bd.str (n := 4) ⟨rfl, by decide⟩) (by decide) (by decide)) rfl (Nat.zero_le _))
        · exact x_ixl hq rfl (flat _ _ (.bl true) (by decide) (rp0 ⟨rfl, Nat.le_refl _, Nat.le_refl _⟩) rfl (Nat.zero_le _))
        · exact x_ixl hq rfl (flat _ _ (.int 0) (by decide) (Rp.int (by decide)) rfl (Nat.zero_le _))
        · exact x_ixl hq rfl (own p7 _ [.list (fl.map PyData.str)] _ _ Gd He b9 sG O7' (.cons hfd .nil) (fates_bad rfl) (BdL.cons bf.lst BdL.nil) (by decide) (by omega) (by show 1 ≤ 1000; decide) B9)
        · exact x_ixl hq rfl (flat _ _ (.str "") (by decide) (Rp.bd (Bd.str (n := 0) ⟨rfl, by decide⟩) (by decide) (by decide)) rfl (Nat.zero_le _))
        · exact x_ixl hq rfl (flat _ (.tuple [.tuple (fl.map PyData.str), .str "done"]) (.tup (SqT.of ((sa.trans (sb.trans sd)) _ _ e9)) (.cons (.tup (SqT.of ((s9.trans (sa.trans (sb.trans sd))) _ _ e8)) dtl_strs) (.cons (.str "done") .nil))) (by show ("tuple" : String) ≠ "list"; decide)
            (Rp.bd (BdL.cons bf.tup (BdL.cons (Bd.str (n := 4) ⟨rfl, by decide⟩) BdL.nil)).tup (by decide) (by omega)) (by
              show (true && decide (2 = fl.length) && false) = false
              rw [Bool.and_false]) (by show 2 ≤ 1000; decide))
        · exact x_ixl hq rfl (flat _ (.dict [(.str "a", .list (fl.map PyData.str))]) (.dic (kvs := [(.inr "a", .ref pf)]) ((sb.trans sd) _ _ ea) (.cons (.str "a") .nil) (.cons hfd .nil)) (by show ("dict" : String) ≠ "list"; decide) (Rp.dictL (m := 1) ⟨rfl, by decide⟩ bf (by decide) (by omega)) rfl (Nat.zero_le _))
        · exact x_ixl hq rfl (own pc _ ((List.replicate (fl.length + 1) (Str.ofString "done")).map PyData.str) 2 _ Gd He b9 sG Oc' dtl_strs (fates_len (by rw [List.length_map, List.length_replicate]; omega)) (bdl_all (bdl_fates fun f h => by rw [(List.mem_replicate.mp h).2]; decide +kernel)) (by decide) (by rw [List.length_map, List.length_replicate]; omega) (by rw [List.length_map, List.length_replicate]; omega) B9)
      · walk_at "s"
        refine x_eq rfl ?_
        rw [int_eq]
        walk_at "s"
        refine ite_b (fun c2 => ?_) (fun _ => tl _ ⟨G4, Same.refl _, O4⟩)
        walk_at "s"
        refine ⟨by show 0 ≤ sizeLine; decide, x_fix O4 fun p5 G5 H5 s5 O5 e5 => ?_⟩
        refine .inr (.inr ⟨pf, p5, _, rfl, rfl, O5.seq ((s3.trans (s4.trans s5)).seq hf), SqL.of (O5.sub _ _ e5), ?_⟩)
        rw [nonempty_strs]
        walk_at "s"
        refine ite_b (fun c3 => ?_) (fun _ => tl _ ⟨G5, s5, O5⟩)
        have h0 : fl.length ≠ 0 := fun z => by rw [z] at c3; exact absurd c3 (by decide)
        have sf := s3.trans (s4.trans s5)
        walk_at "s"
        refine x_lcE ?_
        walk_at "s"
        refine ⟨pf, _, rfl, O5.seq (sf.seq hf), ?_⟩
        have hj : at_ % fl.length < fl.length := Nat.mod_lt _ (by omega)
        refine lc_own (by walk_at "n") walk_enum O5 (fun i G' L' acc => L' = (b, .lst b3) :: R ∧ acc = ((fl.map V.str).set (at_ % fl.length) vb).take i) ⟨rfl, by rw [List.take_zero]⟩ (fun i G' H' D L' acc s' O' _ => O'.seq ((sf.trans s').seq hf)) ?_ ?_
        · rintro i x G' H' H2 D L' acc hi s' O' ⟨rfl, rfl⟩ ⟨T1, vx, vy, rfl, hT, rfl, ex, ey⟩
          cases ex
          have O2 := O'.fix (o := .tup [V.int (i : Nat), vy]) hT
          have sT : Same G' (upd G' T1 (.tup [V.int (i : Nat), vy])) := Same.new (O'.free hT)
          refine x_gT (SqT.of upd_same) rfl ?_
          refine x_gC ?_
          walk_at "n1"
          refine x_gC ?_
          walk_at "n1"
          refine x_gNl ?_
          walk_at "s"
          have st2 := s'.trans sT
          have en : ((at_ : Int).fmod (fl.length : Int)) = ((at_ % fl.length : Nat) : Int) := by
            rw [Int.fmod_eq_emod_of_nonneg _ (by omega)]
            rfl
          refine x_lenl (O2.seq ((sf.trans st2).seq hf)) ?_
          rw [lm]
          refine x_rI (by omega) ?_
          rw [en]
          refine x_eq rfl ?_
          rw [int_eq]
          refine ⟨_, rfl, ?_⟩
          have hi' : i < fl.length := by rw [← lm]; exact hi
          have hz : (((fl.map V.str).set (at_ % fl.length) vb).take i).length < sizeLine := by
            rw [List.length_take, List.length_set, lm]
            exact lt_line (by omega)
          refine ite_b (fun c5 => ?_) (fun c5 => ?_)
          · have e5 : i = at_ % fl.length := by have := of_decide_eq_true c5; omega
            walk_at "s"
            refine lcn st2 O2 hz ⟨rfl, ?_⟩
            rw [List.take_add_one, ← e5, List.getElem?_set_self (by rw [lm]; exact hi')]
            rfl
          · have e5 : at_ % fl.length ≠ i := by have := of_decide_eq_false c5; omega
            walk_at "s"
            refine lcn st2 O2 hz ⟨rfl, ?_⟩
            rw [List.take_add_one, List.getElem?_set_ne e5, show (fl.map V.str)[i]? = some vy from ey]
            rfl
        · rintro G' H' D L' acc s' O' ⟨rfl, rfl⟩
          rw [List.take_of_length_le (by rw [List.length_set]; exact Nat.le_refl _)] at O'
          refine own D _ ((fl.map PyData.str).set (at_ % fl.length) db) 2 _ G' H' b3 (sf.trans s') O'.swap (dtl_set (hb.mono (s4.trans (s5.trans s'))) dtl_strs) (fates_bad (all_bad (j := at_ % fl.length) ?_ ib)) (bdl_all fun d hd => ?_) (by decide) ?_ ?_ (B3.le (by omega))
          · rw [List.getElem?_set_self (by rw [List.length_map]; exact hj)]
          · rcases List.mem_or_eq_of_mem_set hd with h | h
            · exact bdl_fates hft d h
            · rw [h]; exact bb
          · rw [List.length_set, List.length_map]; omega
          · rw [List.length_set, List.length_map]; omega
    walk_at "s"
    refine x_eq rfl ?_
    rw [int_eq]
    walk_at "s"
    refine ite_b (fun c2 => ?_) (fun _ => tl _ ⟨G3, Same.refl _, O3⟩)
    walk_at "s"
    refine ⟨by show 0 ≤ sizeLine; decide, x_fix O3 fun p5 G5 H5 s5 O5 e5 => ?_⟩
    refine .inr (.inr ⟨pf, p5, _, rfl, rfl, O5.seq ((s3.trans s5).seq hf), SqL.of (O5.sub _ _ e5), ?_⟩)
    rw [nonempty_strs]
    walk_at "s"
    refine ite_b (fun c3 => ?_) (fun _ => tl _ ⟨G5, s5, O5⟩)
    have h0 : fl.length ≠ 0 := fun z => by rw [z] at c3; exact absurd c3 (by decide)
    have sf := s3.trans s5
    walk_at "s"
    refine x_lenl (O5.seq (sf.seq hf)) ?_
    rw [lm]
    walk_at "s"
    rw [show ((fl.length : Nat) : Int) - 1 = ((fl.length - 1 : Nat) : Int) by omega]
    refine x_slL (O5.seq (sf.seq hf)) (x_new O5 fun p6 H6 O6 => ?_)
    obtain ⟨gl, eg, mg_⟩ := cut_strs fl none (some ((fl.length - 1 : Nat) : Int))
    have lg : gl.length = fl.length - 1 := by
      have := congrArg List.length eg
      rw [cut_to (by rw [lm]; omega)] at this
      simp only [List.length_map] at this
      omega
    rw [eg] at O6
    refine own p6 _ (gl.map PyData.str) 2 _ G5 H6 b3 sf O6.swap dtl_strs (fates_len (by rw [List.length_map]; omega)) (bdl_all (bdl_fates fun f h => hft f (mg_ f h))) (by decide) (by rw [List.length_map]; omega) (by rw [List.length_map]; omega) (B3.le (by omega))
end
end M85
set_option maxHeartbeats 4000000
namespace M85
open PySem PySem.Spec PyProof.Rows L2 G
local macro_rules | `(tactic| walk_at "hp") => `(tactic| first | assumption | exact Own.at0 (by assumption) | exact Own.at1 (by assumption) | exact Own.at2 (by assumption) | exact Own.at3 (by assumption) | exact Own.sub (by assumption) _ _ (by assumption) | exact upd_same)
local macro_rules | `(tactic| walk_at "hl") => `(tactic| first | assumption | exact SqL.of (by walk_at "hp") | exact Own.seq (by assumption) (by assumption) | exact Own.seq (by assumption) (SqL.of (by assumption)))
local macro_rules | `(tactic| walk_at "ht") => `(tactic| first | assumption | exact SqT.of (by walk_at "hp") | exact Own.set (by assumption) (by assumption) | exact Own.set (by assumption) (SqT.of (by assumption)))
local macro_rules | `(tactic| walk_at "n") => `(tactic| (intros; (try dsimp only [List.set, wipe, List.map, List.set_cons_succ, List.set_cons_zero]); (try exact rfl)))
local macro_rules | `(tactic| walk_at "n1") => `(tactic| with_reducible first | (refine x_asgN (σ' := ?s) ?hs ?q; (case hs => walk_at "n")) | (refine x_gN (σ' := ?s) ?hs ?q; (case hs => walk_at "n")) | (refine And.intro (show wipe _ _ = _ from (by walk_at "n")) ?_) | (refine x_parN (σ' := ?s) ?hs ?q; (case hs => walk_at "n")) | (refine x_par3N (σ' := ?s) ?hs ?q; (case hs => walk_at "n")))
local macro_rules | `(tactic| walk_at "v1") => `(tactic| ((with_reducible refine x_var (v := ?v) ?h ?q); (case h => first | exact rfl | assumption)))
local macro_rules | `(tactic| walk_at "s1") => `(tactic| with_reducible first | refine x_op ?_ | refine x_acons ?_ | refine x_c ?_ | refine x_call ?_ | refine x_anil ?_ | refine x_cb ?_ | refine x_seq ?_ | refine x_asgG ?_ | refine x_gC ?_ | refine x_gNl ?_ | refine x_ret ?_ | refine x_ifs ?_ | refine x_test ?_ | refine x_testb ?_ | refine x_and ?_ | refine x_or ?_ | refine x_andV ?_ | refine x_isB ?_ | refine x_add ?_ | refine x_lt ?_ | refine x_inti ?_ | refine x_isI ?_ | refine x_lst ?_ | refine x_tup ?_ | refine x_slice ?_ | refine x_nop ?_ | refine x_part ?_ | refine x_bm ?_ | refine x_sub ?_ | refine x_rI0 ?_ | refine x_drop ?_ | refine x_next ?_ | refine x_brk ?_ | refine x_cnt ?_ | refine x_par2 ?_ | refine x_par33 ?_ | refine x_un ?_ | refine x_rU ?_ | refine x_le ?_ | refine x_gt ?_ | refine x_ge ?_ | refine x_lts ?_ | refine x_intb ?_ | refine x_abs ?_ | refine x_tru ?_ | refine x_trub ?_ | refine x_trui ?_ | refine x_not ?_ | refine x_orV ?_ | refine x_notV ?_ | refine x_if ?_ | refine x_isN ?_ | refine x_isnN ?_ | refine x_dict ?_ | refine x_bm0 ?_ | refine x_revL ?_ | refine x_lcR ?_ | refine x_lcS ?_ | refine x_forR ?_ | refine x_forS ?_ | refine x_yes ?_ | refine ite_t ?_ | refine ite_f ?_)
local macro_rules | `(tactic| walk_at "s") => `(tactic| repeat (first | walk_at "v1" | walk_at "s1" | walk_at "n1"))
local macro_rules | `(tactic| walk_at "bd") => `(tactic| first | decide | omega | exact Nat.le_refl _)
local macro_rules | `(tactic| walk_at "ft") => `(tactic| first
  | with_reducible exact la_nil | with_reducible exact fa_nil | with_reducible exact ft_non | with_reducible exact ft_bl | with_reducible exact ft_dict | ((with_reducible refine ft_str (n := 10) (x := ?x) ?h); (case h => exact And.intro rfl (by decide))) | ((with_reducible refine ft_int (i := ?i) ?h); (case h => decide))
  | ((with_reducible refine ft_var (v := ?v) (m := ?m) (n := ?n) ?h ?f); (case h => exact rfl); (case f => assumption))
  | ((with_reducible refine fa_cons (m1 := ?a) (n1 := ?b) (m2 := ?c) (n2 := ?d) ?f ?g); (case f => walk_at "ft"); (case g => walk_at "ft"))
  | ((with_reducible refine ft_tup (m := ?m) (n := ?n) ?f ?h); (case f => walk_at "ft"); (case h => walk_at "bd"))
  | ((with_reducible refine ft_lst (m := ?m) (n := ?n) ?f ?h); (case f => walk_at "ft"); (case h => walk_at "bd"))
  | ((with_reducible refine la_cons (m1 := ?a) (n1 := ?b) (B := ?c) ?f ?g ?h ?i); (case f => walk_at "ft"); (case h => walk_at "bd"); (case i => walk_at "bd"); (case g => walk_at "ft"))
  | ((with_reducible refine lt_var (v := ?v) (m := ?m) (n := ?n) (B := ?b) ?h ?f); (case h => exact rfl); (case f => assumption))
  | ((with_reducible refine lt_add (B1 := ?a) (B2 := ?b) ?f ?g ?h); (case f => walk_at "ft"); (case g => walk_at "ft"); (case h => walk_at "bd"))
  | ((with_reducible refine ft_addsv (x := ?x) (m := ?m) (n := 10) ?h ?s ?a ?z); (case h => exact rfl); (case s => assumption); (case a => exact And.intro rfl (by decide)); (case z => decide))
  | ((with_reducible refine lt_lst ?f ?h); (case f => walk_at "ft"); (case h => walk_at "bd")))
local macro_rules | `(tactic| walk_at "s1") => `(tactic| with_reducible first | refine x_fld ?_ | refine x_sfld ?_ | refine x_m ?_ | refine x_mr ?_ | refine x_i ?_ | refine x_ir ?_ | refine x_gfld ?_ | refine x_mko ?_ | refine x_vei ?_ | refine x_ost ?_ | refine ite_nt ?_ | refine ite_nf ?_)
open Classical in
theorem pmL {l1 l2 : List (Addr × HO)} (h : ∀ (c : List (Addr × HO) → Nat) (e : Addr × HO → Nat), c [] = 0 → (∀ a l, c (a :: l) = e a + c l) → (∀ l l', c (l ++ l') = c l + c l') → c l1 = c l2) : l1.Perm l2 :=
  List.perm_iff_count.mpr fun x => h (List.count x) (fun a => if a = x then 1 else 0) List.count_nil (fun a l => by rw [List.count_cons]; simp only [beq_iff_eq]; omega) (fun l l' => List.count_append)
local macro_rules | `(tactic| walk_at "pm") => `(tactic| exact pmL fun c e h0 h1 h2 => by (simp only [h0, h1, h2]) <;> omega)
section
variable {P : Program} {w : World} {K : PySem.W.Frag} {mg : Str → Option Value} {base : Heap} {k : Nat} {fa C D CB CT CM CF CP CC : Addr}
theorem Val.grown {G : Hp} {v : V} {d : PyData} {L0 L1 L : List (Addr × HO)} {n : Nat} (h : Val K G v d L0) (g : Gr v L0 L1) (hb : fatesB n d = false) (hl : (sqI d).length ≤ 1000) (hL : ∀ x ∈ L1, x ∈ L) : ∃ d', DtO K G L v d' ∧ (sqI d').length ≤ 100000 ∧ fatesB n d' = false := by
  rcases g with ⟨e0, e1⟩ | ⟨p, xs, rfl, e0, e1⟩
  · rcases h with ⟨_, hd, ht⟩ | ⟨p, xs, ds, e2, _⟩
    · exact ⟨d, .inl hd, by omega, hb⟩
    · rw [e2] at e0; cases e0
  · rcases h with ⟨e2, _⟩ | ⟨p', xs', ds, e2, e3, rfl, hd, hx⟩
    · rw [e2] at e0; cases e0
    · rw [e2] at e0
      cases e0
      subst e1
      refine ⟨.list (ds ++ [.str "more"]), .inr ⟨p, _, _, rfl, hL _ List.mem_cons_self, rfl, dtl_snoc hd (.str _)⟩, ?_, fates_bad ?_⟩
      · show (ds ++ [PyData.str "more"]).length ≤ _
        rw [List.length_append, ← hd.length]
        show _ + 1 ≤ _
        omega
      · rw [List.all_append, show [PyData.str "more"].all isF = false from by decide +kernel, Bool.and_false]
theorem str_inj : ∀ {a b : List Str}, a.map PyData.str = b.map PyData.str → a = b
  | [], [], _ => rfl
  | [], _ :: _, h => by cases h
  | _ :: _, [], h => by cases h
  | x :: a, y :: b, h => by
    rw [List.map_cons, List.map_cons] at h
    obtain ⟨h1, h2⟩ := List.cons.inj h
    rw [PyData.str.inj h1, str_inj h2]
abbrev s__law_remains_right : Stmt := top 41
theorem sc__law_remains_right : FnScope ["box", "disk", "state", "by_name", "fates", "turn", "spoilt", "told", "given", "due", "fate", "others", "k"] ["box", "disk", "state", "by_name"] (defScope s__law_remains_right) := ⟨rfl, rfl, rfl, by decide +kernel, rfl, by decide +kernel, by decide +kernel⟩
def sp_rg (C : Addr) : Sp := fun vs H Q _ => ∃ (G : Hp) (R L : List (Addr × HO)) (b p a : Addr) (m j N : Nat) (lf : Option Nat) (dd : Bool) (bx : List V) (cn : Bool), vs = [.ref b, .ref p, .ref a, .bl cn] ∧ Own G H ((b, .lst bx) :: (L ++ R)) ∧ Pr C G p a m j lf dd L ∧ j ≤ 300 ∧ Box (N + 320) bx ∧
  ∀ (G' H' : Hp) (q p' a' : Addr) (L' : List (Addr × HO)) bx', Same G G' → Own G' H' ((b, .lst bx') :: (L ++ (L' ++ R))) → Pr C G' p a m j lf dd L → Pr C G' p' a' m 0 none false L' → G' q = some (.lst [.ref p', .ref a']) → Box N bx' → Q (.ref q) H'
theorem ok_rg {f : Addr} {fd : FuncData} (F : Fun K "_law_remains_right" "_law_remains_right" s__law_remains_right f fd) (B : Bt mg) (C__law_take : Cal P w K mg base k "_law_take" ["box", "many"] sp_take) (C__law_spoilt_fates : Cal P w K mg base k "_law_spoilt_fates" ["box", "fates"] (sp_sf K))
    (C__law_remains_told : Cal P w K mg base k "_law_remains_told" ["disk", "fates", "by_name"] (sp_mt K C)) (C__law_fates_due : Cal P w K mg base k "_law_fates_due" ["value", "many"] (sp_fd K)) (C__law_remained : Cal P w K mg base k "_law_remained" ["state", "fates"] (sp_rr K))
    (C__law_state_right : Cal P w K mg base k "_law_state_right" ["disk", "state"] (sp_sr C)) (M_Disk_remains : Mt P w K mg base k C "remains" ["self", "fates"] (sp_rm K C CF)) : FnG P w K mg base (k + 1) f fd ["box", "disk", "state", "by_name"] (sp_rg C) := by
  refine fnG_of F sc__law_remains_right (fun vs H Q E h => ?_) (fun cdv A outer s H vs Q E r h => ?_)
  · obtain ⟨_, _, _, _, _, _, _, _, _, _, _, _, _, rfl, _⟩ := h
    rfl
  · obtain ⟨G, R, L, b, p, a, m, jj, N, lf, dd, bx, cn, rfl, O, pr0, hj3, bo, q⟩ := h
    refine ⟨_, (pss_cons (ps_setLc (i := 4) (own := [("k", 12)]) rfl sc__law_remains_right.nd rfl rfl (sw_true rfl rfl rfl (by decide +kernel)) (pi_range1 (by rfl) B.range (pa_cons (pe_callB (cLenK (K := K) rfl) (by rfl) B.len (by decide +kernel) (pa_cons (pe_ix (ixK (K := K) rfl) (pv 2) pe_int (fun _ _ => rfl)) pa_nil)) pa_nil)) (blkOk_by (N := ["box", "disk", "state", "by_name", "fates", "turn", "spoilt", "told", "given", "due", "fate", "others", "k"]) (sc := defScope s__law_remains_right) (by decide +kernel)) (fun _ _ _ _ _ => (pg_name (i := 12) sc__law_remains_right.nd rfl (Or.inl rfl))) (fun _ _ _ _ _ => pts_nil) (fun _ _ _ _ _ => (pe_ix (ixK (K := K) rfl) (d_lst (pa_cons pe_str (pa_cons pe_str (pa_cons pe_str pa_nil)))) (g_call C__law_take r (by rfl) passL (pa_cons (pv 0) (pa_cons pe_int pa_nil))) (fun _ _ => rfl))))
       (pss_cons (ps_for (passes_of rfl) rfl (pi_range1 (by rfl) B.range (pa_cons pe_int pa_nil)) (pg_name (i := 5) sc__law_remains_right.nd rfl (Or.inl rfl))
       (pss_cons (ps_set (i := 6) sc__law_remains_right.nd rfl (Or.inl rfl) (g_call C__law_spoilt_fates r (by rfl) passL (pa_cons (pv 0) (pa_cons (pe_callTy (cListK (K := K) rfl) (by rfl) B.list (by decide +kernel) (pa_cons (pv 4) pa_nil)) pa_nil))))
       (pss_cons (ps_set (i := 7) sc__law_remains_right.nd rfl (Or.inl rfl) (g_call C__law_remains_told r (by rfl) passL (pa_cons (pv 1) (pa_cons (pv 6) (pa_cons (pv 3) pa_nil)))))
       (pss_cons (ps_if (PW.pt (pw_and (pt_truK (K := K) rfl (g_call C__law_fates_due r (by rfl) passL (pa_cons (pv 6) (pa_cons (pe_callB (cLenK (K := K) rfl) (by rfl) B.len (by decide +kernel) (pa_cons (pv 4) pa_nil)) pa_nil)))) (pw_and1 (pt_cmpR (oNeK (K := K) rfl r) (pe_ix (ixK (K := K) rfl) (pv 7) pe_int (fun _ _ => rfl)) pe_str (nomark _)))))
       (pss_one (ps_ret pe_non))
       pss_nil)
       (pss_one (ps_if (PW.pt (pw_and (pt_not (pt_truK (K := K) rfl (g_call C__law_fates_due r (by rfl) passL (pa_cons (pv 6) (pa_cons (pe_callB (cLenK (K := K) rfl) (by rfl) B.len (by decide +kernel) (pa_cons (pv 4) pa_nil)) pa_nil))))) (pw_and1 (pt_cmpR (oNeK (K := K) rfl r) (pv 7) (d_lst (pa_cons pe_str (pa_cons pe_bl pa_nil))) (nomark _)))))
       (pss_one (ps_ret pe_non))
       pss_nil))))))
       (pss_cons (ps_set (i := 8) sc__law_remains_right.nd rfl (Or.inl rfl) (pe_ifExp (pt_cmpR (oEqK (K := K) rfl r) (g_call C__law_take r (by rfl) passL (pa_cons (pv 0) (pa_cons pe_int pa_nil))) pe_int (nomark _)) (pe_callTy (cListK (K := K) rfl) (by rfl) B.list (by decide +kernel) (pa_cons (pv 4) pa_nil)) (pe_callTy (cTupleK (K := K) rfl) (by rfl) B.tuple (by decide +kernel) (pa_cons (pv 4) pa_nil))))
       (pss_cons (ps_par (i := 7) (j := 9) rfl sc__law_remains_right.nd rfl rfl (by decide) rfl rfl (pa_cons (g_call C__law_remains_told r (by rfl) passL (pa_cons (pv 1) (pa_cons (pv 8) (pa_cons (pe_not (pv 3)) pa_nil)))) (pa_cons (g_call C__law_remained r (by rfl) passL (pa_cons (pv 2) (pa_cons (pv 4) pa_nil))) pa_nil)) (by rfl))
       (pss_cons (ps_if (PW.pt (pw_or (pt_cmpR (oNeK (K := K) rfl r) (pe_ix (ixK (K := K) rfl) (pv 7) pe_int (fun _ _ => rfl)) pe_str (nomark _)) (pw_or (pt_cmpR (oNeK (K := K) rfl r) (pe_callB (cReprK (K := K) rfl r) (by rfl) B.repr (by decide +kernel) (pa_cons (pe_callTy (cListK (K := K) rfl) (by rfl) B.list (by decide +kernel) (pa_cons (pv 8) pa_nil)) pa_nil)) (pe_callB (cReprK (K := K) rfl r) (by rfl) B.repr (by decide +kernel) (pa_cons (pv 4) pa_nil)) (nomark _)) (pw_or1 (pt_not (pt_truK (K := K) rfl (g_call C__law_state_right r (by rfl) passL (pa_cons (pe_ix (ixK (K := K) rfl) (pv 7) pe_int (fun _ _ => rfl)) (pa_cons (pv 9) pa_nil)))))))))
       (pss_one (ps_ret pe_non))
       pss_nil)
       (pss_cons (ps_if (pt_truK (K := K) rfl (pe_callB (cIsiK (K := K) rfl) (by rfl) B.isinstance (by decide +kernel) (pa_cons (pv 8) (pa_cons (pe_bltn (v := .ty "list") (u := .type "list") (by rfl) B.list (by decide +kernel) rfl) pa_nil))))
       (pss_cons (ps_expr (pe_bmK' (K := K) rfl PySem.F.plainAttrs_list PySem.F.slot_list_append PySem.F.type_list_append mApp (pv 8) (pa_cons pe_str pa_nil)))
       (pss_one (ps_expr (pe_bm0Q (K := K) rfl PySem.F.plainAttrs_list PySem.F.slot_list_reverse PySem.F.type_list_reverse mt_reverse (pv 8)))))
       pss_nil)
       (pss_cons (ps_for (passes_of rfl) rfl (pi_sqK (K := K) rfl (d_lst (pa_cons pe_str (pa_cons pe_str (pa_cons pe_str pa_nil))))) (pg_name (i := 10) sc__law_remains_right.nd rfl (Or.inl rfl))
       (pss_cons (ps_set (i := 11) sc__law_remains_right.nd rfl (Or.inl rfl) (pe_op oMul (d_lst (pa_cons (pv 10) pa_nil)) (pe_callB (cLenK (K := K) rfl) (by rfl) B.len (by decide +kernel) (pa_cons (pv 4) pa_nil))))
       (pss_one (ps_if (pt_not (pt_truK (K := K) rfl (g_call C__law_state_right r (by rfl) passL (pa_cons (g_meth M_Disk_remains r (takes_of rfl rfl rfl rfl) (pv 1) (pa_cons (pv 11) pa_nil)) (pa_cons (g_call C__law_remained r (by rfl) passL (pa_cons (pv 2) (pa_cons (pv 11) pa_nil))) pa_nil)))))
       (pss_one (ps_ret pe_non))
       pss_nil))))
       (pss_cons (ps_if (PW.pt (pw_or (pt_not (pt_truK (K := K) rfl (g_call C__law_state_right r (by rfl) passL (pa_cons (pv 1) (pa_cons (pv 2) pa_nil))))) (pw_or1 (pt_not (pt_truK (K := K) rfl (g_call C__law_state_right r (by rfl) passL (pa_cons (pe_ix (ixK (K := K) rfl) (pv 7) pe_int (fun _ _ => rfl)) (pa_cons (pv 9) pa_nil))))))))
       (pss_one (ps_ret pe_non))
       pss_nil)
       (pss_one (ps_ret (d_lst (pa_cons (pe_ix (ixK (K := K) rfl) (pv 7) pe_int (fun _ _ => rfl)) (pa_cons (pv 9) pa_nil))))))))))))), ?_⟩
    try dsimp only [cxOf]
    refine x_start (σ' := [some _, some _, some _, some _, none, none, none, none, none, none, none, none, none]) rfl ?_
    have pr1 := pr0
    obtain ⟨dx, s, t, w, n, s2, w2, syn, now, ws, wr, wl, rfl, w1, wr1, ln, ls, m1, m8, tn, tsy, tw, lw⟩ := pr0
    have hws : ws.length = wl.length := w1.len
    have hwr : wr.length = wl.length := wr1.len
    walk_at "s"
    refine x_ixl (i := 2) (SqL.of (st_a (to_s O))) rfl ?_
    walk_at "s"
    refine x_lenl (SqL.of (st_w (to_s O))) ?_
    walk_at "s"
    refine x_rg (by omega) (by omega) ?_
    refine lc_own (by walk_at "n") walk_range O (fun i G' L' acc => ∃ (bx' : List V) (fl : List Str), L' = (b, .lst bx') :: ((dkL C p dx s t w m lf dd syn now ws ++ stL a n s2 w2 now syn wr lf dd) ++ R) ∧ acc = fl.map V.str ∧ fl.length = i ∧ (∀ f ∈ fl, wFates.contains f = true) ∧ Box (N + 20 + (300 - i)) bx')
      ⟨bx, [], rfl, rfl, rfl, (fun _ z => nomatch z), bo⟩ (fun _ _ _ _ _ _ _ _ _ => True.intro) ?_ ?_
    · rintro i x G4 H4 H5 D L' acc hi s4 O4 ⟨bx', fl, rfl, rfl, hl, hf, bo4⟩ ⟨rfl, rfl⟩
      have hi4 : i < 300 := by omega
      walk_at "s"
      refine ⟨by show 3 ≤ sizeLine; decide, x_fix O4 fun p5 G5 H5 s5 O5 e5 => ?_⟩
      walk_at "s"
      refine ⟨G5, _, b, 3, N + 20 + (300 - (i + 1)), bx', rfl, O5.swap, bo4.le (by omega), by decide, by decide, fun H6 r b6 r0 r1 O6 B6 => ?_⟩
      obtain ⟨f, ef, hff⟩ : ∃ f : Str, atI [V.str (Str.ofString "done"), V.str (Str.ofString "lost"), V.str (Str.ofString "torn")] r = some (.str f) ∧ wFates.contains f = true := by
        rcases (show r = 0 ∨ r = 1 ∨ r = 2 by omega) with rfl | rfl | rfl
        · exact ⟨_, rfl, by decide +kernel⟩
        · exact ⟨_, rfl, by decide +kernel⟩
        · exact ⟨_, rfl, by decide +kernel⟩
      refine x_ixl (SqL.of (O6.sub _ _ e5)) ef ?_
      refine lcn (s4.trans s5) O6.swap (by rw [List.length_map]; exact lt_line (by omega)) ⟨b6, fl ++ [f], rfl, by rw [List.map_append]; rfl, by rw [List.length_append, hl]; rfl, fun z hz => ?_, B6⟩
      rcases List.mem_append.mp hz with hz | hz
      · exact hf z hz
      · rw [List.mem_singleton.mp hz]; exact hff
    rintro G4 H4 pf L' acc s4 O4 ⟨bx4, fl, rfl, rfl, hl, hft, bo4⟩
    have hfl : fl.length = wl.length := by omega
    have O5 := O4.frz0
    have eD : upd G4 pf (.lst (fl.map V.str)) pf = some (.lst (fl.map V.str)) := upd_same
    have sD := Same.new (o := .lst (fl.map V.str)) O4.no0
    generalize upd G4 pf (.lst (fl.map V.str)) = G5 at O5 eD sD
    have s45 := s4.trans sD
    have hf5 : SqL K G5 pf (fl.map V.str) := SqL.of eD
    have lm : (fl.map V.str).length = fl.length := List.length_map _
    have bf := bdl_all (bdl_fates hft)
    rw [List.length_map] at bf
    have rpl : Rp (.list (fl.map PyData.str)) := Rp.bd bf.lst (by decide) (by omega)
    walk_at "s"
    refine x_rg (by omega) (by omega) ?_
    refine for_own walk_range O5 (fun i σ G' L' => ∃ (x5 x6 x7 : Option V) (bx' : List V), σ = [some (.ref b), some (.ref p), some (.ref a), some (.bl cn), some (.ref pf), x5, x6, x7, none, none, none, none, none] ∧ (b, .lst bx') :: ((dkL C p dx s t w m lf dd syn now ws ++ stL a n s2 w2 now syn wr lf dd) ++ R) = L' ∧ Box (N + 5 + 5 * (2 - i)) bx')
      ⟨none, none, none, bx4, rfl, rfl, bo4.le (by omega)⟩ (fun _ _ _ _ _ _ _ _ => True.intro) ?_ ?_
    · rintro i x σ G6 H6 H7 L' hi s6 O6 ⟨x5, x6, x7, bx6, rfl, rfl, bo6⟩ ⟨rfl, rfl⟩
      have hi2 : i < 2 := hi
      walk_at "s"
      refine x_listL (O6.seq (s6.seq hf5)) (x_fix O6 fun p7 G7 H7 s7 O7 e7 => ?_)
      walk_at "s"
      refine ⟨G7, _, b, p7, N + 5 + 5 * (2 - (i + 1)), bx6, fl, rfl, O7, bo6.le (by omega), SqL.of e7, by omega, hft, fun G8 H8 v d L0 b8 s8 O8 hv hb rv hz B8 => ?_⟩
      walk_at "s"
      have s58 := s6.trans (s7.trans s8)
      refine ⟨G8, (b, .lst b8) :: (stL a n s2 w2 now syn wr lf dd ++ R), L0, p, dx, s, t, w, m, lf, dd, v, d, syn, now, ws, wl, cn, rfl, O8.perm (by walk_at "pm"), hv, rv, m1, m8, ls, w1.mono (s45.trans s58), fun z hz => (tw z hz).1, by omega, by omega,
        fun cb G9 H9 q9 L1 s9 O9 gr e9 => ?_, fun fl2 ed hfl2 hft2 => ?_⟩
      · obtain ⟨d', hd', hz', hb'⟩ := (hv.same s9).grown gr hb hz (L := L1 ++ (dkL C p dx s t w m lf dd syn now ws ++ (b, .lst b8) :: (stL a n s2 w2 now syn wr lf dd ++ R))) fun x hx => List.mem_append_left _ hx
        walk_at "s"
        refine x_lenl (O9.seq ((s58.trans s9).seq hf5)) ?_
        rw [lm]
        refine ⟨G9, _, v, d', _, rfl, O9, hd', hz', hb', fun Ga Ha sa Oa => ?_⟩
        walk_at "s"
        refine x_lenl (Oa.seq ((s58.trans (s9.trans sa)).seq hf5)) ?_
        rw [lm]
        refine ⟨Ga, _, v, d', _, rfl, Oa, hd'.same sa, hz', hb', fun Gb Hb sb Ob => ?_⟩
        walk_at "s"
        refine ⟨by show 2 ≤ sizeLine; decide, x_fix Ob fun pc Gc Hc sc Oc ec => ?_⟩
        refine ne2 (by decide +kernel) (Oc.sub _ _ ((sa.trans (sb.trans sc)) _ _ e9)) (Oc.sub _ _ ec) (by decide +kernel) ?_
        walk_at "s"
        exact fvh (s58.trans (s9.trans (sa.trans (sb.trans sc)))) ((Own.dropA Oc).perm (by walk_at "pm")) ⟨_, _, _, b8, rfl, rfl, B8⟩
      · exfalso
        have : fatesB wl.length d = true := by
          rcases ed with rfl | rfl
          · exact fates_ok hft2 hfl2
          · exact fates_okT hft2 hfl2
        rw [← hfl, hb] at this
        cases this
    rintro σ G6 H6 L' s6 O6 ⟨x5, x6, x7, bx6, rfl, rfl, bo6⟩
    refine x_seq (x_asgG (x_eval (fun v' H' => ∃ (G' : Hp) (pg : Addr) (d : PyData) (L0 : List (Addr × HO)) (bx' : List V), v' = .ref pg ∧ Same G6 G' ∧ Own G' H' ((b, .lst bx') :: (L0 ++ ((dkL C p dx s t w m lf dd syn now ws ++ stL a n s2 w2 now syn wr lf dd) ++ R))) ∧
      Val K G' (.ref pg) d L0 ∧ ((d = .list (fl.map PyData.str) ∧ L0 = [(pg, .lst (fl.map V.str))]) ∨ (d = .tuple (fl.map PyData.str) ∧ L0 = [] ∧ SqT K G' pg (fl.map V.str))) ∧ Rv d ∧ (sqI d).length ≤ 100000 ∧ Box N bx') (fun Q2 fin2 => ?_) ?_))
    · walk_at "s"
      refine ⟨G6, _, b, 2, N, bx6, rfl, O6, bo6.le (by omega), by decide, by decide, fun H7 r7 b7 r70 r71 O7 B7 => ?_⟩
      walk_at "s"
      refine x_eq rfl ?_
      rw [int_eq]
      walk_at "s"
      refine ite_b (fun c => ?_) (fun c => ?_)
      · walk_at "s"
        refine x_listL (O7.seq (s6.seq hf5)) (x_new O7 fun pg H8 O8 => ?_)
        refine fin2 _ _ ⟨G6, pg, .list (fl.map PyData.str), [(pg, .lst (fl.map V.str))], b7, rfl, Same.refl _, O8.swap, .inr ⟨_, _, _, rfl, rfl, rfl, dtl_strs, by rw [lm]; omega⟩, .inl ⟨rfl, rfl⟩, Rv.bdl bf (by decide) (by omega), by show (fl.map PyData.str).length ≤ _; rw [List.length_map]; omega, B7⟩
      · walk_at "s"
        refine x_tupleL (O7.seq (s6.seq hf5)) (x_fix O7 fun pg G8 H8 s8 O8 e8 => ?_)
        refine fin2 _ _ ⟨G8, pg, .tuple (fl.map PyData.str), [], b7, rfl, s8, O8, val_flat (.tup (SqT.of e8) dtl_strs) (by show ("tuple" : String) ≠ "list"; decide), .inr ⟨rfl, rfl, SqT.of e8⟩, Rv.of (Rp.bd bf.tup (by decide) (by omega)) (by show ("tuple" : String) ≠ "list"; decide), by show (fl.map PyData.str).length ≤ _; rw [List.length_map]; omega, B7⟩
    rintro _ H7 ⟨G7, pg, d, L0, b7, rfl, s7, O7, hv, hd, rv, hz, B7⟩
    have ed : d = .list (fl.map PyData.str) ∨ d = .tuple (fl.map PyData.str) := hd.imp (fun h => h.1) fun h => h.1
    walk_at "s"
    have s57 := s6.trans s7
    refine ⟨G7, (b, .lst b7) :: (stL a n s2 w2 now syn wr lf dd ++ R), L0, p, dx, s, t, w, m, lf, dd, .ref pg, d, syn, now, ws, wl, !cn, rfl, O7.perm (by walk_at "pm"), hv, rv, m1, m8, ls, w1.mono (s45.trans s57), fun z hz => (tw z hz).1, by omega, hz,
      fun cb => ?_, fun fl2 ed2 hfl2 hft2 G8 H8 p8 dx8 sy8 t8 w8 q8 s8 O8 e8 => ?_⟩
    · exfalso
      have : fatesB wl.length d = true := by
        rcases ed with rfl | rfl
        · exact fates_ok hft hfl
        · exact fates_okT hft hfl
      rw [cb] at this
      cases this
    obtain rfl : fl = fl2 := by
      rcases ed with rfl | rfl
      · rcases ed2 with h | h
        · exact str_inj (PyData.list.inj h)
        · cases h
      · rcases ed2 with h | h
        · cases h
        · exact str_inj (PyData.tuple.inj h)
    walk_at "s"
    have s58 := s57.trans s8
    refine ⟨G8, _, a, n, s2, w2, pf, now, syn, wr, lf, dd, wl, fl, rfl, O8.perm (R := stL a n s2 w2 now syn wr lf dd ++ (dkL C p8 dx8 sy8 t8 w8 m none false (rem syn wl fl) (rem syn wl fl) [] ++ ((b, .lst b7) :: (L0 ++ (dkL C p dx s t w m lf dd syn now ws ++ R))))) (by walk_at "pm"), wr1.mono (s45.trans s58), fun z hz => by rw [ls]; exact (tw z hz).1, s58.seq hf5, hfl, hft, by omega, fun G9 H9 a9 n9 sy9 w9 s9 O9 => ?_⟩
    walk_at "s"
    have s59 := s58.trans s9
    have hg : ∀ {Gx Hx : Hp} {Lx : List (Addr × HO)}, Same G7 Gx → Own Gx Hx (L0 ++ Lx) → SqL K Hx pg (fl.map V.str) ∨ SqT K Hx pg (fl.map V.str) := fun sx Ox => by
      rcases hd with ⟨_, e⟩ | ⟨_, _, h⟩
      · subst e
        exact .inl (SqL.of Ox.at0)
      · exact .inr (Ox.set (same_t sx h))
    refine x_ixl (i := 0) (SqL.of (O9.sub _ _ (s9 _ _ e8))) rfl ?_
    walk_at "s"
    refine x_ne rfl ?_
    rw [decide_eq_true rfl]
    walk_at "s"
    refine ⟨pg, _, rfl, hg (s8.trans s9) (O9.perm (R := L0 ++ (stL a9 n9 sy9 w9 (rem syn wl fl) (rem syn wl fl) [] none false ++ (stL a n s2 w2 now syn wr lf dd ++ (dkL C p8 dx8 sy8 t8 w8 m none false (rem syn wl fl) (rem syn wl fl) [] ++ ((b, .lst b7) :: (dkL C p dx s t w m lf dd syn now ws ++ R)))))) (by walk_at "pm")), x_fix O9 fun pa Ga Ha sa Oa ea => ?_⟩
    walk_at "s"
    refine x_reprP (.lst (SqL.of (Oa.sub _ _ ea)) dtl_strs) rpl ?_
    walk_at "s"
    refine x_reprP (.lst (Oa.seq ((s59.trans sa).seq hf5)) dtl_strs) rpl ?_
    refine x_ne rfl ?_
    rw [decide_eq_true rfl]
    walk_at "s"
    refine x_ixl (i := 1) (SqL.of (Oa.sub _ _ ((s9.trans sa) _ _ e8))) rfl ?_
    walk_at "s"
    have rtx : ∀ {fl : List Str}, ∀ x ∈ rem syn wl fl, TxV x := rem_txv tsy tw
    refine ⟨Ga, (b, .lst b7) :: ((dkL C p dx s t w m lf dd syn now ws ++ stL a n s2 w2 now syn wr lf dd) ++ (L0 ++ R)), p8, dx8, sy8, t8, w8, a9, n9, sy9, w9, m, none, false, rem syn wl fl, rem syn wl fl, [], rem syn wl fl, [], rfl, Oa.perm (by walk_at "pm"), by rw [rem_len]; exact ls, m8, rfl, Nat.zero_le _, rtx, fun Hb Ob => ?_⟩
    refine x_trub ?_
    refine ite_f ?_
    refine x_next ?_
    refine x_seq (x_whenH (fun H' => ∃ (G' : Hp) (L1 : List (Addr × HO)), Same Ga G' ∧ Own G' H' ((b, .lst b7) :: ((dkL C p dx s t w m lf dd syn now ws ++ stL a n s2 w2 now syn wr lf dd) ++ (dkL C p8 dx8 sy8 t8 w8 m none false (rem syn wl fl) (rem syn wl fl) [] ++ (stL a9 n9 sy9 w9 (rem syn wl fl) (rem syn wl fl) [] none false ++ (L1 ++ R)))))) ?_ (fun tl => ?_))
    · rintro Hc ⟨Gc, L1, sc, Oc⟩
      have s5c := s59.trans (sa.trans sc)
      have s8c := s9.trans (sa.trans sc)
      walk_at "s"
      refine ⟨by show 3 ≤ sizeLine; decide, x_fix Oc fun pe Ge He se Oe ee => ?_⟩
      refine x_sqL (SqL.of (Oe.sub _ _ ee)) ?_
      refine for_own walk_list Oe (fun i σ G' L' => ∃ (x10 x11 : Option V), σ = [some (.ref b), some (.ref p), some (.ref a), some (.bl cn), some (.ref pf), x5, x6, some (.ref q8), some (.ref pg), some (.ref a9), x10, x11, none] ∧
        (b, .lst b7) :: ((dkL C p dx s t w m lf dd syn now ws ++ stL a n s2 w2 now syn wr lf dd) ++ (dkL C p8 dx8 sy8 t8 w8 m none false (rem syn wl fl) (rem syn wl fl) [] ++ (stL a9 n9 sy9 w9 (rem syn wl fl) (rem syn wl fl) [] none false ++ (L1 ++ R)))) = L')
        ⟨none, none, rfl, rfl⟩ (fun i σ G' H' L' s' O' _ => SqL.of (O'.sub _ _ (s' _ _ ee))) ?_ ?_
      · rintro i x σ Gf Hf Hf2 L' hi sf Of ⟨x10, x11, rfl, rfl⟩ ⟨rfl, ex⟩
        obtain ⟨f, rfl, hff⟩ : ∃ f : Str, x = .str f ∧ wFates.contains f = true := by
          have hm := List.mem_of_getElem? ex
          rcases List.mem_cons.mp hm with rfl | hm
          · exact ⟨_, rfl, by decide +kernel⟩
          · rcases List.mem_cons.mp hm with rfl | hm
            · exact ⟨_, rfl, by decide +kernel⟩
            · rw [List.mem_singleton.mp hm]
              exact ⟨_, rfl, by decide +kernel⟩
        have s5f := s5c.trans (se.trans sf)
        walk_at "s"
        refine ⟨by show 1 ≤ sizeLine; decide, x_fix Of fun ph Gh Hh sh Oh eh => ?_⟩
        walk_at "s"
        refine x_lenl (Oh.seq ((s5f.trans sh).seq hf5)) ?_
        rw [lm]
        refine x_rep (Oh.sub _ _ eh) (by omega) (by omega) (by show 1 ≤ 1000; decide) ?_
        have er : (List.replicate ((fl.length : Nat) : Int).toNat [V.str f]).flatten = (List.replicate fl.length f).map V.str := by
          rw [Int.toNat_natCast, List.flatten_replicate_singleton, List.map_replicate]
        rw [er]
        refine x_new Oh fun po Hi Oi => ?_
        generalize ego : List.replicate fl.length f = ol at Oi
        have hol : ol.length = wl.length := by rw [← ego, List.length_replicate]; exact hfl
        have hot : ∀ f ∈ ol, wFates.contains f = true := fun g hg => by
          rw [← ego] at hg
          rw [(List.mem_replicate.mp hg).2]
          exact hff
        walk_at "s"
        have Oj := Oi.perm (R := dkL C p dx s t w m lf dd syn now ws ++ ([(po, .lst (ol.map V.str))] ++ ((b, .lst b7) :: (stL a n s2 w2 now syn wr lf dd ++ (dkL C p8 dx8 sy8 t8 w8 m none false (rem syn wl fl) (rem syn wl fl) [] ++ (stL a9 n9 sy9 w9 (rem syn wl fl) (rem syn wl fl) [] none false ++ (L1 ++ R))))))) (by walk_at "pm")
        refine x_mI (dk_p Oj) f_meth ?_
        walk_at "s"
        have s5h := s5f.trans sh
        refine ⟨Gh, _, [(po, .lst (ol.map V.str))], p, dx, s, t, w, .ref po, .list (ol.map PyData.str), m, lf, dd, syn, now, ws, wl, rfl, Oj, m1, m8, ls, w1.mono (s45.trans s5h), fun z hz => (tw z hz).1, .inr ⟨_, _, _, rfl, rfl, rfl, dtl_strs, by rw [List.length_map]; omega⟩, by omega, by show (ol.map PyData.str).length ≤ _; rw [List.length_map]; omega,
          fun cb => ?_, fun ol2 ed2 hfl2 hft2 Gk Hk pk dxk syk tk wk sk Ok => ?_⟩
        · exfalso
          rw [fates_ok hot hol] at cb
          cases cb
        obtain rfl : ol = ol2 := by
          rcases ed2 with h | h
          · exact str_inj (PyData.list.inj h)
          · cases h
        have Ok' := Ok.perm (R := (po, .lst (ol.map V.str)) :: (stL a n s2 w2 now syn wr lf dd ++ (dkL C pk dxk syk tk wk m none false (rem syn wl ol) (rem syn wl ol) [] ++ ((b, .lst b7) :: (dkL C p dx s t w m lf dd syn now ws ++ (dkL C p8 dx8 sy8 t8 w8 m none false (rem syn wl fl) (rem syn wl fl) [] ++ (stL a9 n9 sy9 w9 (rem syn wl fl) (rem syn wl fl) [] none false ++ (L1 ++ R)))))))) (by walk_at "pm")
        have Ol := Ok'.frz0
        have eL : upd Gk po (.lst (ol.map V.str)) po = some (.lst (ol.map V.str)) := upd_same
        have sL := Same.new (o := .lst (ol.map V.str)) Ok'.no0
        generalize upd Gk po (.lst (ol.map V.str)) = Gl at Ol eL sL
        have s5l := s5h.trans (sk.trans sL)
        walk_at "s"
        refine ⟨Gl, _, a, n, s2, w2, po, now, syn, wr, lf, dd, wl, ol, rfl, Ol, wr1.mono (s45.trans s5l), fun z hz => by rw [ls]; exact (tw z hz).1, SqL.of eL, hol, hot, by omega, fun Gm Hm am nm sym wm sm Om => ?_⟩
        walk_at "s"
        refine ⟨Gm, (b, .lst b7) :: ((dkL C p dx s t w m lf dd syn now ws ++ stL a n s2 w2 now syn wr lf dd) ++ (dkL C p8 dx8 sy8 t8 w8 m none false (rem syn wl fl) (rem syn wl fl) [] ++ (stL a9 n9 sy9 w9 (rem syn wl fl) (rem syn wl fl) [] none false ++ (L1 ++ R)))), pk, dxk, syk, tk, wk, am, nm, sym, wm, m, none, false, rem syn wl ol, rem syn wl ol, [], rem syn wl ol, [], rfl, Om.perm (by walk_at "pm"), by rw [rem_len]; exact ls, m8, rfl, Nat.zero_le _, rtx, fun Hn On => ?_⟩
        walk_at "s"
        exact fvh (sf.trans (sh.trans (sk.trans (sL.trans sm)))) (Own.dropA (Own.dropA On)) ⟨_, _, rfl, rfl⟩
      · rintro σ Gf Hf L' sf Of ⟨x10, x11, rfl, rfl⟩
        walk_at "s"
        refine ⟨Gf, _, p, dx, s, t, w, a, n, s2, w2, m, lf, dd, syn, now, ws, syn, wr, rfl, Of.perm (R := dkL C p dx s t w m lf dd syn now ws ++ (stL a n s2 w2 now syn wr lf dd ++ ((b, .lst b7) :: (dkL C p8 dx8 sy8 t8 w8 m none false (rem syn wl fl) (rem syn wl fl) [] ++ (stL a9 n9 sy9 w9 (rem syn wl fl) (rem syn wl fl) [] none false ++ (L1 ++ R)))))) (by walk_at "pm"), ln, m8, by omega, by omega, tn, fun Hg Og => ?_⟩
        walk_at "s"
        refine x_ixl (i := 1) (SqL.of (Og.sub _ _ ((s8c.trans (se.trans sf)) _ _ e8))) rfl ?_
        walk_at "s"
        refine ⟨Gf, _, p8, dx8, sy8, t8, w8, a9, n9, sy9, w9, m, none, false, rem syn wl fl, rem syn wl fl, [], rem syn wl fl, [], rfl, Og.perm (R := dkL C p8 dx8 sy8 t8 w8 m none false (rem syn wl fl) (rem syn wl fl) [] ++ (stL a9 n9 sy9 w9 (rem syn wl fl) (rem syn wl fl) [] none false ++ (L1 ++ ((b, .lst b7) :: ((dkL C p dx s t w m lf dd syn now ws ++ stL a n s2 w2 now syn wr lf dd) ++ R))))) (by walk_at "pm"), by rw [rem_len]; exact ls, m8, rfl, Nat.zero_le _, rtx, fun Hh Oh => ?_⟩
        walk_at "s"
        refine x_ixl (i := 1) (SqL.of (Oh.sub _ _ ((s8c.trans (se.trans sf)) _ _ e8))) rfl ?_
        walk_at "s"
        refine ⟨by show 2 ≤ sizeLine; decide, x_fix Oh fun qi Gi Hi si Oi ei => ?_⟩
        have s5i := s5c.trans (se.trans (sf.trans si))
        have Oj := Oi.perm (R := L1 ++ ((b, .lst b7) :: ((dkL C p dx s t w m lf dd syn now ws ++ stL a n s2 w2 now syn wr lf dd) ++ ((dkL C p8 dx8 sy8 t8 w8 m none false (rem syn wl fl) (rem syn wl fl) [] ++ stL a9 n9 sy9 w9 (rem syn wl fl) (rem syn wl fl) [] none false) ++ R)))) (by walk_at "pm")
        exact q Gi Hi qi p8 a9 _ b7 (s45.trans s5i) (Own.dropA Oj) (pr1.same (s45.trans s5i) (Nat.le_refl _)) ⟨dx8, sy8, t8, w8, n9, sy9, w9, rem syn wl fl, rem syn wl fl, [], [], [], rfl, .nil, .nil, by rw [rem_len]; exact ls, by rw [rem_len]; exact ls, m1, m8, rtx, rtx, (fun _ z => nomatch z), Nat.le_refl _⟩ ei B7
    · walk_at "s"
      have Ob' := Ob.perm (R := L0 ++ ((b, .lst b7) :: ((dkL C p dx s t w m lf dd syn now ws ++ stL a n s2 w2 now syn wr lf dd) ++ (dkL C p8 dx8 sy8 t8 w8 m none false (rem syn wl fl) (rem syn wl fl) [] ++ (stL a9 n9 sy9 w9 (rem syn wl fl) (rem syn wl fl) [] none false ++ R))))) (by walk_at "pm")
      refine x_isiL ((hv.same (s8.trans (s9.trans sa))).at Ob') ?_
      walk_at "s"
      rcases hd with ⟨rfl, rfl⟩ | ⟨rfl, rfl, _⟩
      · refine ite_t ?_
        have Ob2 : Own Ga Hb ((pg, .lst (fl.map V.str)) :: ((b, .lst b7) :: ((dkL C p dx s t w m lf dd syn now ws ++ stL a n s2 w2 now syn wr lf dd) ++ (dkL C p8 dx8 sy8 t8 w8 m none false (rem syn wl fl) (rem syn wl fl) [] ++ (stL a9 n9 sy9 w9 (rem syn wl fl) (rem syn wl fl) [] none false ++ R))))) := Ob'
        clear Ob'
        walk_at "s"
        refine ⟨ty_l (SqL.of Ob2.at0), ?_⟩
        walk_at "s"
        refine x_app Ob2.at0 (lt_line (by rw [lm]; omega)) (x_md0 Ob2 fun Hc Oc => ?_)
        walk_at "s"
        refine ⟨ty_l (SqL.of Oc.at0), ?_⟩
        refine ⟨pg, _, rfl, rfl, Oc.at0, ?_⟩
        exact tl _ ⟨Ga, [(pg, .lst ((fl.map V.str ++ [V.str (Str.ofString "lost")]).reverse))], Same.refl _, (Oc.upd0 (o' := .lst ((fl.map V.str ++ [V.str (Str.ofString "lost")]).reverse))).perm (by walk_at "pm")⟩
      · refine ite_f ?_
        exact tl _ ⟨Ga, [], Same.refl _, Ob'.perm (by walk_at "pm")⟩
end
end M85
set_option maxHeartbeats 4000000
namespace M85
open PySem PySem.Spec PyProof.Rows L2 G
local macro_rules | `(tactic| walk_at "hp") => `(tactic| first | assumption | exact Own.at0 (by assumption) | exact Own.at1 (by assumption) | exact Own.at2 (by assumption) | exact Own.at3 (by assumption) | exact Own.sub (by assumption) _ _ (by assumption) | exact upd_same)
local macro_rules | `(tactic| walk_at "hl") => `(tactic| first | assumption | exact SqL.of (by walk_at "hp") | exact Own.seq (by assumption) (by assumption) | exact Own.seq (by assumption) (SqL.of (by assumption)))
local macro_rules | `(tactic| walk_at "ht") => `(tactic| first | assumption | exact SqT.of (by walk_at "hp") | exact Own.set (by assumption) (by assumption) | exact Own.set (by assumption) (SqT.of (by assumption)))
local macro_rules | `(tactic| walk_at "n") => `(tactic| (intros; (try dsimp only [List.set, wipe, List.map, List.set_cons_succ, List.set_cons_zero]); (try exact rfl)))
local macro_rules | `(tactic| walk_at "n1") => `(tactic| with_reducible first | (refine x_asgN (σ' := ?s) ?hs ?q; (case hs => walk_at "n")) | (refine x_gN (σ' := ?s) ?hs ?q; (case hs => walk_at "n")) | (refine And.intro (show wipe _ _ = _ from (by walk_at "n")) ?_) | (refine x_parN (σ' := ?s) ?hs ?q; (case hs => walk_at "n")) | (refine x_par3N (σ' := ?s) ?hs ?q; (case hs => walk_at "n")))
local macro_rules | `(tactic| walk_at "v1") => `(tactic| ((with_reducible refine x_var (v := ?v) ?h ?q); (case h => first | exact rfl | assumption)))
local macro_rules | `(tactic| walk_at "s1") => `(tactic| with_reducible first | refine x_op ?_ | refine x_acons ?_ | refine x_c ?_ | refine x_call ?_ | refine x_anil ?_ | refine x_cb ?_ | refine x_seq ?_ | refine x_asgG ?_ | refine x_gC ?_ | refine x_gNl ?_ | refine x_ret ?_ | refine x_ifs ?_ | refine x_test ?_ | refine x_testb ?_ | refine x_and ?_ | refine x_or ?_ | refine x_andV ?_ | refine x_isB ?_ | refine x_add ?_ | refine x_lt ?_ | refine x_inti ?_ | refine x_isI ?_ | refine x_lst ?_ | refine x_tup ?_ | refine x_slice ?_ | refine x_nop ?_ | refine x_part ?_ | refine x_bm ?_ | refine x_sub ?_ | refine x_rI0 ?_ | refine x_drop ?_ | refine x_next ?_ | refine x_brk ?_ | refine x_cnt ?_ | refine x_par2 ?_ | refine x_par33 ?_ | refine x_un ?_ | refine x_rU ?_ | refine x_le ?_ | refine x_gt ?_ | refine x_ge ?_ | refine x_lts ?_ | refine x_intb ?_ | refine x_abs ?_ | refine x_tru ?_ | refine x_trub ?_ | refine x_trui ?_ | refine x_not ?_ | refine x_orV ?_ | refine x_notV ?_ | refine x_if ?_ | refine x_isN ?_ | refine x_isnN ?_ | refine x_dict ?_ | refine x_bm0 ?_ | refine x_revL ?_ | refine x_lcR ?_ | refine x_lcS ?_ | refine x_forR ?_ | refine x_forS ?_ | refine x_yes ?_ | refine ite_t ?_ | refine ite_f ?_)
local macro_rules | `(tactic| walk_at "s") => `(tactic| repeat (first | walk_at "v1" | walk_at "s1" | walk_at "n1"))
local macro_rules | `(tactic| walk_at "bd") => `(tactic| first | decide | omega | exact Nat.le_refl _)
local macro_rules | `(tactic| walk_at "ft") => `(tactic| first
  | with_reducible exact la_nil | with_reducible exact fa_nil | with_reducible exact ft_non | with_reducible exact ft_bl | with_reducible exact ft_dict | ((with_reducible refine ft_str (n := 10) (x := ?x) ?h); (case h => exact And.intro rfl (by decide))) | ((with_reducible refine ft_int (i := ?i) ?h); (case h => decide))
  | ((with_reducible refine ft_var (v := ?v) (m := ?m) (n := ?n) ?h ?f); (case h => exact rfl); (case f => assumption))
  | ((with_reducible refine fa_cons (m1 := ?a) (n1 := ?b) (m2 := ?c) (n2 := ?d) ?f ?g); (case f => walk_at "ft"); (case g => walk_at "ft"))
  | ((with_reducible refine ft_tup (m := ?m) (n := ?n) ?f ?h); (case f => walk_at "ft"); (case h => walk_at "bd"))
  | ((with_reducible refine ft_lst (m := ?m) (n := ?n) ?f ?h); (case f => walk_at "ft"); (case h => walk_at "bd"))
  | ((with_reducible refine la_cons (m1 := ?a) (n1 := ?b) (B := ?c) ?f ?g ?h ?i); (case f => walk_at "ft"); (case h => walk_at "bd"); (case i => walk_at "bd"); (case g => walk_at "ft"))
  | ((with_reducible refine lt_var (v := ?v) (m := ?m) (n := ?n) (B := ?b) ?h ?f); (case h => exact rfl); (case f => assumption))
  | ((with_reducible refine lt_add (B1 := ?a) (B2 := ?b) ?f ?g ?h); (case f => walk_at "ft"); (case g => walk_at "ft"); (case h => walk_at "bd"))
  | ((with_reducible refine ft_addsv (x := ?x) (m := ?m) (n := 10) ?h ?s ?a ?z); (case h => exact rfl); (case s => assumption); (case a => exact And.intro rfl (by decide)); (case z => decide))
  | ((with_reducible refine lt_lst ?f ?h); (case f => walk_at "ft"); (case h => walk_at "bd")))
local macro_rules | `(tactic| walk_at "s1") => `(tactic| with_reducible first | refine x_fld ?_ | refine x_sfld ?_ | refine x_m ?_ | refine x_mr ?_ | refine x_i ?_ | refine x_ir ?_ | refine x_gfld ?_ | refine x_mko ?_ | refine x_vei ?_ | refine x_ost ?_ | refine ite_nt ?_ | refine ite_nf ?_)
section
variable {P : Program} {w : World} {K : PySem.W.Frag} {mg : Str → Option Value} {base : Heap} {k : Nat} {fa C D CB CT CM CF CP CC : Addr}
abbrev s__law_deed_right : Stmt := top 42
theorem sc__law_deed_right : FnScope ["box", "disk", "state", "by_name", "way"] ["box", "disk", "state", "by_name"] (defScope s__law_deed_right) := ⟨rfl, rfl, rfl, by decide +kernel, rfl, by decide +kernel, by decide +kernel⟩
def sp_dr (C : Addr) : Sp := fun vs H Q _ => ∃ (G : Hp) (R L : List (Addr × HO)) (b p a : Addr) (m j N : Nat) (lf : Option Nat) (dd : Bool) (bx : List V) (cn : Bool), vs = [.ref b, .ref p, .ref a, .bl cn] ∧ Own G H ((b, .lst bx) :: (L ++ R)) ∧ Pr C G p a m j lf dd L ∧ j ≤ 5000 ∧ Box (N + 20) bx ∧
  ∀ (G' H' : Hp) (L' : List (Addr × HO)) (lf' : Option Nat) (dd' : Bool) bx', Same G G' → Own G' H' ((b, .lst bx') :: (L' ++ R)) → Pr C G' p a m (j + 1) lf' dd' L' → (dd = true → dd' = true) → Box N bx' → Q (.bl true) H'
theorem ok_dr {f : Addr} {fd : FuncData} (F : Fun K "_law_deed_right" "_law_deed_right" s__law_deed_right f fd) (B : Bt mg) (C__law_take : Cal P w K mg base k "_law_take" ["box", "many"] sp_take)
    (C__law_write_right : Cal P w K mg base k "_law_write_right" ["box", "disk", "state", "by_name"] (sp_wg C)) (C__law_sync_right : Cal P w K mg base k "_law_sync_right" ["disk", "state"] (sp_sg C)) (C__law_limit_right : Cal P w K mg base k "_law_limit_right" ["box", "disk", "state", "by_name"] (sp_lg C))
    (C__law_wrong_right : Cal P w K mg base k "_law_wrong_right" ["box", "disk", "state", "by_name"] (sp_xr C)) (C__law_read_wrong : Cal P w K mg base k "_law_read_wrong" ["disk", "block"] (sp_rw K C)) : FnG P w K mg base (k + 1) f fd ["box", "disk", "state", "by_name"] (sp_dr C) := by
  refine fnG_of F sc__law_deed_right (fun vs H Q E h => ?_) (fun cdv A outer s H vs Q E r h => ?_)
  · obtain ⟨_, _, _, _, _, _, _, _, _, _, _, _, _, rfl, _⟩ := h
    rfl
  · obtain ⟨G, R, L, b, p, a, m, jj, N, lf, dd, bx, cn, rfl, O, pr, hj5, bo, q⟩ := h
    refine ⟨_, (pss_cons (ps_set (i := 4) sc__law_deed_right.nd rfl (Or.inl rfl) (g_call C__law_take r (by rfl) passL (pa_cons (pv 0) (pa_cons pe_int pa_nil))))
       (pss_cons (ps_if (pt_cmpR oLt (pv 4) pe_int (nomark _))
       (pss_one (ps_ret (g_call C__law_write_right r (by rfl) passL (pa_cons (pv 0) (pa_cons (pv 1) (pa_cons (pv 2) (pa_cons (pv 3) pa_nil)))))))
       pss_nil)
       (pss_cons (ps_if (pt_cmpR (oEqK (K := K) rfl r) (pv 4) pe_int (nomark _))
       (pss_one (ps_ret (g_call C__law_sync_right r (by rfl) passL (pa_cons (pv 1) (pa_cons (pv 2) pa_nil)))))
       pss_nil)
       (pss_cons (ps_if (pt_cmpR (oEqK (K := K) rfl r) (pv 4) pe_int (nomark _))
       (pss_one (ps_ret (g_call C__law_limit_right r (by rfl) passL (pa_cons (pv 0) (pa_cons (pv 1) (pa_cons (pv 2) (pa_cons (pv 3) pa_nil)))))))
       pss_nil)
       (pss_cons (ps_if (pt_cmpR (oEqK (K := K) rfl r) (pv 4) pe_int (nomark _))
       (pss_one (ps_ret (g_call C__law_wrong_right r (by rfl) passL (pa_cons (pv 0) (pa_cons (pv 1) (pa_cons (pv 2) (pa_cons (pv 3) pa_nil)))))))
       pss_nil)
       (pss_one (ps_ret (g_call C__law_read_wrong r (by rfl) passL (pa_cons (pv 1) (pa_cons (pe_ix (ixK (K := K) rfl) (d_lst (pa_cons (pe_callB (cLenK (K := K) rfl) (by rfl) B.len (by decide +kernel) (pa_cons (pe_ix (ixK (K := K) rfl) (pv 2) pe_int (fun _ _ => rfl)) pa_nil)) (pa_cons (pe_un un_neg pe_int) (pa_cons pe_non (pa_cons pe_bl (pa_cons pe_str (pa_cons (d_tup (pa_cons pe_int pa_nil)) pa_nil))))))) (g_call C__law_take r (by rfl) passL (pa_cons (pv 0) (pa_cons pe_int pa_nil))) (fun _ _ => rfl)) pa_nil)))))))))), ?_⟩
    try dsimp only [cxOf]
    refine x_start (σ' := [some _, some _, some _, some _, none]) rfl ?_
    walk_at "s"
    refine ⟨G, _, b, 8, N + 19, bx, rfl, O, bo, by decide, by decide, fun H1 way b1 y0 y1 O1 B1 => ?_⟩
    walk_at "s"
    refine ite_b (fun c => ?_) (fun c => ?_)
    · walk_at "s"
      refine ⟨G, R, L, b, p, a, m, jj, N, lf, dd, b1, cn, rfl, O1, pr, hj5, B1.le (by omega), fun G2 H2 L2 b2 s2 O2 p2 B2 => ?_⟩
      walk_at "s"
      exact q G2 H2 L2 _ _ b2 s2 O2 p2 (fun e => by subst e; rfl) B2
    walk_at "s"
    refine x_eq rfl ?_
    rw [int_eq]
    walk_at "s"
    refine ite_b (fun c => ?_) (fun c => ?_)
    · walk_at "s"
      refine ⟨G, _, L, p, a, m, jj, lf, dd, rfl, to_p O1, pr, fun G2 H2 L2 s2 O2 p2 => ?_⟩
      walk_at "s"
      exact q G2 H2 L2 _ _ b1 s2 (of_p O2) (p2.same (Same.refl _) (by omega)) (fun e => by subst e; rfl) (B1.le (by omega))
    walk_at "s"
    refine x_eq rfl ?_
    rw [int_eq]
    walk_at "s"
    refine ite_b (fun c => ?_) (fun c => ?_)
    · walk_at "s"
      refine ⟨G, R, L, b, p, a, m, jj, N, lf, dd, b1, cn, rfl, O1, pr, B1.le (by omega), fun G2 H2 L2 lf2 b2 s2 O2 p2 B2 => ?_⟩
      walk_at "s"
      exact q G2 H2 L2 _ _ b2 s2 O2 (p2.same (Same.refl _) (by omega)) id B2
    walk_at "s"
    refine x_eq rfl ?_
    rw [int_eq]
    walk_at "s"
    refine ite_b (fun c => ?_) (fun c => ?_)
    · walk_at "s"
      refine ⟨G, R, L, b, p, a, m, jj, N, lf, dd, b1, cn, rfl, O1, pr, hj5, B1.le (by omega), fun G2 H2 L2 b2 s2 O2 p2 B2 => ?_⟩
      walk_at "s"
      exact q G2 H2 L2 _ _ b2 s2 O2 (p2.same (Same.refl _) (by omega)) id B2
    have pr0 := pr
    obtain ⟨dx, s, t, w, n, s2, w2, syn, now, ws, wr, wl, rfl, w1, wr1, ln, ls, m1, m8, tn, tsy, tw, lw⟩ := pr
    walk_at "s"
    refine x_ixl (i := 0) (SqL.of (st_a (to_s O1))) rfl ?_
    walk_at "s"
    refine x_lenl (SqL.of (st_n (to_s O1))) ?_
    rw [ln]
    walk_at "s"
    refine ⟨by show 1 ≤ sizeLine; decide, x_fix O1 fun p4 G4 H4 s4 O4 e4 => ?_⟩
    walk_at "s"
    refine ⟨by show 6 ≤ sizeLine; decide, x_fix O4 fun p5 G5 H5 s5 O5 e5 => ?_⟩
    walk_at "s"
    refine ⟨G5, _, b, 6, N + 18, b1, rfl, O5, B1, by decide, by decide, fun H6 r6 b6 r60 r61 O6 B6 => ?_⟩
    have hq := SqL.of (K := K) (O6.sub _ _ e5)
    have sG := s4.trans s5
    obtain ⟨v6, d6, at6, dt6, rp6, ib6⟩ : ∃ v d, atI [V.int (m : Int), V.int (-1), V.non, V.bl true, V.str (Str.ofString "0"), V.ref p4] r6 = some v ∧ Dt K G5 v d ∧ Rp d ∧ ixB m d = false := by
      obtain ⟨j, rfl⟩ := Int.eq_ofNat_of_zero_le r60
      rcases (show j = 0 ∨ j = 1 ∨ j = 2 ∨ j = 3 ∨ j = 4 ∨ j = 5 by omega) with rfl | rfl | rfl | rfl | rfl | rfl
      · exact ⟨_, .int (m : Int), rfl, .int _, Rp.int (by omega), by simp only [ixB, Bool.and_eq_false_iff, decide_eq_false_iff_not]; omega⟩
      · exact ⟨_, .int (-1), rfl, .int _, Rp.int (by decide), rfl⟩
      · exact ⟨_, _, rfl, .non, rp0 ⟨rfl, Nat.le_refl _, Nat.le_refl _⟩, rfl⟩
      · exact ⟨_, _, rfl, .bl true, rp0 ⟨rfl, Nat.le_refl _, Nat.le_refl _⟩, rfl⟩
      · exact ⟨_, _, rfl, .str "0", Rp.bd (Bd.str (n := 1) ⟨rfl, by decide⟩) (by decide) (by decide), rfl⟩
      · exact ⟨_, .tuple [.int 0], rfl, .tup (SqT.of (s5 _ _ e4)) (.cons (.int 0) .nil), Rp.bd (m := 2) (n := 20) ⟨rfl, by decide, by decide⟩ (by decide) (by decide), rfl⟩
    refine x_ixl hq at6 ?_
    walk_at "s"
    refine ⟨G5, _, p, dx, s, t, w, m, lf, dd, v6, d6, syn, now, ws, rfl, to_d O6, ln, dt6, rp6, ib6, fun G7 H7 s7 O7 => ?_⟩
    walk_at "s"
    exact q G7 H7 _ _ _ b6 (sG.trans s7) (of_d O7) (pr0.same (sG.trans s7) (by omega)) id (B6.le (by omega))
end
end M85
set_option maxHeartbeats 4000000
namespace M85
open PySem PySem.Spec PyProof.Rows L2 G
local macro_rules | `(tactic| walk_at "hp") => `(tactic| first | assumption | exact Own.at0 (by assumption) | exact Own.at1 (by assumption) | exact Own.at2 (by assumption) | exact Own.at3 (by assumption) | exact Own.sub (by assumption) _ _ (by assumption) | exact upd_same)
local macro_rules | `(tactic| walk_at "hl") => `(tactic| first | assumption | exact SqL.of (by walk_at "hp") | exact Own.seq (by assumption) (by assumption) | exact Own.seq (by assumption) (SqL.of (by assumption)))
local macro_rules | `(tactic| walk_at "ht") => `(tactic| first | assumption | exact SqT.of (by walk_at "hp") | exact Own.set (by assumption) (by assumption) | exact Own.set (by assumption) (SqT.of (by assumption)))
local macro_rules | `(tactic| walk_at "n") => `(tactic| (intros; (try dsimp only [List.set, wipe, List.map, List.set_cons_succ, List.set_cons_zero]); (try exact rfl)))
local macro_rules | `(tactic| walk_at "n1") => `(tactic| with_reducible first | (refine x_asgN (σ' := ?s) ?hs ?q; (case hs => walk_at "n")) | (refine x_gN (σ' := ?s) ?hs ?q; (case hs => walk_at "n")) | (refine And.intro (show wipe _ _ = _ from (by walk_at "n")) ?_) | (refine x_parN (σ' := ?s) ?hs ?q; (case hs => walk_at "n")) | (refine x_par3N (σ' := ?s) ?hs ?q; (case hs => walk_at "n")))
local macro_rules | `(tactic| walk_at "v1") => `(tactic| ((with_reducible refine x_var (v := ?v) ?h ?q); (case h => first | exact rfl | assumption)))
local macro_rules | `(tactic| walk_at "s1") => `(tactic| with_reducible first | refine x_op ?_ | refine x_acons ?_ | refine x_c ?_ | refine x_call ?_ | refine x_anil ?_ | refine x_cb ?_ | refine x_seq ?_ | refine x_asgG ?_ | refine x_gC ?_ | refine x_gNl ?_ | refine x_ret ?_ | refine x_ifs ?_ | refine x_test ?_ | refine x_testb ?_ | refine x_and ?_ | refine x_or ?_ | refine x_andV ?_ | refine x_isB ?_ | refine x_add ?_ | refine x_lt ?_ | refine x_inti ?_ | refine x_isI ?_ | refine x_lst ?_ | refine x_tup ?_ | refine x_slice ?_ | refine x_nop ?_ | refine x_part ?_ | refine x_bm ?_ | refine x_sub ?_ | refine x_rI0 ?_ | refine x_drop ?_ | refine x_next ?_ | refine x_brk ?_ | refine x_cnt ?_ | refine x_par2 ?_ | refine x_par33 ?_ | refine x_un ?_ | refine x_rU ?_ | refine x_le ?_ | refine x_gt ?_ | refine x_ge ?_ | refine x_lts ?_ | refine x_intb ?_ | refine x_abs ?_ | refine x_tru ?_ | refine x_trub ?_ | refine x_trui ?_ | refine x_not ?_ | refine x_orV ?_ | refine x_notV ?_ | refine x_if ?_ | refine x_isN ?_ | refine x_isnN ?_ | refine x_dict ?_ | refine x_bm0 ?_ | refine x_revL ?_ | refine x_lcR ?_ | refine x_lcS ?_ | refine x_forR ?_ | refine x_forS ?_ | refine x_yes ?_ | refine ite_t ?_ | refine ite_f ?_)
local macro_rules | `(tactic| walk_at "s") => `(tactic| repeat (first | walk_at "v1" | walk_at "s1" | walk_at "n1"))
local macro_rules | `(tactic| walk_at "bd") => `(tactic| first | decide | omega | exact Nat.le_refl _)
local macro_rules | `(tactic| walk_at "ft") => `(tactic| first
  | with_reducible exact la_nil | with_reducible exact fa_nil | with_reducible exact ft_non | with_reducible exact ft_bl | with_reducible exact ft_dict | ((with_reducible refine ft_str (n := 10) (x := ?x) ?h); (case h => exact And.intro rfl (by decide))) | ((with_reducible refine ft_int (i := ?i) ?h); (case h => decide))
  | ((with_reducible refine ft_var (v := ?v) (m := ?m) (n := ?n) ?h ?f); (case h => exact rfl); (case f => assumption))
  | ((with_reducible refine fa_cons (m1 := ?a) (n1 := ?b) (m2 := ?c) (n2 := ?d) ?f ?g); (case f => walk_at "ft"); (case g => walk_at "ft"))
  | ((with_reducible refine ft_tup (m := ?m) (n := ?n) ?f ?h); (case f => walk_at "ft"); (case h => walk_at "bd"))
  | ((with_reducible refine ft_lst (m := ?m) (n := ?n) ?f ?h); (case f => walk_at "ft"); (case h => walk_at "bd"))
  | ((with_reducible refine la_cons (m1 := ?a) (n1 := ?b) (B := ?c) ?f ?g ?h ?i); (case f => walk_at "ft"); (case h => walk_at "bd"); (case i => walk_at "bd"); (case g => walk_at "ft"))
  | ((with_reducible refine lt_var (v := ?v) (m := ?m) (n := ?n) (B := ?b) ?h ?f); (case h => exact rfl); (case f => assumption))
  | ((with_reducible refine lt_add (B1 := ?a) (B2 := ?b) ?f ?g ?h); (case f => walk_at "ft"); (case g => walk_at "ft"); (case h => walk_at "bd"))
  | ((with_reducible refine ft_addsv (x := ?x) (m := ?m) (n := 10) ?h ?s ?a ?z); (case h => exact rfl); (case s => assumption); (case a => exact And.intro rfl (by decide)); (case z => decide))
  | ((with_reducible refine lt_lst ?f ?h); (case f => walk_at "ft"); (case h => walk_at "bd")))
local macro_rules | `(tactic| walk_at "s1") => `(tactic| with_reducible first | refine x_fld ?_ | refine x_sfld ?_ | refine x_m ?_ | refine x_mr ?_ | refine x_i ?_ | refine x_ir ?_ | refine x_gfld ?_ | refine x_mko ?_ | refine x_vei ?_ | refine x_ost ?_ | refine ite_nt ?_ | refine ite_nf ?_)
theorem sr_of {G H : Hp} {L R : List (Addr × HO)} {C p a b : Addr} {u : HO} {m j : Nat} {lf : Option Nat} {dd : Bool} {Q : VK} {E : XK} (h : Pr C G p a m j lf dd L) (hj : j ≤ 90000) (O : Own G H ((b, u) :: (L ++ R))) (q : ∀ H', Own G H' ((b, u) :: (L ++ R)) → Q (.bl true) H') : sp_sr C [.ref p, .ref a] H Q E := by
  obtain ⟨dx, s1, t, w, n, s2, w2, syn, now, ws, wr, wl, rfl, w1, wr1, l1, l2, m1, m8, t1, t2, tw, lw⟩ := h
  have O1 := ds_of (to_p O)
  exact ⟨G, _, p, dx, s1, t, w, a, n, s2, w2, m, lf, dd, syn, now, ws, syn, wr, rfl, O1, l1, m8, by rw [w1.len, wr1.len], by rw [w1.len]; omega, t1, fun H' O' => q H' (of_p (of_ds O'))⟩
theorem x_whenS {c : TT} {t : TS} {n : L2.St → Hp → Prop} {r1 : VK} {b1 c1 : L2.St → Hp → Prop} {σ : L2.St} {H : Hp} (S : L2.St → Hp → Prop) (rest : ∀ σ H, S σ H → n σ H)
    (h : ∀ n' : L2.St → Hp → Prop, (∀ σ H, S σ H → n' σ H) → c σ H fun k H1 => if k = true then t ⟨n', r1, b1, c1⟩ σ H1 else n' σ H1) : tIfS c t tNext ⟨n, r1, b1, c1⟩ σ H := h n rest
/-- dead, or so few uses are left -/
def Few (lf : Option Nat) (dd : Bool) (i : Nat) : Prop := dd = true ∨ ∃ r, lf = some r ∧ r + i ≤ 4
theorem Few.use {lf : Option Nat} {dd : Bool} {i : Nat} (h : Few lf dd i) : Few (useL lf dd).1 (useL lf dd).2 (i + 1) := by
  cases dd with
  | true => exact .inl rfl
  | false =>
    rcases h with h | ⟨r, rfl, h⟩
    · cases h
    · cases r with
      | zero => exact .inl rfl
      | succ r => exact .inr ⟨r, rfl, by omega⟩
theorem Few.le {lf : Option Nat} {dd : Bool} {i j : Nat} (h : Few lf dd i) (l : j ≤ i) : Few lf dd j := h.imp id fun ⟨r, e, h⟩ => ⟨r, e, by omega⟩
theorem Few.dead {lf : Option Nat} {dd : Bool} (h : Few lf dd 6) : dd = true := by
  rcases h with h | ⟨r, _, h⟩
  · exact h
  · omega
section
variable {P : Program} {w : World} {K : PySem.W.Frag} {mg : Str → Option Value} {base : Heap} {k : Nat} {fa C D CB CT CM CF CP CC : Addr}
abbrev s__law_life_right : Stmt := top 43
theorem sc__law_life_right : FnScope ["box", "disk", "state", "by_name", "turn", "count", "told"] ["box", "disk", "state", "by_name"] (defScope s__law_life_right) := ⟨rfl, rfl, rfl, by decide +kernel, rfl, by decide +kernel, by decide +kernel⟩
def sp_lf (C : Addr) : Sp := fun vs H Q _ => ∃ (G : Hp) (R L : List (Addr × HO)) (b p a : Addr) (m j N : Nat) (lf : Option Nat) (dd : Bool) (bx : List V) (cn : Bool), vs = [.ref b, .ref p, .ref a, .bl cn] ∧ Own G H ((b, .lst bx) :: (L ++ R)) ∧ Pr C G p a m j lf dd L ∧ j ≤ 4000 ∧ Box (N + 400) bx ∧
  ∀ (G' H' : Hp) (L' : List (Addr × HO)) (lf' : Option Nat) bx', Same G G' → Own G' H' ((b, .lst bx') :: (L' ++ R)) → Pr C G' p a m (j + 17) lf' true L' → Box N bx' → Q (.bl true) H'
theorem ok_lf {f : Addr} {fd : FuncData} (F : Fun K "_law_life_right" "_law_life_right" s__law_life_right f fd) (B : Bt mg) (C__law_take : Cal P w K mg base k "_law_take" ["box", "many"] sp_take)
    (C__law_deed_right : Cal P w K mg base k "_law_deed_right" ["box", "disk", "state", "by_name"] (sp_dr C)) (C__law_state_right : Cal P w K mg base k "_law_state_right" ["disk", "state"] (sp_sr C)) (C__law_limit_told : Cal P w K mg base k "_law_limit_told" ["disk", "count", "by_name"] (sp_ll K C))
    (C__law_wrong_right : Cal P w K mg base k "_law_wrong_right" ["box", "disk", "state", "by_name"] (sp_xr C)) (C__law_sync_right : Cal P w K mg base k "_law_sync_right" ["disk", "state"] (sp_sg C)) (C__law_write_right : Cal P w K mg base k "_law_write_right" ["box", "disk", "state", "by_name"] (sp_wg C))
    (C__law_sync_told : Cal P w K mg base k "_law_sync_told" ["disk"] (sp_st C)) : FnG P w K mg base (k + 1) f fd ["box", "disk", "state", "by_name"] (sp_lf C) := by
  refine fnG_of F sc__law_life_right (fun vs H Q E h => ?_) (fun cdv A outer s H vs Q E r h => ?_)
  · obtain ⟨_, _, _, _, _, _, _, _, _, _, _, _, _, rfl, _⟩ := h
    rfl
  · obtain ⟨G, R, L, b, p, a, m, jj, N, lf, dd, bx, cn, rfl, O, pr, hj5, bo, q⟩ := h
    refine ⟨_, (pss_cons (ps_for (passes_of rfl) rfl (pi_range1 (by rfl) B.range (pa_cons (g_call C__law_take r (by rfl) passL (pa_cons (pv 0) (pa_cons pe_int pa_nil))) pa_nil)) (pg_name (i := 4) sc__law_life_right.nd rfl (Or.inl rfl))
       (pss_one (ps_if (PW.pt (pw_or (pt_not (pt_truK (K := K) rfl (g_call C__law_deed_right r (by rfl) passL (pa_cons (pv 0) (pa_cons (pv 1) (pa_cons (pv 2) (pa_cons (pv 3) pa_nil))))))) (pw_or1 (pt_not (pt_truK (K := K) rfl (g_call C__law_state_right r (by rfl) passL (pa_cons (pv 1) (pa_cons (pv 2) pa_nil))))))))
       (pss_one (ps_ret pe_bl))
       pss_nil)))
       (pss_cons (ps_if (pt_not (pt_truK (K := K) rfl (pe_ix (ixK (K := K) rfl) (pv 2) pe_int (fun _ _ => rfl))))
       (pss_cons (ps_set (i := 5) sc__law_life_right.nd rfl (Or.inl rfl) (g_call C__law_take r (by rfl) passL (pa_cons (pv 0) (pa_cons pe_int pa_nil))))
       (pss_cons (ps_set (i := 6) sc__law_life_right.nd rfl (Or.inl rfl) (g_call C__law_limit_told r (by rfl) passL (pa_cons (pv 1) (pa_cons (pv 5) (pa_cons (pv 3) pa_nil)))))
       (pss_cons (ps_asg (pv 5) (pg_sub (pv 2) pe_int sSet))
       (pss_one (ps_if (PW.pt (pw_or (pt_cmpR (oNeK (K := K) rfl r) (pe_ix (ixK (K := K) rfl) (pv 6) pe_int (fun _ _ => rfl)) pe_str (nomark _)) (pw_or1 (pt_cmpR oIsn (pe_ix (ixK (K := K) rfl) (pv 6) pe_int (fun _ _ => rfl)) pe_non (nomark _)))))
       (pss_one (ps_ret pe_bl))
       pss_nil)))))
       pss_nil)
       (pss_cons (ps_for (passes_of rfl) rfl (pi_range1 (by rfl) B.range (pa_cons pe_int pa_nil)) (pg_name (i := 4) sc__law_life_right.nd rfl (Or.inl rfl))
       (pss_cons (ps_if (PW.pt (pw_or (pt_not (pt_truK (K := K) rfl (g_call C__law_wrong_right r (by rfl) passL (pa_cons (pv 0) (pa_cons (pv 1) (pa_cons (pv 2) (pa_cons (pe_not (pv 3)) pa_nil))))))) (pw_or1 (pt_not (pt_truK (K := K) rfl (g_call C__law_state_right r (by rfl) passL (pa_cons (pv 1) (pa_cons (pv 2) pa_nil))))))))
       (pss_one (ps_ret pe_bl))
       pss_nil)
       (pss_cons (ps_if (PW.pt (pw_or (PW.pt (pw_and (pt_cmpR (oEqK (K := K) rfl r) (g_call C__law_take r (by rfl) passL (pa_cons (pv 0) (pa_cons pe_int pa_nil))) pe_int (nomark _)) (pw_and1 (pt_not (pt_truK (K := K) rfl (g_call C__law_sync_right r (by rfl) passL (pa_cons (pv 1) (pa_cons (pv 2) pa_nil)))))))) (pw_or1 (pt_not (pt_truK (K := K) rfl (g_call C__law_write_right r (by rfl) passL (pa_cons (pv 0) (pa_cons (pv 1) (pa_cons (pv 2) (pa_cons (pv 3) pa_nil))))))))))
       (pss_one (ps_ret pe_bl))
       pss_nil)
       (pss_one (ps_if (pt_not (pt_truK (K := K) rfl (g_call C__law_state_right r (by rfl) passL (pa_cons (pv 1) (pa_cons (pv 2) pa_nil)))))
       (pss_one (ps_ret pe_bl))
       pss_nil)))))
       (pss_cons (ps_if (pt_not (pt_truK (K := K) rfl (pe_ix (ixK (K := K) rfl) (pv 2) pe_int (fun _ _ => rfl))))
       (pss_one (ps_ret pe_bl))
       pss_nil)
       (pss_cons (ps_for (passes_of rfl) rfl (pi_range1 (by rfl) B.range (pa_cons pe_int pa_nil)) (pg_name (i := 4) sc__law_life_right.nd rfl (Or.inl rfl))
       (pss_one (ps_if (PW.pt (pw_or (pt_not (pt_truK (K := K) rfl (g_call C__law_deed_right r (by rfl) passL (pa_cons (pv 0) (pa_cons (pv 1) (pa_cons (pv 2) (pa_cons (pe_not (pv 3)) pa_nil))))))) (pw_or1 (pt_not (pt_truK (K := K) rfl (g_call C__law_state_right r (by rfl) passL (pa_cons (pv 1) (pa_cons (pv 2) pa_nil))))))))
       (pss_one (ps_ret pe_bl))
       pss_nil)))
       (pss_one (ps_ret (pe_and (pe_cmpR (oEqK (K := K) rfl r) (g_call C__law_limit_told r (by rfl) passL (pa_cons (pv 1) (pa_cons pe_non (pa_cons (pv 3) pa_nil)))) (d_lst (pa_cons pe_str (pa_cons pe_bl pa_nil))) (nomark _)) (pe_one (pe_cmpR (oEqK (K := K) rfl r) (g_call C__law_sync_told r (by rfl) passL (pa_cons (pv 1) pa_nil)) (d_lst (pa_cons pe_str (pa_cons pe_bl pa_nil))) (nomark _))))))))))), ?_⟩
    try dsimp only [cxOf]
    refine x_start (σ' := [some _, some _, some _, some _, none, none, none]) rfl ?_
    walk_at "s"
    refine ⟨G, _, b, 6, N + 399, bx, rfl, O, bo, by decide, by decide, fun H0 r0 b0 r00 r01 O0 B0 => ?_⟩
    obtain ⟨t0, rfl⟩ := Int.eq_ofNat_of_zero_le r00
    have ht0 : t0 < 6 := by omega
    refine x_rg (by omega) (by omega) ?_
    refine for_own walk_range O0 (fun i σ G' L' => ∃ (x4 x5 x6 : Option V) (L1 : List (Addr × HO)) (lf1 : Option Nat) (dd1 : Bool) (b1 : List V), σ = [some (.ref b), some (.ref p), some (.ref a), some (.bl cn), x4, x5, x6] ∧ L' = (b, .lst b1) :: (L1 ++ R) ∧ Pr C G' p a m (jj + i) lf1 dd1 L1 ∧ Box (N + 275 + 20 * (6 - i)) b1)
      ⟨none, none, none, L, lf, dd, b0, rfl, rfl, pr, B0.le (by omega)⟩ (fun _ _ _ _ _ _ _ _ => True.intro) ?_ ?_
    · rintro i x σ G' H' H2 L' hi s' O1 ⟨x4, x5, x6, L1, lf1, dd1, b1, rfl, rfl, p1, B1⟩ ⟨rfl, rfl⟩
      walk_at "s"
      refine ⟨G', R, L1, b, p, a, m, jj + i, N + 275 + 20 * (6 - (i + 1)), lf1, dd1, b1, cn, rfl, O1, p1, by omega, B1.le (by omega), fun G2 H2 L2 lf2 dd2 b2 s2 O2 p2 _ B2 => ?_⟩
      walk_at "s"
      refine sr_of p2 (by omega) O2 fun H3 O3 => ?_
      walk_at "s"
      exact fvh (s'.trans s2) O3 ⟨_, _, _, L2, lf2, dd2, b2, rfl, rfl, p2, B2⟩
    rintro σ G1 H1 L' s1 O1 ⟨x4, x5, x6, L1, lf1, dd1, b1, rfl, rfl, p1, B1⟩
    refine x_seq (x_whenS (fun σ' H' => ∃ (x5 x6 : Option V) (G' : Hp) (L1 : List (Addr × HO)) (lf1 : Option Nat) (dd1 : Bool) (b1 : List V), σ' = [some (.ref b), some (.ref p), some (.ref a), some (.bl cn), x4, x5, x6] ∧ Same G G' ∧ Own G' H' ((b, .lst b1) :: (L1 ++ R)) ∧ Pr C G' p a m (jj + 5) lf1 dd1 L1 ∧ Few lf1 dd1 0 ∧ Box (N + 250) b1) ?_ (fun tn tl => ?_))
    · rintro σ H2 ⟨x5, x6, G2, L2, lf2, dd2, b2, rfl, s2, O2, p2, few2, B2⟩
      walk_at "s"
      refine x_rg (by decide) (by decide) ?_
      refine for_own walk_range O2 (fun i σ G' L' => ∃ (x4 : Option V) (L1 : List (Addr × HO)) (lf1 : Option Nat) (dd1 : Bool) (b1 : List V), σ = [some (.ref b), some (.ref p), some (.ref a), some (.bl cn), x4, x5, x6] ∧ L' = (b, .lst b1) :: (L1 ++ R) ∧ Pr C G' p a m (jj + 5 + i) lf1 dd1 L1 ∧ Few lf1 dd1 i ∧ Box (N + 130 + 20 * (6 - i)) b1)
        ⟨x4, L2, lf2, dd2, b2, rfl, rfl, p2, few2, B2.le (by omega)⟩ (fun _ _ _ _ _ _ _ _ => True.intro) ?_ ?_
      · rintro i x σ G' H' H2' L' hi s' O1 ⟨x4, L1, lf1, dd1, b1, rfl, rfl, p1, few1, B1⟩ ⟨rfl, rfl⟩
        have hi' : i < 6 := hi
        walk_at "s"
        refine ⟨G', R, L1, b, p, a, m, jj + 5 + i, N + 130 + 20 * (6 - (i + 1)) + 10, lf1, dd1, b1, !cn, rfl, O1, p1, by omega, B1.le (by omega), fun G3 H3 L3 b3 s3 O3 p3 B3 => ?_⟩
        walk_at "s"
        refine sr_of p3 (by omega) O3 fun H4 O4 => ?_
        walk_at "s"
        refine ⟨G3, _, b, 4, N + 130 + 20 * (6 - (i + 1)) + 9, b3, rfl, O4, B3, by decide, by decide, fun H5 r5 b5 r50 r51 O5 B5 => ?_⟩
        walk_at "s"
        refine x_eq rfl ?_
        rw [int_eq]
        walk_at "s"
        refine ite_b (fun c => ?_) (fun c => ?_)
        · walk_at "s"
          refine ⟨G3, _, L3, p, a, m, jj + 5 + i, lf1, dd1, rfl, to_p O5, p3, fun G6 H6 L6 s6 O6 p6 => ?_⟩
          walk_at "s"
          refine ⟨G6, R, L6, b, p, a, m, jj + 5 + i, N + 130 + 20 * (6 - (i + 1)), _, _, b5, cn, rfl, of_p O6, p6, by omega, B5.le (by omega), fun G7 H7 L7 b7 s7 O7 p7 B7 => ?_⟩
          walk_at "s"
          refine sr_of p7 (by omega) O7 fun H8 O8 => ?_
          walk_at "s"
          exact fvh (s'.trans (s3.trans (s6.trans s7))) O8 ⟨_, L7, _, _, b7, rfl, rfl, p7, few1.use.use.le (by omega), B7⟩
        · walk_at "s"
          refine ⟨G3, R, L3, b, p, a, m, jj + 5 + i, N + 130 + 20 * (6 - (i + 1)), _, _, b5, cn, rfl, O5, p3, by omega, B5.le (by omega), fun G7 H7 L7 b7 s7 O7 p7 B7 => ?_⟩
          walk_at "s"
          refine sr_of p7 (by omega) O7 fun H8 O8 => ?_
          walk_at "s"
          exact fvh (s'.trans (s3.trans s7)) O8 ⟨_, L7, _, _, b7, rfl, rfl, p7, few1.use, B7⟩
      rintro σ G3 H3 L' s3 O3 ⟨x4, L3, lf3, dd3, b3, rfl, rfl, p3, few3, B3⟩
      obtain rfl := few3.dead
      have p3' := p3
      obtain ⟨dx, s, t, w, n, s2', w2, syn, now, ws, wr, wl, rfl, w1, wr1, ln, ls, m1, m8, tn, tsy, tw, lw⟩ := p3
      walk_at "s"
      refine x_ixl (i := 4) (SqL.of (st_a (to_s O3))) rfl ?_
      walk_at "s"
      refine x_rg (by decide) (by decide) ?_
      refine for_own walk_range O3 (fun i σ G' L' => ∃ (x4 : Option V) (L1 : List (Addr × HO)) (lf1 : Option Nat) (b1 : List V), σ = [some (.ref b), some (.ref p), some (.ref a), some (.bl cn), x4, x5, x6] ∧ L' = (b, .lst b1) :: (L1 ++ R) ∧ Pr C G' p a m (jj + 11 + i) lf1 true L1 ∧ Box (N + 20 * (6 - i)) b1)
        ⟨x4, _, lf3, b3, rfl, rfl, p3', B3.le (by omega)⟩ (fun _ _ _ _ _ _ _ _ => True.intro) ?_ ?_
      · rintro i x σ G' H' H2' L' hi s' O1 ⟨x4, L1, lf1, b1, rfl, rfl, p1, B1⟩ ⟨rfl, rfl⟩
        have hi' : i < 6 := hi
        walk_at "s"
        refine ⟨G', R, L1, b, p, a, m, jj + 11 + i, N + 20 * (6 - (i + 1)), lf1, true, b1, !cn, rfl, O1, p1, by omega, B1.le (by omega), fun G4 H4 L4 lf4 dd4 b4 s4 O4 p4 d4 B4 => ?_⟩
        obtain rfl := d4 rfl
        walk_at "s"
        refine sr_of p4 (by omega) O4 fun H5 O5 => ?_
        walk_at "s"
        exact fvh (s'.trans s4) O5 ⟨_, L4, lf4, b4, rfl, rfl, p4, B4⟩
      rintro σ G4 H4 L' s4 O4 ⟨x4, L4, lf4, b4, rfl, rfl, p4, B4⟩
      have p4' := p4
      obtain ⟨dx, s, t, w, n, s2', w2, syn, now, ws, wr, wl, rfl, w1, wr1, ln, ls, m1, m8, tn, tsy, tw, lw⟩ := p4
      have s24 := s2.trans (s3.trans s4)
      walk_at "s"
      refine ⟨G4, _, [], p, dx, s, t, w, m, lf4, true, .non, .none, syn, now, ws, cn, rfl, to_d O4, val_flat .non (by decide), Rv.of (rp0 ⟨rfl, Nat.le_refl _, Nat.le_refl _⟩) (by decide), fun _ G5 H5 q5 s5 O5 e5 => ?_, (fun _ ed => nomatch ed), (fun ed => nomatch ed)⟩
      walk_at "s"
      refine ⟨by show 2 ≤ sizeLine; decide, x_fix O5 fun p6 G6 H6 s6 O6 e6 => ?_⟩
      refine eq2 (by decide +kernel) (O6.sub _ _ (s6 _ _ e5)) (O6.sub _ _ e6) (by decide +kernel) ?_
      walk_at "s"
      refine ⟨G6, _, p, dx, s, t, w, m, lf4, true, syn, now, ws, rfl, O6, fun _ G7 H7 q7 s7 O7 e7 => ?_, (fun ed => nomatch ed), (fun _ ed => nomatch ed)⟩
      walk_at "s"
      refine ⟨by show 2 ≤ sizeLine; decide, x_fix O7 fun p8 G8 H8 s8 O8 e8 => ?_⟩
      have sa := s5.trans (s6.trans (s7.trans s8))
      refine eq2 (by decide +kernel) (O8.sub _ _ (s8 _ _ e7)) (O8.sub _ _ e8) (by decide +kernel) ?_
      walk_at "s"
      exact q G8 H8 _ lf4 b4 (s24.trans sa) (of_d O8) (p4'.same sa (by omega)) (B4.le (by omega))
    · have p1' := p1
      obtain ⟨dx, s, t, w, n, s2', w2, syn, now, ws, wr, wl, rfl, w1, wr1, ln, ls, m1, m8, tn', tsy, tw, lw⟩ := p1
      walk_at "s"
      refine x_ixl (i := 4) (SqL.of (st_a (to_s O1))) rfl ?_
      cases dd1 with
      | true =>
        walk_at "s"
        exact tl _ _ ⟨x5, x6, G1, _, lf1, true, b1, rfl, s1, O1, p1'.same (Same.refl _) (by omega), .inl rfl, B1.le (by omega)⟩
      | false =>
        walk_at "s"
        refine ⟨G1, _, b, 5, N + 270, b1, rfl, O1, B1.le (by omega), by decide, by decide, fun H2 r2 b2 r20 r21 O2 B2 => ?_⟩
        obtain ⟨c, rfl⟩ := Int.eq_ofNat_of_zero_le r20
        walk_at "s"
        refine ⟨G1, _, [], p, dx, s, t, w, m, lf1, false, .int (c : Int), .int (c : Int), syn, now, ws, cn, rfl, to_d O2, val_flat (.int _) (by show ("int" : String) ≠ "list"; decide), Rv.of (Rp.int (by omega)) (by show ("int" : String) ≠ "list"; decide), (fun ed => nomatch ed), fun lf' _ el G5 H5 q5 s5 O5 e5 => ?_, fun _ el => ?_⟩
        · have el' : cntB (.int (c : Int)) = some (some c) := by
            simp only [cntB]
            rw [if_pos (by omega), Int.toNat_natCast]
          rw [el'] at el
          cases el
          walk_at "s"
          have S5 := to_s (of_d O5)
          refine x_setl (st_a S5) rfl (x_stA (lf' := some c) (dd' := false) S5 fun H6 S6 => ?_)
          walk_at "s"
          refine x_ixl (i := 0) (SqL.of (S6.sub _ _ e5)) rfl ?_
          walk_at "s"
          refine x_ne rfl ?_
          rw [decide_eq_true rfl]
          walk_at "s"
          refine x_ixl (i := 1) (SqL.of (S6.sub _ _ e5)) rfl ?_
          walk_at "s"
          exact tl _ _ ⟨_, _, G5, _, some c, false, b2, rfl, s1.trans s5, of_s S6, ⟨dx, s, t, w, n, s2', w2, syn, now, ws, wr, wl, rfl, w1.mono s5, wr1.mono s5, ln, ls, m1, m8, tn', tsy, tw, by omega⟩, .inr ⟨c, rfl, by omega⟩, B2.le (by omega)⟩
        · have el' : cntB (.int (c : Int)) = some (some c) := by
            simp only [cntB]
            rw [if_pos (by omega), Int.toNat_natCast]
          rw [el'] at el
          cases el
end
end M85
set_option maxHeartbeats 4000000
namespace M85
open PySem PySem.Spec PyProof.Rows L2 G
local macro_rules | `(tactic| walk_at "hp") => `(tactic| first | assumption | exact Own.at0 (by assumption) | exact Own.at1 (by assumption) | exact Own.at2 (by assumption) | exact Own.at3 (by assumption) | exact Own.sub (by assumption) _ _ (by assumption) | exact upd_same)
local macro_rules | `(tactic| walk_at "hl") => `(tactic| first | assumption | exact SqL.of (by walk_at "hp") | exact Own.seq (by assumption) (by assumption) | exact Own.seq (by assumption) (SqL.of (by assumption)))
local macro_rules | `(tactic| walk_at "ht") => `(tactic| first | assumption | exact SqT.of (by walk_at "hp") | exact Own.set (by assumption) (by assumption) | exact Own.set (by assumption) (SqT.of (by assumption)))
local macro_rules | `(tactic| walk_at "n") => `(tactic| (intros; (try dsimp only [List.set, wipe, List.map, List.set_cons_succ, List.set_cons_zero]); (try exact rfl)))
local macro_rules | `(tactic| walk_at "n1") => `(tactic| with_reducible first | (refine x_asgN (σ' := ?s) ?hs ?q; (case hs => walk_at "n")) | (refine x_gN (σ' := ?s) ?hs ?q; (case hs => walk_at "n")) | (refine And.intro (show wipe _ _ = _ from (by walk_at "n")) ?_) | (refine x_parN (σ' := ?s) ?hs ?q; (case hs => walk_at "n")) | (refine x_par3N (σ' := ?s) ?hs ?q; (case hs => walk_at "n")))
local macro_rules | `(tactic| walk_at "v1") => `(tactic| ((with_reducible refine x_var (v := ?v) ?h ?q); (case h => first | exact rfl | assumption)))
local macro_rules | `(tactic| walk_at "s1") => `(tactic| with_reducible first | refine x_op ?_ | refine x_acons ?_ | refine x_c ?_ | refine x_call ?_ | refine x_anil ?_ | refine x_cb ?_ | refine x_seq ?_ | refine x_asgG ?_ | refine x_gC ?_ | refine x_gNl ?_ | refine x_ret ?_ | refine x_ifs ?_ | refine x_test ?_ | refine x_testb ?_ | refine x_and ?_ | refine x_or ?_ | refine x_andV ?_ | refine x_isB ?_ | refine x_add ?_ | refine x_lt ?_ | refine x_inti ?_ | refine x_isI ?_ | refine x_lst ?_ | refine x_tup ?_ | refine x_slice ?_ | refine x_nop ?_ | refine x_part ?_ | refine x_bm ?_ | refine x_sub ?_ | refine x_rI0 ?_ | refine x_drop ?_ | refine x_next ?_ | refine x_brk ?_ | refine x_cnt ?_ | refine x_par2 ?_ | refine x_par33 ?_ | refine x_un ?_ | refine x_rU ?_ | refine x_le ?_ | refine x_gt ?_ | refine x_ge ?_ | refine x_lts ?_ | refine x_intb ?_ | refine x_abs ?_ | refine x_tru ?_ | refine x_trub ?_ | refine x_trui ?_ | refine x_not ?_ | refine x_orV ?_ | refine x_notV ?_ | refine x_if ?_ | refine x_isN ?_ | refine x_isnN ?_ | refine x_dict ?_ | refine x_bm0 ?_ | refine x_revL ?_ | refine x_lcR ?_ | refine x_lcS ?_ | refine x_forR ?_ | refine x_forS ?_ | refine x_yes ?_ | refine ite_t ?_ | refine ite_f ?_)
local macro_rules | `(tactic| walk_at "s") => `(tactic| repeat (first | walk_at "v1" | walk_at "s1" | walk_at "n1"))
local macro_rules | `(tactic| walk_at "bd") => `(tactic| first | decide | omega | exact Nat.le_refl _)
local macro_rules | `(tactic| walk_at "ft") => `(tactic| first
  | with_reducible exact la_nil | with_reducible exact fa_nil | with_reducible exact ft_non | with_reducible exact ft_bl | with_reducible exact ft_dict | ((with_reducible refine ft_str (n := 10) (x := ?x) ?h); (case h => exact And.intro rfl (by decide))) | ((with_reducible refine ft_int (i := ?i) ?h); (case h => decide))
  | ((with_reducible refine ft_var (v := ?v) (m := ?m) (n := ?n) ?h ?f); (case h => exact rfl); (case f => assumption))
  | ((with_reducible refine fa_cons (m1 := ?a) (n1 := ?b) (m2 := ?c) (n2 := ?d) ?f ?g); (case f => walk_at "ft"); (case g => walk_at "ft"))
  | ((with_reducible refine ft_tup (m := ?m) (n := ?n) ?f ?h); (case f => walk_at "ft"); (case h => walk_at "bd"))
  | ((with_reducible refine ft_lst (m := ?m) (n := ?n) ?f ?h); (case f => walk_at "ft"); (case h => walk_at "bd"))
  | ((with_reducible refine la_cons (m1 := ?a) (n1 := ?b) (B := ?c) ?f ?g ?h ?i); (case f => walk_at "ft"); (case h => walk_at "bd"); (case i => walk_at "bd"); (case g => walk_at "ft"))
  | ((with_reducible refine lt_var (v := ?v) (m := ?m) (n := ?n) (B := ?b) ?h ?f); (case h => exact rfl); (case f => assumption))
  | ((with_reducible refine lt_add (B1 := ?a) (B2 := ?b) ?f ?g ?h); (case f => walk_at "ft"); (case g => walk_at "ft"); (case h => walk_at "bd"))
  | ((with_reducible refine ft_addsv (x := ?x) (m := ?m) (n := 10) ?h ?s ?a ?z); (case h => exact rfl); (case s => assumption); (case a => exact And.intro rfl (by decide)); (case z => decide))
  | ((with_reducible refine lt_lst ?f ?h); (case f => walk_at "ft"); (case h => walk_at "bd")))
local macro_rules | `(tactic| walk_at "s1") => `(tactic| with_reducible first | refine x_fld ?_ | refine x_sfld ?_ | refine x_m ?_ | refine x_mr ?_ | refine x_i ?_ | refine x_ir ?_ | refine x_gfld ?_ | refine x_mko ?_ | refine x_vei ?_ | refine x_ost ?_ | refine ite_nt ?_ | refine ite_nf ?_)
local macro_rules | `(tactic| walk_at "pm") => `(tactic| exact pmL fun c e h0 h1 h2 => by (simp only [h0, h1, h2]) <;> omega)
theorem rep_txv {m : Nat} : ∀ x ∈ List.replicate m (V.str ""), TxV x := fun x hx => by
  rw [(List.mem_replicate.mp hx).2]
  exact .inr ⟨0, Str.ofString "", rfl, Tx.nil, by decide⟩
/-- a new disk, and its own state -/
theorem new_pr {G H : Hp} {R : List (Addr × HO)} {C p dx s t w a n1 n2 w9 : Addr} {m : Nat} {lf : Option Nat} (m1 : 1 ≤ m) (m8 : m ≤ 8) : Pr C G p a m 0 lf false (dkL C p dx s t w m lf false (List.replicate m (.str "")) (List.replicate m (.str "")) [] ++ stL a n1 n2 w9 (List.replicate m (.str "")) (List.replicate m (.str "")) [] lf false) :=
  ⟨dx, s, t, w, n1, n2, w9, _, _, [], [], [], rfl, .nil, .nil, List.length_replicate, List.length_replicate, m1, m8, rep_txv, rep_txv, (fun _ z => nomatch z), Nat.zero_le _⟩
section
variable {P : Program} {w : World} {K : PySem.W.Frag} {mg : Str → Option Value} {base : Heap} {k : Nat} {fa C D CB CT CM CF CP CC : Addr}
abbrev s__law_cell_right : Stmt := top 44
theorem sc__law_cell_right : FnScope ["box", "by_name", "many", "disk", "state", "other", "beside", "life", "after", "turn"] ["box"] (defScope s__law_cell_right) := ⟨rfl, rfl, rfl, by decide +kernel, rfl, by decide +kernel, by decide +kernel⟩
def sp_cr : Sp := fun vs H Q _ => ∃ (G : Hp) (R : List (Addr × HO)) (b : Addr) (bx : List V), vs = [.ref b] ∧ Own G H ((b, .lst bx) :: R) ∧ Box 900000000 bx ∧ ∀ (G' H' : Hp) bx', Same G G' → Own G' H' ((b, .lst bx') :: R) → Q (.bl true) H'
theorem ok_cr {f : Addr} {fd : FuncData} (F : Fun K "_law_cell_right" "_law_cell_right" s__law_cell_right f fd) (B : Bt mg) (C__law_take : Cal P w K mg base (k + 1) "_law_take" ["box", "many"] sp_take) (I_Disk : In P w K mg base k C "Disk" ["self", "many"] (sp_in K C CM))
    (C__law_life_right : Cal P w K mg base (k + 1) "_law_life_right" ["box", "disk", "state", "by_name"] (sp_lf C)) (C__law_write_right : Cal P w K mg base (k + 1) "_law_write_right" ["box", "disk", "state", "by_name"] (sp_wg C)) (C__law_remains_right : Cal P w K mg base (k + 1) "_law_remains_right" ["box", "disk", "state", "by_name"] (sp_rg C))
    (C__law_state_right : Cal P w K mg base (k + 1) "_law_state_right" ["disk", "state"] (sp_sr C)) (C__law_sync_right : Cal P w K mg base (k + 1) "_law_sync_right" ["disk", "state"] (sp_sg C)) : FnG P w K mg base (k + 2) f fd ["box"] sp_cr := by
  refine fnG_of F sc__law_cell_right (fun vs H Q E h => ?_) (fun cdv A outer s H vs Q E r h => ?_)
  · obtain ⟨_, _, _, _, rfl, _⟩ := h
    rfl
  · obtain ⟨G, R, b, bx, rfl, O, bo, q⟩ := h
    refine ⟨_, (pss_cons (ps_par (i := 1) (j := 2) rfl sc__law_cell_right.nd rfl rfl (by decide) rfl rfl (pa_cons (pe_cmpR (oEqK (K := K) rfl r) (g_call C__law_take r (by rfl) passL (pa_cons (pv 0) (pa_cons pe_int pa_nil))) pe_int (nomark _)) (pa_cons (pe_ix (ixK (K := K) rfl) (d_lst (pa_cons pe_int (pa_cons pe_int (pa_cons pe_int (pa_cons pe_int (pa_cons pe_int (pa_cons pe_int pa_nil))))))) (g_call C__law_take r (by rfl) passL (pa_cons (pv 0) (pa_cons pe_int pa_nil))) (fun _ _ => rfl)) pa_nil)) (by rfl))
       (pss_cons (ps_par (i := 3) (j := 4) rfl sc__law_cell_right.nd rfl rfl (by decide) rfl rfl (pa_cons (g_make I_Disk r (by rfl) (takes_of rfl rfl rfl rfl) (pa_cons (pv 2) pa_nil)) (pa_cons (d_lst (pa_cons (pe_op oMul (d_lst (pa_cons pe_str pa_nil)) (pv 2)) (pa_cons (pe_op oMul (d_lst (pa_cons pe_str pa_nil)) (pv 2)) (pa_cons (d_lst pa_nil) (pa_cons pe_non (pa_cons pe_bl pa_nil)))))) pa_nil)) (by rfl))
       (pss_cons (ps_par (i := 5) (j := 6) rfl sc__law_cell_right.nd rfl rfl (by decide) rfl rfl (pa_cons (g_make I_Disk r (by rfl) (takes_of rfl rfl rfl rfl) (pa_cons pe_int pa_nil)) (pa_cons (d_lst (pa_cons (d_lst (pa_cons pe_str (pa_cons pe_str pa_nil))) (pa_cons (d_lst (pa_cons pe_str (pa_cons pe_str pa_nil))) (pa_cons (d_lst pa_nil) (pa_cons pe_non (pa_cons pe_bl pa_nil)))))) pa_nil)) (by rfl))
       (pss_cons (ps_for (passes_of rfl) rfl (pi_range1 (by rfl) B.range (pa_cons pe_int pa_nil)) (pg_name (i := 7) sc__law_cell_right.nd rfl (Or.inl rfl))
       (pss_cons (ps_if (PW.pt (pw_or (pt_not (pt_truK (K := K) rfl (g_call C__law_life_right r (by rfl) passL (pa_cons (pv 0) (pa_cons (pv 3) (pa_cons (pv 4) (pa_cons (pv 1) pa_nil))))))) (pw_or1 (pt_not (pt_truK (K := K) rfl (g_call C__law_write_right r (by rfl) passL (pa_cons (pv 0) (pa_cons (pv 5) (pa_cons (pv 6) (pa_cons (pv 1) pa_nil))))))))))
       (pss_one (ps_ret pe_bl))
       pss_nil)
       (pss_cons (ps_set (i := 8) sc__law_cell_right.nd rfl (Or.inl rfl) (g_call C__law_remains_right r (by rfl) passL (pa_cons (pv 0) (pa_cons (pv 3) (pa_cons (pv 4) (pa_cons (pv 1) pa_nil))))))
       (pss_cons (ps_if (PW.pt (pw_or (pt_cmpR oIs (pv 8) pe_non (nomark _)) (pw_or (pt_not (pt_truK (K := K) rfl (g_call C__law_state_right r (by rfl) passL (pa_cons (pv 3) (pa_cons (pv 4) pa_nil))))) (pw_or1 (pt_not (pt_truK (K := K) rfl (g_call C__law_state_right r (by rfl) passL (pa_cons (pv 5) (pa_cons (pv 6) pa_nil)))))))))
       (pss_one (ps_ret pe_bl))
       pss_nil)
       (pss_cons (ps_asg (pv 8) (pg_unlK (K := K) (n := 2) rfl rfl (pgs_cons (pg_name (i := 3) sc__law_cell_right.nd rfl (Or.inl rfl)) (pgs_cons (pg_name (i := 4) sc__law_cell_right.nd rfl (Or.inl rfl)) pgs_nil))))
       (pss_cons (ps_set (i := 1) sc__law_cell_right.nd rfl (Or.inl rfl) (pe_not (pv 1)))
       (pss_cons (ps_for (passes_of rfl) rfl (pi_range1 (by rfl) B.range (pa_cons (g_call C__law_take r (by rfl) passL (pa_cons (pv 0) (pa_cons pe_int pa_nil))) pa_nil)) (pg_name (i := 9) sc__law_cell_right.nd rfl (Or.inl rfl))
       (pss_one (ps_if (pt_not (pt_truK (K := K) rfl (g_call C__law_write_right r (by rfl) passL (pa_cons (pv 0) (pa_cons (pv 3) (pa_cons (pv 4) (pa_cons (pv 1) pa_nil)))))))
       (pss_one (ps_ret pe_bl))
       pss_nil)))
       (pss_one (ps_if (pt_not (pt_truK (K := K) rfl (g_call C__law_state_right r (by rfl) passL (pa_cons (pv 3) (pa_cons (pv 4) pa_nil)))))
       (pss_one (ps_ret pe_bl))
       pss_nil)))))))))
       (pss_one (ps_ret (pe_and (g_call C__law_sync_right r (by rfl) passL (pa_cons (pv 3) (pa_cons (pv 4) pa_nil))) (pe_one (g_call C__law_state_right r (by rfl) passL (pa_cons (pv 3) (pa_cons (pv 4) pa_nil))))))))))), ?_⟩
    try dsimp only [cxOf]
    refine x_start (σ' := [some _, none, none, none, none, none, none, none, none, none]) rfl ?_
    walk_at "s"
    refine ⟨G, R, b, 2, 899999999, bx, rfl, O, bo, by decide, by decide, fun H1 r1 b1 r10 r11 O1 B1 => ?_⟩
    walk_at "s"
    refine x_eq rfl ?_
    rw [int_eq]
    generalize decide (r1 = 1) = cn0
    walk_at "s"
    refine ⟨by show 6 ≤ sizeLine; decide, x_fix O1 fun e1 G1 H1 s1 O1 e1' => ?_⟩
    walk_at "s"
    refine ⟨G1, R, b, 6, 899999998, b1, rfl, O1, B1, by decide, by decide, fun H2 r2 b2 r20 r21 O2 B2 => ?_⟩
    obtain ⟨m, m1, m8, em⟩ : ∃ m : Nat, 1 ≤ m ∧ m ≤ 8 ∧ atI [V.int 2, V.int 1, V.int 3, V.int 4, V.int 5, V.int 2] r2 = some (.int (m : Int)) := by
      obtain ⟨j, rfl⟩ := Int.eq_ofNat_of_zero_le r20
      rcases (show j = 0 ∨ j = 1 ∨ j = 2 ∨ j = 3 ∨ j = 4 ∨ j = 5 by omega) with rfl | rfl | rfl | rfl | rfl | rfl
      · exact ⟨2, by decide, by decide, rfl⟩
      · exact ⟨1, by decide, by decide, rfl⟩
      · exact ⟨3, by decide, by decide, rfl⟩
      · exact ⟨4, by decide, by decide, rfl⟩
      · exact ⟨5, by decide, by decide, rfl⟩
      · exact ⟨2, by decide, by decide, rfl⟩
    refine x_ixl (SqL.of (O2.sub _ _ e1')) em ?_
    walk_at "s"
    refine x_make O2 fun p dx H3 O3 => ?_
    refine ⟨G1, _, p, dx, .int (m : Int), .int (m : Int), rfl, O3, .int _, fun m' em' _ _ H4 s t w O4 => ?_, fun cb => ?_⟩
    rotate_left
    · exact absurd cb (by simp only [inB, Bool.and_eq_false_iff, decide_eq_false_iff_not]; omega)
    obtain rfl : m = m' := by cases em'; rfl
    refine ⟨rfl, ?_⟩
    walk_at "s"
    refine ⟨by show 1 ≤ sizeLine; decide, x_fix O4 fun e5 G5 H5 s5 O5 e5' => ?_⟩
    walk_at "s"
    refine x_rep (O5.sub _ _ e5') (by omega) (by omega) (by show 1 ≤ 1000; decide) ?_
    rw [rep_one]
    refine x_new O5 fun n1 H6 O6 => ?_
    walk_at "s"
    refine ⟨by show 1 ≤ sizeLine; decide, x_fix O6 fun e7 G7 H7 s7 O7 e7' => ?_⟩
    walk_at "s"
    refine x_rep (O7.sub _ _ e7') (by omega) (by omega) (by show 1 ≤ 1000; decide) ?_
    rw [rep_one]
    refine x_new O7 fun n2 H8 O8 => ?_
    walk_at "s"
    refine ⟨by show 0 ≤ sizeLine; decide, x_new O8 fun w9 H9 O9 => ?_⟩
    walk_at "s"
    have O9' := Own.putAt (A := [_]) (Own.putAt (A := [_, _]) O9)
    refine ⟨by show 5 ≤ sizeLine; decide, x_new O9' fun a Ha Oa => ?_⟩
    have Ob : Own G7 Ha (stL a n1 n2 w9 (List.replicate m (.str "")) (List.replicate m (.str "")) [] none false ++ (dkL C p dx s t w m none false (List.replicate m (.str "")) (List.replicate m (.str "")) [] ++ ((b, .lst b2) :: R))) := Oa
    have P0 : Pr C G7 p a m 0 none false (dkL C p dx s t w m none false (List.replicate m (.str "")) (List.replicate m (.str "")) [] ++ stL a n1 n2 w9 (List.replicate m (.str "")) (List.replicate m (.str "")) [] none false) := new_pr (H := Ha) (R := []) m1 m8
    walk_at "s"
    refine x_make Ob fun p' dx' Hb Ob => ?_
    refine ⟨G7, _, p', dx', .int (2 : Nat), .int (2 : Nat), rfl, Ob, .int _, fun m' em' _ _ Hc s' t' w' Oc => ?_, fun cb => ?_⟩
    rotate_left
    · exact absurd cb (by decide)
    obtain rfl : m' = 2 := by cases em'; rfl
    refine ⟨rfl, ?_⟩
    walk_at "s"
    refine ⟨by show 2 ≤ sizeLine; decide, x_new Oc fun n1' Hd Od => ?_⟩
    walk_at "s"
    refine ⟨by show 2 ≤ sizeLine; decide, x_new Od fun n2' He Oe => ?_⟩
    walk_at "s"
    refine ⟨by show 0 ≤ sizeLine; decide, x_new Oe fun w9' Hf Of => ?_⟩
    walk_at "s"
    have Of' := Own.putAt (A := [_]) (Own.putAt (A := [_, _]) Of)
    refine ⟨by show 5 ≤ sizeLine; decide, x_new Of' fun a' Hg Og => ?_⟩
    have Og1 : Own G7 Hg (stL a' n1' n2' w9' (List.replicate 2 (.str "")) (List.replicate 2 (.str "")) [] none false ++ (dkL C p' dx' s' t' w' 2 none false (List.replicate 2 (.str "")) (List.replicate 2 (.str "")) [] ++ (stL a n1 n2 w9 (List.replicate m (.str "")) (List.replicate m (.str "")) [] none false ++ (dkL C p dx s t w m none false (List.replicate m (.str "")) (List.replicate m (.str "")) [] ++ ((b, .lst b2) :: R))))) := Og
    have P1 : Pr C G7 p' a' 2 0 none false (dkL C p' dx' s' t' w' 2 none false (List.replicate 2 (.str "")) (List.replicate 2 (.str "")) [] ++ stL a' n1' n2' w9' (List.replicate 2 (.str "")) (List.replicate 2 (.str "")) [] none false) := new_pr (H := Hg) (R := []) (by decide) (by decide)
    have Og2 := Og1.perm (R := (b, .lst b2) :: ((dkL C p dx s t w m none false (List.replicate m (.str "")) (List.replicate m (.str "")) [] ++ stL a n1 n2 w9 (List.replicate m (.str "")) (List.replicate m (.str "")) [] none false) ++ ((dkL C p' dx' s' t' w' 2 none false (List.replicate 2 (.str "")) (List.replicate 2 (.str "")) [] ++ stL a' n1' n2' w9' (List.replicate 2 (.str "")) (List.replicate 2 (.str "")) [] none false) ++ R))) (by walk_at "pm")
    have s17 := s5.trans s7
    walk_at "s"
    refine x_rg (by decide) (by decide) ?_
    refine for_own walk_range Og2 (fun i σ G' L' => ∃ (cn : Bool) (pd ad po ao : Addr) (lf lf2 : Option Nat) (dd dd2 : Bool) (x7 x8 x9 : Option V) (La Lb : List (Addr × HO)) (bx' : List V), σ = [some (.ref b), some (.bl cn), some (.int (m : Int)), some (.ref pd), some (.ref ad), some (.ref p'), some (.ref a'), x7, x8, x9] ∧
      L' = (b, .lst bx') :: (La ++ (Lb ++ R)) ∧ Pr C G' pd ad m 10 lf dd La ∧ Pr C G' p' a' 2 i lf2 dd2 Lb ∧ Box (800000000 + 800 * (3 - i)) bx')
      ⟨cn0, p, a, p', a', none, none, false, false, _, _, _, _, _, b2, rfl, rfl, P0.same (Same.refl _) (by decide), P1, B2.le (by decide)⟩ (fun _ _ _ _ _ _ _ _ => True.intro) ?_ ?_
    · rintro i x σ G' H' H2 L' hi s' O' ⟨cn, pd, ad, po, ao, lf, lf2, dd, dd2, x7, x8, x9, La, Lb, bx', rfl, rfl, Pa, Pb, bo'⟩ ⟨rfl, rfl⟩
      have hi3 : i < 3 := hi
      walk_at "s"
      refine ⟨G', _, La, b, pd, ad, m, 10, 800000000 + 800 * (3 - (i + 1)) + 390, lf, dd, bx', cn, rfl, O', Pa, by decide, bo'.le (by omega), fun G3 H3 L3 lf3 b3 s3 O3 P3 B3 => ?_⟩
      walk_at "s"
      refine ⟨G3, L3 ++ R, Lb, b, p', a', 2, i, 800000000 + 800 * (3 - (i + 1)) + 380, lf2, dd2, b3, cn, rfl, O3.perm (by walk_at "pm"), Pb.same s3 (Nat.le_refl _), by omega, B3.le (by omega), fun G4 H4 L4 b4 s4 O4 P4 B4 => ?_⟩
      walk_at "s"
      refine ⟨G4, L4 ++ R, L3, b, pd, ad, m, 10 + 17, 800000000 + 800 * (3 - (i + 1)) + 60, lf3, true, b4, cn, rfl, O4.perm (by walk_at "pm"), P3.same s4 (Nat.le_refl _), by omega, B4.le (by omega), fun G5 H5 q5 p5 a5 L5 b5 s5 O5 P5 P5' e5 B5 => ?_⟩
      walk_at "s"
      have nn : decide (V.ref q5 = V.non) = false := decide_eq_false fun e => nomatch e
      rw [nn]
      refine ite_f ?_
      walk_at "s"
      refine sr_of P5 (by decide) O5 fun H6 O6 => ?_
      walk_at "s"
      have P4' := P4.same s5 (Nat.le_refl _)
      have O6' := O6.perm (R := (b, .lst b5) :: (L4 ++ (L3 ++ (L5 ++ R)))) (by walk_at "pm")
      refine sr_of P4' (by omega) O6' fun H7 O7 => ?_
      walk_at "s"
      refine x_ul (SqL.of (O7.sub _ _ e5)) rfl ?_
      refine x_gC ?_
      walk_at "n1"
      refine x_gC ?_
      walk_at "n1"
      refine x_gNl ?_
      walk_at "s"
      have O7' := Own.dropA (O7.perm (R := L3 ++ ((b, .lst b5) :: (L5 ++ (L4 ++ R)))) (by walk_at "pm"))
      refine ⟨G5, _, b, 8, 800000000 + 800 * (3 - (i + 1)) + 59, b5, rfl, O7', B5, by decide, by decide, fun H8 r8 b8 r80 r81 O8 B8 => ?_⟩
      obtain ⟨t8, rfl⟩ := Int.eq_ofNat_of_zero_le r80
      have ht8 : t8 < 8 := by omega
      refine x_rg (by omega) (by omega) ?_
      have s15 := s'.trans (s3.trans (s4.trans s5))
      refine for_own walk_range O8 (fun i2 σ G' L' => ∃ (x9 : Option V) (L6 : List (Addr × HO)) (lf6 : Option Nat) (dd6 : Bool) (b6 : List V), σ = [some (.ref b), some (.bl (!cn)), some (.int (m : Int)), some (.ref p5), some (.ref a5), some (.ref p'), some (.ref a'), some (.int (0 + (i : Int))), some (.ref q5), x9] ∧
        L' = (b, .lst b6) :: (L6 ++ (L4 ++ R)) ∧ Pr C G' p5 a5 m i2 lf6 dd6 L6 ∧ Pr C G' p' a' 2 (i + 1) (useL lf2 dd2).1 (useL lf2 dd2).2 L4 ∧ Box (800000000 + 800 * (3 - (i + 1)) + 6 * (8 - i2)) b6)
        ⟨x9, L5, none, false, b8, rfl, rfl, P5', P4', B8.le (by omega)⟩ (fun _ _ _ _ _ _ _ _ => True.intro) ?_ ?_
      · rintro i2 x σ G6 H6 H6' L' hi2 s6 O6 ⟨x9, L6, lf6, dd6, b6, rfl, rfl, P6, P6', B6⟩ ⟨rfl, rfl⟩
        walk_at "s"
        refine ⟨G6, _, L6, b, p5, a5, m, i2, 800000000 + 800 * (3 - (i + 1)) + 6 * (8 - (i2 + 1)), lf6, dd6, b6, !cn, rfl, O6, P6, by omega, B6.le (by omega), fun Ga Ha La ba sa Oa Pa Ba => ?_⟩
        walk_at "s"
        exact fvh (s6.trans sa) Oa ⟨_, La, _, _, ba, rfl, rfl, Pa, P6'.same sa (Nat.le_refl _), Ba⟩
      rintro σ G6 H6 L' s6 O6 ⟨x9, L6, lf6, dd6, b6, rfl, rfl, P6, P6', B6⟩
      walk_at "s"
      refine sr_of P6 (by omega) O6 fun Ha Oa => ?_
      walk_at "s"
      exact fvh (s15.trans s6) Oa ⟨!cn, p5, a5, p5, a5, lf6, _, dd6, _, _, _, _, L6, L4, b6, rfl, rfl, P6.same (Same.refl _) (by omega), P6', B6.le (by omega)⟩
    rintro σ Gh Hh L' sh Oh ⟨cn, pd, ad, po, ao, lf, lf2, dd, dd2, x7, x8, x9, La, Lb, bx', rfl, rfl, Pa, Pb, bo'⟩
    walk_at "s"
    refine ⟨Gh, _, La, pd, ad, m, 10, lf, dd, rfl, to_p Oh, Pa, fun G6 H6 L6 s6 O6 P6 => ?_⟩
    walk_at "s"
    refine sr_of P6 (by decide) (of_p O6) fun H7 O7 => ?_
    walk_at "s"
    have sz := s1.trans (s17.trans (sh.trans s6))
    exact q G6 H7 bx' sz (Own.dropA (O7.perm (R := (L6 ++ Lb) ++ ((b, .lst bx') :: R)) (by walk_at "pm")))
end
end M85
set_option maxHeartbeats 4000000
namespace M85
open PySem PySem.Spec PyProof.Rows L2 G
local macro_rules | `(tactic| walk_at "hp") => `(tactic| first | assumption | exact Own.at0 (by assumption) | exact Own.at1 (by assumption) | exact Own.at2 (by assumption) | exact Own.at3 (by assumption) | exact Own.sub (by assumption) _ _ (by assumption) | exact upd_same)
local macro_rules | `(tactic| walk_at "hl") => `(tactic| first | assumption | exact SqL.of (by walk_at "hp") | exact Own.seq (by assumption) (by assumption) | exact Own.seq (by assumption) (SqL.of (by assumption)))
local macro_rules | `(tactic| walk_at "ht") => `(tactic| first | assumption | exact SqT.of (by walk_at "hp") | exact Own.set (by assumption) (by assumption) | exact Own.set (by assumption) (SqT.of (by assumption)))
local macro_rules | `(tactic| walk_at "n") => `(tactic| (intros; (try dsimp only [List.set, wipe, List.map, List.set_cons_succ, List.set_cons_zero]); (try exact rfl)))
local macro_rules | `(tactic| walk_at "n1") => `(tactic| with_reducible first | (refine x_asgN (σ' := ?s) ?hs ?q; (case hs => walk_at "n")) | (refine x_gN (σ' := ?s) ?hs ?q; (case hs => walk_at "n")) | (refine And.intro (show wipe _ _ = _ from (by walk_at "n")) ?_) | (refine x_parN (σ' := ?s) ?hs ?q; (case hs => walk_at "n")) | (refine x_par3N (σ' := ?s) ?hs ?q; (case hs => walk_at "n")))
local macro_rules | `(tactic| walk_at "v1") => `(tactic| ((with_reducible refine x_var (v := ?v) ?h ?q); (case h => first | exact rfl | assumption)))
local macro_rules | `(tactic| walk_at "s1") => `(tactic| with_reducible first | refine x_op ?_ | refine x_acons ?_ | refine x_c ?_ | refine x_call ?_ | refine x_anil ?_ | refine x_cb ?_ | refine x_seq ?_ | refine x_asgG ?_ | refine x_gC ?_ | refine x_gNl ?_ | refine x_ret ?_ | refine x_ifs ?_ | refine x_test ?_ | refine x_testb ?_ | refine x_and ?_ | refine x_or ?_ | refine x_andV ?_ | refine x_isB ?_ | refine x_add ?_ | refine x_lt ?_ | refine x_inti ?_ | refine x_isI ?_ | refine x_lst ?_ | refine x_tup ?_ | refine x_slice ?_ | refine x_nop ?_ | refine x_part ?_ | refine x_bm ?_ | refine x_sub ?_ | refine x_rI0 ?_ | refine x_drop ?_ | refine x_next ?_ | refine x_brk ?_ | refine x_cnt ?_ | refine x_par2 ?_ | refine x_par33 ?_ | refine x_un ?_ | refine x_rU ?_ | refine x_le ?_ | refine x_gt ?_ | refine x_ge ?_ | refine x_lts ?_ | refine x_intb ?_ | refine x_abs ?_ | refine x_tru ?_ | refine x_trub ?_ | refine x_trui ?_ | refine x_not ?_ | refine x_orV ?_ | refine x_notV ?_ | refine x_if ?_ | refine x_isN ?_ | refine x_isnN ?_ | refine x_dict ?_ | refine x_bm0 ?_ | refine x_revL ?_ | refine x_lcR ?_ | refine x_lcS ?_ | refine x_forR ?_ | refine x_forS ?_ | refine x_yes ?_ | refine ite_t ?_ | refine ite_f ?_)
local macro_rules | `(tactic| walk_at "s") => `(tactic| repeat (first | walk_at "v1" | walk_at "s1" | walk_at "n1"))
local macro_rules | `(tactic| walk_at "bd") => `(tactic| first | decide | omega | exact Nat.le_refl _)
local macro_rules | `(tactic| walk_at "ft") => `(tactic| first
  | with_reducible exact la_nil | with_reducible exact fa_nil | with_reducible exact ft_non | with_reducible exact ft_bl | with_reducible exact ft_dict | ((with_reducible refine ft_str (n := 10) (x := ?x) ?h); (case h => exact And.intro rfl (by decide))) | ((with_reducible refine ft_int (i := ?i) ?h); (case h => decide))
  | ((with_reducible refine ft_var (v := ?v) (m := ?m) (n := ?n) ?h ?f); (case h => exact rfl); (case f => assumption))
  | ((with_reducible refine fa_cons (m1 := ?a) (n1 := ?b) (m2 := ?c) (n2 := ?d) ?f ?g); (case f => walk_at "ft"); (case g => walk_at "ft"))
  | ((with_reducible refine ft_tup (m := ?m) (n := ?n) ?f ?h); (case f => walk_at "ft"); (case h => walk_at "bd"))
  | ((with_reducible refine ft_lst (m := ?m) (n := ?n) ?f ?h); (case f => walk_at "ft"); (case h => walk_at "bd"))
  | ((with_reducible refine la_cons (m1 := ?a) (n1 := ?b) (B := ?c) ?f ?g ?h ?i); (case f => walk_at "ft"); (case h => walk_at "bd"); (case i => walk_at "bd"); (case g => walk_at "ft"))
  | ((with_reducible refine lt_var (v := ?v) (m := ?m) (n := ?n) (B := ?b) ?h ?f); (case h => exact rfl); (case f => assumption))
  | ((with_reducible refine lt_add (B1 := ?a) (B2 := ?b) ?f ?g ?h); (case f => walk_at "ft"); (case g => walk_at "ft"); (case h => walk_at "bd"))
  | ((with_reducible refine ft_addsv (x := ?x) (m := ?m) (n := 10) ?h ?s ?a ?z); (case h => exact rfl); (case s => assumption); (case a => exact And.intro rfl (by decide)); (case z => decide))
  | ((with_reducible refine lt_lst ?f ?h); (case f => walk_at "ft"); (case h => walk_at "bd")))
local macro_rules | `(tactic| walk_at "s1") => `(tactic| with_reducible first | refine x_fld ?_ | refine x_sfld ?_ | refine x_m ?_ | refine x_mr ?_ | refine x_i ?_ | refine x_ir ?_ | refine x_gfld ?_ | refine x_mko ?_ | refine x_vei ?_ | refine x_ost ?_ | refine ite_nt ?_ | refine ite_nf ?_)
local macro_rules | `(tactic| walk_at "pm") => `(tactic| exact pmL fun c e h0 h1 h2 => by (simp only [h0, h1, h2]) <;> omega)
section
variable {P : Program} {w : World} {K : PySem.W.Frag} {mg : Str → Option Value} {base : Heap} {k : Nat} {fa C D CB CT CM CF CP CC : Addr}
theorem neN {x : Str} (h : PyData.eqv (.list [.str x, .none]) (.list [.str x, .none]) = true) {K : PySem.W.Frag} {H : Hp} {Q : VK} {p q : Addr} (h1 : H p = some (.lst [.str x, .non])) (h2 : H q = some (.lst [.str x, .non]))
    (s1 : SeqAt.shaped (.list [.str x, .none]) = true) (k : Q (.bl false) H) : aNe K (.ref p) (.ref q) H Q := by
  refine x_neD (.lst (SqL.of h1) (.cons (.str _) (.cons .non .nil))) (.lst (SqL.of h2) (.cons (.str _) (.cons .non .nil))) s1 s1 ?_
  rw [h]
  exact k
theorem use_left {r : Nat} : useL (some (r + 1)) false = (some r, false) := rfl
theorem use_zero : useL (some 0) false = (some 0, true) := rfl
abbrev s__law_long_right : Stmt := top 45
theorem sc__law_long_right : FnScope ["box", "disk", "state", "turn"] ["box"] (defScope s__law_long_right) := ⟨rfl, rfl, rfl, by decide +kernel, rfl, by decide +kernel, by decide +kernel⟩
theorem ok_lr {f : Addr} {fd : FuncData} (F : Fun K "_law_long_right" "_law_long_right" s__law_long_right f fd) (B : Bt mg) (I_Disk : In P w K mg base k C "Disk" ["self", "many"] (sp_in K C CM))
    (C__law_limit_told : Cal P w K mg base (k + 1) "_law_limit_told" ["disk", "count", "by_name"] (sp_ll K C)) (C__law_write_right : Cal P w K mg base (k + 1) "_law_write_right" ["box", "disk", "state", "by_name"] (sp_wg C)) (C__law_wrong_right : Cal P w K mg base (k + 1) "_law_wrong_right" ["box", "disk", "state", "by_name"] (sp_xr C))
    (C__law_state_right : Cal P w K mg base (k + 1) "_law_state_right" ["disk", "state"] (sp_sr C)) (C__law_remains_right : Cal P w K mg base (k + 1) "_law_remains_right" ["box", "disk", "state", "by_name"] (sp_rg C)) : FnG P w K mg base (k + 2) f fd ["box"] sp_cr := by
  refine fnG_of F sc__law_long_right (fun vs H Q E h => ?_) (fun cdv A outer s H vs Q E r h => ?_)
  · obtain ⟨_, _, _, _, rfl, _⟩ := h
    rfl
  · obtain ⟨G, R, b, bx, rfl, O, bo, q⟩ := h
    refine ⟨_, (pss_cons (ps_par (i := 1) (j := 2) rfl sc__law_long_right.nd rfl rfl (by decide) rfl rfl (pa_cons (g_make I_Disk r (by rfl) (takes_of rfl rfl rfl rfl) (pa_cons pe_int pa_nil)) (pa_cons (d_lst (pa_cons (pe_op oMul (d_lst (pa_cons pe_str pa_nil)) pe_int) (pa_cons (pe_op oMul (d_lst (pa_cons pe_str pa_nil)) pe_int) (pa_cons (d_lst pa_nil) (pa_cons pe_non (pa_cons pe_bl pa_nil)))))) pa_nil)) (by rfl))
       (pss_cons (ps_if (pt_cmpR (oNeK (K := K) rfl r) (g_call C__law_limit_told r (by rfl) passL (pa_cons (pv 1) (pa_cons pe_int (pa_cons pe_bl pa_nil)))) (d_lst (pa_cons pe_str (pa_cons pe_non pa_nil))) (nomark _))
       (pss_one (ps_ret pe_bl))
       pss_nil)
       (pss_cons (ps_asg pe_int (pg_sub (pv 2) pe_int sSet))
       (pss_cons (ps_for (passes_of rfl) rfl (pi_range1 (by rfl) B.range (pa_cons pe_int pa_nil)) (pg_name (i := 3) sc__law_long_right.nd rfl (Or.inl rfl))
       (pss_cons (ps_if (pt_not (pt_truK (K := K) rfl (g_call C__law_write_right r (by rfl) passL (pa_cons (pv 0) (pa_cons (pv 1) (pa_cons (pv 2) (pa_cons pe_bl pa_nil)))))))
       (pss_one (ps_ret pe_bl))
       pss_nil)
       (pss_one (ps_if (PW.pt (pw_and (pt_cmpR (oEqK (K := K) rfl r) (pe_op op_modN (pe_callTy cInt (by rfl) B.int (by decide +kernel) (pa_cons (pv 3) pa_nil)) pe_int) pe_int (nomark _)) (pw_and1 (PW.pt (pw_or (pt_not (pt_truK (K := K) rfl (g_call C__law_wrong_right r (by rfl) passL (pa_cons (pv 0) (pa_cons (pv 1) (pa_cons (pv 2) (pa_cons pe_bl pa_nil))))))) (pw_or1 (pt_not (pt_truK (K := K) rfl (g_call C__law_state_right r (by rfl) passL (pa_cons (pv 1) (pa_cons (pv 2) pa_nil)))))))))))
       (pss_one (ps_ret pe_bl))
       pss_nil))))
       (pss_cons (ps_if (PW.pt (pw_or (pt_not (pt_truK (K := K) rfl (g_call C__law_write_right r (by rfl) passL (pa_cons (pv 0) (pa_cons (pv 1) (pa_cons (pv 2) (pa_cons pe_bl pa_nil))))))) (pw_or (pt_not (pt_truK (K := K) rfl (pe_ix (ixK (K := K) rfl) (pv 2) pe_int (fun _ _ => rfl)))) (pw_or1 (pt_not (pt_truK (K := K) rfl (g_call C__law_state_right r (by rfl) passL (pa_cons (pv 1) (pa_cons (pv 2) pa_nil)))))))))
       (pss_one (ps_ret pe_bl))
       pss_nil)
       (pss_one (ps_ret (pe_cmpR oIsn (g_call C__law_remains_right r (by rfl) passL (pa_cons (pv 0) (pa_cons (pv 1) (pa_cons (pv 2) (pa_cons pe_bl pa_nil))))) pe_non (nomark _))))))))), ?_⟩
    try dsimp only [cxOf]
    refine x_start (σ' := [some _, none, none, none]) rfl ?_
    walk_at "s"
    refine x_make O fun p dx H1 O1 => ?_
    refine ⟨G, _, p, dx, .int (3 : Nat), .int (3 : Nat), rfl, O1, .int _, fun m' em _ _ H2 s t w O2 => ?_, fun cb => ?_⟩
    rotate_left
    · exact absurd cb (by decide)
    obtain rfl : m' = 3 := by cases em; rfl
    refine ⟨rfl, ?_⟩
    walk_at "s"
    refine ⟨by show 1 ≤ sizeLine; decide, x_fix O2 fun e5 G5 H5 s5 O5 e5' => ?_⟩
    walk_at "s"
    refine x_rep (O5.sub _ _ e5') (by decide) (by decide) (by show 1 ≤ 1000; decide) ?_
    refine x_new O5 fun n1 H6 O6 => ?_
    walk_at "s"
    refine ⟨by show 1 ≤ sizeLine; decide, x_fix O6 fun e7 G7 H7 s7 O7 e7' => ?_⟩
    walk_at "s"
    refine x_rep (O7.sub _ _ e7') (by decide) (by decide) (by show 1 ≤ 1000; decide) ?_
    refine x_new O7 fun n2 H8 O8 => ?_
    walk_at "s"
    refine ⟨by show 0 ≤ sizeLine; decide, x_new O8 fun w9 H9 O9 => ?_⟩
    walk_at "s"
    have O9' := Own.putAt (A := [_]) (Own.putAt (A := [_, _]) O9)
    refine ⟨by show 5 ≤ sizeLine; decide, x_new O9' fun a Ha Oa => ?_⟩
    have Ob : Own G7 Ha (stL a n1 n2 w9 (List.replicate 3 (.str "")) (List.replicate 3 (.str "")) [] none false ++ (dkL C p dx s t w 3 none false (List.replicate 3 (.str "")) (List.replicate 3 (.str "")) [] ++ ((b, .lst bx) :: R))) := Oa
    have Oc := Own.ab Ob
    walk_at "s"
    refine ⟨G7, _, [], p, dx, s, t, w, 3, none, false, .int (200 : Nat), .int (200 : Nat), _, _, _, true, rfl, Oc, val_flat (.int _) (by show ("int" : String) ≠ "list"; decide), Rv.of (Rp.int (by decide)) (by show ("int" : String) ≠ "list"; decide), (fun ed => nomatch ed), fun lf' _ el Gd Hd qd sd Od ed => ?_, fun _ el => ?_⟩
    rotate_left
    · cases el
    obtain rfl : lf' = some 200 := by cases el; rfl
    walk_at "s"
    refine ⟨by show 2 ≤ sizeLine; decide, x_fix Od fun pe Ge He se Oe ee => ?_⟩
    refine neN (by decide +kernel) (Oe.sub _ _ (se _ _ ed)) (Oe.sub _ _ ee) (by decide +kernel) ?_
    walk_at "s"
    refine x_setl (st_a (Own.ab Oe)) rfl (x_stA (lf' := some 200) (dd' := false) (Own.ab Oe) fun Hf Of => ?_)
    have P0 : Pr C Ge p a 3 0 (some 200) false (dkL C p dx s t w 3 (some 200) false (List.replicate 3 (.str "")) (List.replicate 3 (.str "")) [] ++ stL a n1 n2 w9 (List.replicate 3 (.str "")) (List.replicate 3 (.str "")) [] (some 200) false) := new_pr (H := Hf) (R := []) (by decide) (by decide)
    have Og := Of.perm (R := (b, .lst bx) :: ((dkL C p dx s t w 3 (some 200) false (List.replicate 3 (.str "")) (List.replicate 3 (.str "")) [] ++ stL a n1 n2 w9 (List.replicate 3 (.str "")) (List.replicate 3 (.str "")) [] (some 200) false) ++ R)) (by walk_at "pm")
    have sGe := s5.trans (s7.trans (sd.trans se))
    walk_at "s"
    refine x_rg (by decide) (by decide) ?_
    refine for_own walk_range Og (fun i σ G' L' => ∃ (x3 : Option V) (L : List (Addr × HO)) (bx' : List V), σ = [some (.ref b), some (.ref p), some (.ref a), x3] ∧ L' = (b, .lst bx') :: (L ++ R) ∧ Pr C G' p a 3 i (some (200 - i)) false L ∧ Box (800000000 + 20 * (200 - i)) bx')
      ⟨_, _, bx, rfl, rfl, P0, bo.le (by decide)⟩ (fun _ _ _ _ _ _ _ _ => True.intro) ?_ ?_
    · rintro i x σ G' H' H3 L' hi s' O' ⟨x3, L, bx', rfl, rfl, p1, bo'⟩ ⟨rfl, rfl⟩
      have hi2 : i < 200 := hi
      have er : 200 - i = (200 - (i + 1)) + 1 := by omega
      rw [er] at p1
      walk_at "s"
      refine ⟨G', R, L, b, p, a, 3, i, 800000000 + 20 * (200 - (i + 1)) + 10, _, false, bx', false, rfl, O', p1, by omega, bo'.le (by omega), fun G4 H4 L4 b4 s4 O4 P4 B4 => ?_⟩
      rw [use_left] at P4
      walk_at "s"
      refine x_rI (by decide) ?_
      walk_at "s"
      refine x_eq rfl ?_
      rw [int_eq]
      walk_at "s"
      refine ite_b (fun c => ?_) (fun c => ?_)
      · walk_at "s"
        refine ⟨G4, R, L4, b, p, a, 3, i + 1, 800000000 + 20 * (200 - (i + 1)), _, false, b4, true, rfl, O4, P4, by omega, B4, fun G5 H5 L5 b5 s5 O5 P5 B5 => ?_⟩
        walk_at "s"
        refine sr_of P5 (by omega) O5 fun H6 O6 => ?_
        walk_at "s"
        exact fvh (s'.trans (s4.trans s5)) O6 ⟨_, L5, b5, rfl, rfl, P5, B5⟩
      · walk_at "s"
        exact fvh (s'.trans s4) O4 ⟨_, L4, b4, rfl, rfl, P4, B4.le (by omega)⟩
    rintro σ Gh Hh L' sh Oh ⟨x3, L, bx', rfl, rfl, p1, bo'⟩
    walk_at "s"
    refine ⟨Gh, R, L, b, p, a, 3, 200, 700000000, some 0, false, bx', true, rfl, Oh, p1, by decide, bo'.le (by decide), fun G4 H4 L4 b4 s4 O4 P4 B4 => ?_⟩
    rw [use_zero] at P4
    walk_at "s"
    have P4' := P4
    obtain ⟨dx, s, t, w, n, s2', w2, syn, now, ws, wr, wl, rfl, w1, wr1, ln, ls, m1, m8, tn', tsy, tw, lw⟩ := P4
    refine x_ixl (i := 4) (SqL.of (st_a (to_s O4))) rfl ?_
    walk_at "s"
    refine sr_of P4' (by decide) O4 fun H5 O5 => ?_
    walk_at "s"
    refine ⟨G4, R, _, b, p, a, 3, 201, 600000000, some 0, true, b4, false, rfl, O5, P4', by decide, B4.le (by decide), fun G6 H6 q6 p6 a6 L6 b6 s6 O6 P6 P6' e6 B6 => ?_⟩
    walk_at "s"
    exact q G6 H6 b6 (sGe.trans (sh.trans (s4.trans s6))) (Own.dropA (Own.dropA (O6.perm (R := (dkL C p dx s t w 3 (some 0) true syn now ws ++ stL a n s2' w2 now syn wr (some 0) true) ++ (L6 ++ ((b, .lst b6) :: R))) (by walk_at "pm"))))
end
end M85
set_option maxHeartbeats 4000000
namespace M85
open PySem PySem.Spec PyProof.Rows L2 G
local macro_rules | `(tactic| walk_at "hp") => `(tactic| first | assumption | exact Own.at0 (by assumption) | exact Own.at1 (by assumption) | exact Own.at2 (by assumption) | exact Own.at3 (by assumption) | exact Own.sub (by assumption) _ _ (by assumption) | exact upd_same)
local macro_rules | `(tactic| walk_at "hl") => `(tactic| first | assumption | exact SqL.of (by walk_at "hp") | exact Own.seq (by assumption) (by assumption) | exact Own.seq (by assumption) (SqL.of (by assumption)))
local macro_rules | `(tactic| walk_at "ht") => `(tactic| first | assumption | exact SqT.of (by walk_at "hp") | exact Own.set (by assumption) (by assumption) | exact Own.set (by assumption) (SqT.of (by assumption)))
local macro_rules | `(tactic| walk_at "n") => `(tactic| (intros; (try dsimp only [List.set, wipe, List.map, List.set_cons_succ, List.set_cons_zero]); (try exact rfl)))
local macro_rules | `(tactic| walk_at "n1") => `(tactic| with_reducible first | (refine x_asgN (σ' := ?s) ?hs ?q; (case hs => walk_at "n")) | (refine x_gN (σ' := ?s) ?hs ?q; (case hs => walk_at "n")) | (refine And.intro (show wipe _ _ = _ from (by walk_at "n")) ?_) | (refine x_parN (σ' := ?s) ?hs ?q; (case hs => walk_at "n")) | (refine x_par3N (σ' := ?s) ?hs ?q; (case hs => walk_at "n")))
local macro_rules | `(tactic| walk_at "v1") => `(tactic| ((with_reducible refine x_var (v := ?v) ?h ?q); (case h => first | exact rfl | assumption)))
local macro_rules | `(tactic| walk_at "s1") => `(tactic| with_reducible first | refine x_op ?_ | refine x_acons ?_ | refine x_c ?_ | refine x_call ?_ | refine x_anil ?_ | refine x_cb ?_ | refine x_seq ?_ | refine x_asgG ?_ | refine x_gC ?_ | refine x_gNl ?_ | refine x_ret ?_ | refine x_ifs ?_ | refine x_test ?_ | refine x_testb ?_ | refine x_and ?_ | refine x_or ?_ | refine x_andV ?_ | refine x_isB ?_ | refine x_add ?_ | refine x_lt ?_ | refine x_inti ?_ | refine x_isI ?_ | refine x_lst ?_ | refine x_tup ?_ | refine x_slice ?_ | refine x_nop ?_ | refine x_part ?_ | refine x_bm ?_ | refine x_sub ?_ | refine x_rI0 ?_ | refine x_drop ?_ | refine x_next ?_ | refine x_brk ?_ | refine x_cnt ?_ | refine x_par2 ?_ | refine x_par33 ?_ | refine x_un ?_ | refine x_rU ?_ | refine x_le ?_ | refine x_gt ?_ | refine x_ge ?_ | refine x_lts ?_ | refine x_intb ?_ | refine x_abs ?_ | refine x_tru ?_ | refine x_trub ?_ | refine x_trui ?_ | refine x_not ?_ | refine x_orV ?_ | refine x_notV ?_ | refine x_if ?_ | refine x_isN ?_ | refine x_isnN ?_ | refine x_dict ?_ | refine x_bm0 ?_ | refine x_revL ?_ | refine x_lcR ?_ | refine x_lcS ?_ | refine x_forR ?_ | refine x_forS ?_ | refine x_yes ?_ | refine ite_t ?_ | refine ite_f ?_)
local macro_rules | `(tactic| walk_at "s") => `(tactic| repeat (first | walk_at "v1" | walk_at "s1" | walk_at "n1"))
local macro_rules | `(tactic| walk_at "bd") => `(tactic| first | decide | omega | exact Nat.le_refl _)
local macro_rules | `(tactic| walk_at "ft") => `(tactic| first
  | with_reducible exact la_nil | with_reducible exact fa_nil | with_reducible exact ft_non | with_reducible exact ft_bl | with_reducible exact ft_dict | ((with_reducible refine ft_str (n := 10) (x := ?x) ?h); (case h => exact And.intro rfl (by decide))) | ((with_reducible refine ft_int (i := ?i) ?h); (case h => decide))
  | ((with_reducible refine ft_var (v := ?v) (m := ?m) (n := ?n) ?h ?f); (case h => exact rfl); (case f => assumption))
  | ((with_reducible refine fa_cons (m1 := ?a) (n1 := ?b) (m2 := ?c) (n2 := ?d) ?f ?g); (case f => walk_at "ft"); (case g => walk_at "ft"))
  | ((with_reducible refine ft_tup (m := ?m) (n := ?n) ?f ?h); (case f => walk_at "ft"); (case h => walk_at "bd"))
  | ((with_reducible refine ft_lst (m := ?m) (n := ?n) ?f ?h); (case f => walk_at "ft"); (case h => walk_at "bd"))
  | ((with_reducible refine la_cons (m1 := ?a) (n1 := ?b) (B := ?c) ?f ?g ?h ?i); (case f => walk_at "ft"); (case h => walk_at "bd"); (case i => walk_at "bd"); (case g => walk_at "ft"))
  | ((with_reducible refine lt_var (v := ?v) (m := ?m) (n := ?n) (B := ?b) ?h ?f); (case h => exact rfl); (case f => assumption))
  | ((with_reducible refine lt_add (B1 := ?a) (B2 := ?b) ?f ?g ?h); (case f => walk_at "ft"); (case g => walk_at "ft"); (case h => walk_at "bd"))
  | ((with_reducible refine ft_addsv (x := ?x) (m := ?m) (n := 10) ?h ?s ?a ?z); (case h => exact rfl); (case s => assumption); (case a => exact And.intro rfl (by decide)); (case z => decide))
  | ((with_reducible refine lt_lst ?f ?h); (case f => walk_at "ft"); (case h => walk_at "bd")))
local macro_rules | `(tactic| walk_at "s1") => `(tactic| with_reducible first | refine x_fld ?_ | refine x_sfld ?_ | refine x_m ?_ | refine x_mr ?_ | refine x_i ?_ | refine x_ir ?_ | refine x_gfld ?_ | refine x_mko ?_ | refine x_vei ?_ | refine x_ost ?_ | refine ite_nt ?_ | refine ite_nf ?_)
section
variable {P : Program} {w : World} {K : PySem.W.Frag} {mg : Str → Option Value} {base : Heap} {k : Nat} {fa C D CB CT CM CF CP CC : Addr}
theorem x_cut {σ : L2.St} {H : Hp} {A : TS} {b1 c1 nn : L2.St → Hp → Prop} {r1 : VK} (R : L2.St → Hp → Prop) (h2 : ∀ n : L2.St → Hp → Prop, (∀ σ H, R σ H → n σ H) → A ⟨n, r1, b1, c1⟩ σ H) (h1 : ∀ σ H, R σ H → nn σ H) : A ⟨nn, r1, b1, c1⟩ σ H := h2 nn h1
abbrev s_law : Stmt := top 46
theorem sc_law : FnScope ["script", "k"] ["script"] (defScope s_law) := ⟨rfl, rfl, rfl, by decide +kernel, rfl, by decide +kernel, by decide +kernel⟩
def sp_law (K : PySem.W.Frag) : Sp := fun vs H Q _ => ∃ (a : Addr) (is : List Int), vs = [.ref a] ∧ SqL K H a (is.map V.int) ∧ is.length ≤ 63 ∧ ∀ H', Q (.bl true) H'
theorem ok_law {f : Addr} {fd : FuncData} (F : Fun K "law" "law" s_law f fd) (B : Bt mg) (C__law_cell : Cal P w K mg base k "_law_cell" ["script", "k"] (sp_cell K)) (C__law_box : Cal P w K mg base k "_law_box" ["great"] sp_box)
    (C__law_cell_right : Cal P w K mg base k "_law_cell_right" ["box"] sp_cr) (C__law_long_right : Cal P w K mg base k "_law_long_right" ["box"] sp_cr) : FnG P w K mg base (k + 1) f fd ["script"] (sp_law K) := by
  refine fnG_of F sc_law (fun vs H Q E h => ?_) (fun cdv A outer s H vs Q E r h => ?_)
  · obtain ⟨a, is, rfl, _⟩ := h
    rfl
  · obtain ⟨a, is, rfl, ha, hl, q⟩ := h
    have O : Own H H [] := ⟨Same.refl _, fun _ z => (nomatch z), List.nodup_nil⟩
    refine ⟨_, (pss_cons (ps_if (PW.pt (pw_and (pt_cmpR (oEqK (K := K) rfl r) (pe_op op_modN (pe_callTy cInt (by rfl) B.int (by decide +kernel) (pa_cons (pe_callB (cSumK (K := K) rfl rfl) (by rfl) B.sum (by decide +kernel) (pa_cons (pe_slice (oSlK (K := K) rfl) (pv 0) po_none (po_some pe_int)) pa_nil)) pa_nil)) pe_int) pe_int (nomark _)) (pw_and1 (pt_not (pt_truK (K := K) rfl (g_call C__law_long_right r (by rfl) passL (pa_cons (g_call C__law_box r (by rfl) passL (pa_cons (g_call C__law_cell r (by rfl) passL (pa_cons (pv 0) (pa_cons pe_int pa_nil))) pa_nil)) pa_nil)))))))
       (pss_one (ps_ret pe_bl))
       pss_nil)
       (pss_cons (ps_for (passes_of rfl) rfl (pi_range1 (by rfl) B.range (pa_cons (pe_callB (cMax2 rfl) (by rfl) B.max (by decide +kernel) (pa_cons pe_int (pa_cons (pe_callB (cMin2 rfl) (by rfl) B.min (by decide +kernel) (pa_cons pe_int (pa_cons (pe_callB (cLenK (K := K) rfl) (by rfl) B.len (by decide +kernel) (pa_cons (pv 0) pa_nil)) pa_nil))) pa_nil))) pa_nil)) (pg_name (i := 1) sc_law.nd rfl (Or.inl rfl))
       (pss_one (ps_if (pt_not (pt_truK (K := K) rfl (g_call C__law_cell_right r (by rfl) passL (pa_cons (g_call C__law_box r (by rfl) passL (pa_cons (g_call C__law_cell r (by rfl) passL (pa_cons (pv 0) (pa_cons (pv 1) pa_nil))) pa_nil)) pa_nil))))
       (pss_one (ps_ret pe_bl))
       pss_nil)))
       (pss_one (ps_ret pe_bl)))), ?_⟩
    try dsimp only [cxOf]
    refine x_start (σ' := [some _, none]) rfl ?_
    refine x_seq (x_cut (fun σ H' => σ = [some (.ref a), none] ∧ ∃ G' : Hp, Same H G' ∧ Own G' H' []) (fun nx fin => ?_) ?_)
    · walk_at "s"
      refine x_slL ha (x_fix O fun p G1 H1 s1 O1 h1 => ?_)
      walk_at "s"
      have ec : ∃ ms : List Int, cutV (is.map V.int) none (some 2) = ms.map V.int := ⟨(is.drop (HT.sIx (is.map V.int).length 0 none)).take (HT.sIx (is.map V.int).length (is.map V.int).length (some 2) - HT.sIx (is.map V.int).length 0 none), by
        unfold cutV
        rw [List.map_take, List.map_drop]⟩
      obtain ⟨ms, em⟩ := ec
      rw [em] at h1
      refine ⟨p, ms, rfl, O1.seq (SqL.of h1), ?_⟩
      walk_at "s"
      refine x_rI (by decide) ?_
      walk_at "s"
      refine x_eq rfl ?_
      rw [int_eq]
      walk_at "s"
      refine ite_b (fun c => ?_) (fun c => ?_)
      · walk_at "s"
        refine ⟨G1, _, a, is, 2, rfl, O1, s1.seq ha, hl, by decide, fun G3 H3 v s3 O3 => ?_⟩
        walk_at "s"
        refine ⟨G3, _, v, rfl, O3, fun H4 p bx O4 B4 => ?_⟩
        walk_at "s"
        refine ⟨G3, _, p, bx, rfl, O4, B4.le (by decide), fun G5 H5 bx5 s5 O5 => ?_⟩
        walk_at "s"
        exact fin _ _ ⟨rfl, G5, s1.trans (s3.trans s5), O5.tail⟩
      · walk_at "s"
        exact fin _ _ ⟨rfl, G1, s1, O1⟩
    rintro σ H1 ⟨rfl, G1, s1, O1⟩
    refine x_seq (x_forR ?_)
    walk_at "s"
    refine x_lenl (O1.seq (s1.seq ha)) ?_
    rw [List.length_map]
    walk_at "s"
    refine ⟨_, _, rfl, ?_⟩
    walk_at "s"
    refine ⟨_, _, rfl, ?_⟩
    walk_at "s"
    generalize hz : (if (if (is.length : Int) < 6 then (is.length : Int) else 6) > 3 then (if (is.length : Int) < 6 then (is.length : Int) else 6) else 3) = z
    have z0 : 0 ≤ z ∧ z ≤ 6 := by
      rw [← hz]
      split <;> split <;> omega
    refine x_rg (by omega) (by omega) ?_
    refine for_own walk_range O1 (fun i σ G' L' => ∃ x1 : Option V, σ = [some (.ref a), x1] ∧ [] = L') ⟨none, rfl, rfl⟩ (fun _ _ _ _ _ _ _ _ => True.intro) ?_ ?_
    · rintro i x σ G' H' H2 L' hi s' O' ⟨x1, rfl, rfl⟩ ⟨rfl, rfl⟩
      have hi6 : i < 6 := by omega
      walk_at "s"
      rw [Int.zero_add]
      refine ⟨G', _, a, is, i, rfl, O', (s1.trans s').seq ha, hl, by omega, fun G3 H3 v s3 O3 => ?_⟩
      walk_at "s"
      refine ⟨G3, _, v, rfl, O3, fun H4 p bx O4 B4 => ?_⟩
      walk_at "s"
      refine ⟨G3, [], p, bx, rfl, O4, B4.le (by decide), fun G7 H7 b7 s7 O7 => ?_⟩
      walk_at "s"
      exact fvh (s'.trans (s3.trans s7)) O7.tail ⟨_, rfl, rfl⟩
    · rintro σ G' H' L' s' O' ⟨x1, rfl, rfl⟩
      walk_at "s"
      exact q H'
end
end M85
set_option maxHeartbeats 4000000
namespace M85
open PySem PySem.Spec PyProof.Rows L2 G
set_option linter.unusedVariables false
theorem all_mk {l : PySem.W.OpenLaw} {w : World} {K : PySem.W.Frag} {h : Heap} {mg : Str → Option Value} {fz fa C D CT CM CB CC CF CP f_1 f_2 f_3 f_4 f_5 f_6 f_7 f_8 f_9 f_10 f_11 f_12 f_13 f_14 f_15 f_16 f_17 f_18 f_19 f_20 f_21 f_22 f_23 f_24 f_25 f_26 f_27 f_28 f_29 f_30 fm1 fm2 fm3 fm4 fm5 fm6 fm7 fm8 fm9 fm10 fe1 fe2 fe3 fe4 fe5 fe6 : Addr} (X : K.In h) (G : h.Ns mainGlobals mg) (hfa : mg "law" = some (.ref fz))
    {od_1 an_1 od_2 an_2 od_3 an_3 od_4 an_4 od_5 an_5 od_6 an_6 od_7 an_7 od_8 an_8 od_9 an_9 od_10 an_10 od_11 an_11 od_12 an_12 od_13 an_13 od_14 an_14 od_15 an_15 od_16 an_16 od_17 an_17 od_18 an_18 od_19 an_19 od_20 an_20 od_21 an_21 od_22 an_22 od_23 an_23 od_24 an_24 od_25 an_25 od_26 an_26 od_27 an_27 od_28 an_28 od_29 an_29 od_30 an_30 odm1 anm1 odm2 anm2 odm3 anm3 odm4 anm4 odm5 anm5 odm6 anm6 odm7 anm7 odm8 anm8 odm9 anm9 odm10 anm10 ode1 ane1 ode2 ane2 ode3 ane3 ode4 ane4 ode5 ane5 ode6 ane6 odF : Option Addr} {sl_1 sl_2 sl_3 sl_4 sl_5 sl_6 sl_7 sl_8 sl_9 sl_10 sl_11 sl_12 sl_13 sl_14 sl_15 sl_16 sl_17 sl_18 sl_19 sl_20 sl_21 sl_22 sl_23 sl_24 sl_25 sl_26 sl_27 sl_28 sl_29 sl_30 slm1 slm2 slm3 slm4 slm5 slm6 slm7 slm8 slm9 slm10 sle1 sle2 sle3 sle4 sle5 sle6 slF : Array (Option Value)} {oc_1 kV_1 dc_1 pm_1 cd_1 ct_1 oc_2 kV_2 dc_2 pm_2 cd_2 ct_2 oc_3 kV_3 dc_3 pm_3 cd_3 ct_3 oc_4 kV_4 dc_4 pm_4 cd_4 ct_4 oc_5 kV_5 dc_5 pm_5 cd_5 ct_5 oc_6 kV_6 dc_6 pm_6 cd_6 ct_6 oc_7 kV_7 dc_7 pm_7 cd_7 ct_7 oc_8 kV_8 dc_8 pm_8 cd_8 ct_8 oc_9 kV_9 dc_9 pm_9 cd_9 ct_9 oc_10 kV_10 dc_10 pm_10 cd_10 ct_10 oc_11 kV_11 dc_11 pm_11 cd_11 ct_11 oc_12 kV_12 dc_12 pm_12 cd_12 ct_12 oc_13 kV_13 dc_13 pm_13 cd_13 ct_13 oc_14 kV_14 dc_14 pm_14 cd_14 ct_14 oc_15 kV_15 dc_15 pm_15 cd_15 ct_15 oc_16 kV_16 dc_16 pm_16 cd_16 ct_16 oc_17 kV_17 dc_17 pm_17 cd_17 ct_17 oc_18 kV_18 dc_18 pm_18 cd_18 ct_18 oc_19 kV_19 dc_19 pm_19 cd_19 ct_19 oc_20 kV_20 dc_20 pm_20 cd_20 ct_20 oc_21 kV_21 dc_21 pm_21 cd_21 ct_21 oc_22 kV_22 dc_22 pm_22 cd_22 ct_22 oc_23 kV_23 dc_23 pm_23 cd_23 ct_23 oc_24 kV_24 dc_24 pm_24 cd_24 ct_24 oc_25 kV_25 dc_25 pm_25 cd_25 ct_25 oc_26 kV_26 dc_26 pm_26 cd_26 ct_26 oc_27 kV_27 dc_27 pm_27 cd_27 ct_27 oc_28 kV_28 dc_28 pm_28 cd_28 ct_28 oc_29 kV_29 dc_29 pm_29 cd_29 ct_29 oc_30 kV_30 dc_30 pm_30 cd_30 ct_30 ocm1 kVm1 dcm1 pmm1 cdm1 ctm1 ocm2 kVm2 dcm2 pmm2 cdm2 ctm2 ocm3 kVm3 dcm3 pmm3 cdm3 ctm3 ocm4 kVm4 dcm4 pmm4 cdm4 ctm4 ocm5 kVm5 dcm5 pmm5 cdm5 ctm5 ocm6 kVm6 dcm6 pmm6 cdm6 ctm6 ocm7 kVm7 dcm7 pmm7 cdm7 ctm7 ocm8 kVm8 dcm8 pmm8 cdm8 ctm8 ocm9 kVm9 dcm9 pmm9 cdm9 ctm9 ocm10 kVm10 dcm10 pmm10 cdm10 ctm10 oce1 kVe1 dce1 pme1 cde1 cte1 oce2 kVe2 dce2 pme2 cde2 cte2 oce3 kVe3 dce3 pme3 cde3 cte3 oce4 kVe4 dce4 pme4 cde4 cte4 oce5 kVe5 dce5 pme5 cde5 cte5 oce6 kVe6 dce6 pme6 cde6 cte6 : Value} {tB tS tD tL e1 e2 e3 : Tok} {nF : Nat}
    {nme1 qe1 : Str} {Ne1 : Addr} {bse1 : List Value} {sne1 : List Str} {sube1 : List Value} {abe1 : Bool} {cole1 : Option Bool} {dde1 : Option Addr} {g0e1 g1e1 g2e1 g3e1 g5e1 : Option Value}
    {nme2 qe2 : Str} {Ne2 : Addr} {bse2 : List Value} {sne2 : List Str} {sube2 : List Value} {abe2 : Bool} {cole2 : Option Bool} {dde2 : Option Addr} {g0e2 g1e2 g2e2 g3e2 g5e2 : Option Value}
    {nme3 qe3 : Str} {Ne3 : Addr} {bse3 : List Value} {sne3 : List Str} {sube3 : List Value} {abe3 : Bool} {cole3 : Option Bool} {dde3 : Option Addr} {g0e3 g1e3 g2e3 g3e3 g5e3 : Option Value}
    {nme4 qe4 : Str} {Ne4 : Addr} {bse4 : List Value} {sne4 : List Str} {sube4 : List Value} {abe4 : Bool} {cole4 : Option Bool} {dde4 : Option Addr} {g0e4 g1e4 g2e4 g3e4 g5e4 : Option Value}
    {nme5 qe5 : Str} {Ne5 : Addr} {bse5 : List Value} {sne5 : List Str} {sube5 : List Value} {abe5 : Bool} {cole5 : Option Bool} {dde5 : Option Addr} {g0e5 g1e5 g2e5 g3e5 g5e5 : Option Value}
    {nme6 qe6 : Str} {Ne6 : Addr} {bse6 : List Value} {sne6 : List Str} {sube6 : List Value} {abe6 : Bool} {cole6 : Option Bool} {dde6 : Option Addr} {g0e6 g1e6 g2e6 g3e6 g5e6 : Option Value}
    (a_1 : PySem.W.nsIn K mainGlobals "is_integer" = some (some (.ref f_1))) (l_1 : K.lookup f_1 = some ⟨oc_1, od_1, .func (PySem.W.fnOf "is_integer" "is_integer" (defArgs s_is_integer) (defBody s_is_integer) (defScope s_is_integer) .none kV_1 dc_1 pm_1 an_1 cd_1 ct_1), sl_1⟩) (c_1 : PySem.W.codeIn K cd_1 "is_integer" = true) (k_1 : PySem.W.keepIn K (.ref f_1) = true)
    (a_2 : PySem.W.nsIn K mainGlobals "is_within" = some (some (.ref f_2))) (l_2 : K.lookup f_2 = some ⟨oc_2, od_2, .func (PySem.W.fnOf "is_within" "is_within" (defArgs s_is_within) (defBody s_is_within) (defScope s_is_within) .none kV_2 dc_2 pm_2 an_2 cd_2 ct_2), sl_2⟩) (c_2 : PySem.W.codeIn K cd_2 "is_within" = true) (k_2 : PySem.W.keepIn K (.ref f_2) = true)
    (a_3 : PySem.W.nsIn K mainGlobals "is_index" = some (some (.ref f_3))) (l_3 : K.lookup f_3 = some ⟨oc_3, od_3, .func (PySem.W.fnOf "is_index" "is_index" (defArgs s_is_index) (defBody s_is_index) (defScope s_is_index) .none kV_3 dc_3 pm_3 an_3 cd_3 ct_3), sl_3⟩) (c_3 : PySem.W.codeIn K cd_3 "is_index" = true) (k_3 : PySem.W.keepIn K (.ref f_3) = true)
    (a_4 : PySem.W.nsIn K mainGlobals "is_list" = some (some (.ref f_4))) (l_4 : K.lookup f_4 = some ⟨oc_4, od_4, .func (PySem.W.fnOf "is_list" "is_list" (defArgs s_is_list) (defBody s_is_list) (defScope s_is_list) .none kV_4 dc_4 pm_4 an_4 cd_4 ct_4), sl_4⟩) (c_4 : PySem.W.codeIn K cd_4 "is_list" = true) (k_4 : PySem.W.keepIn K (.ref f_4) = true)
    (a_5 : PySem.W.nsIn K mainGlobals "is_text" = some (some (.ref f_5))) (l_5 : K.lookup f_5 = some ⟨oc_5, od_5, .func (PySem.W.fnOf "is_text" "is_text" (defArgs s_is_text) (defBody s_is_text) (defScope s_is_text) .none kV_5 dc_5 pm_5 an_5 cd_5 ct_5), sl_5⟩) (c_5 : PySem.W.codeIn K cd_5 "is_text" = true) (k_5 : PySem.W.keepIn K (.ref f_5) = true)
    (a_6 : PySem.W.nsIn K mainGlobals "are_fates" = some (some (.ref f_6))) (l_6 : K.lookup f_6 = some ⟨oc_6, od_6, .func (PySem.W.fnOf "are_fates" "are_fates" (defArgs s_are_fates) (defBody s_are_fates) (defScope s_are_fates) .none kV_6 dc_6 pm_6 an_6 cd_6 ct_6), sl_6⟩) (c_6 : PySem.W.codeIn K cd_6 "are_fates" = true) (k_6 : PySem.W.keepIn K (.ref f_6) = true)
    (a_7 : PySem.W.nsIn K mainGlobals "_law_cell" = some (some (.ref f_7))) (l_7 : K.lookup f_7 = some ⟨oc_7, od_7, .func (PySem.W.fnOf "_law_cell" "_law_cell" (defArgs s__law_cell) (defBody s__law_cell) (defScope s__law_cell) .none kV_7 dc_7 pm_7 an_7 cd_7 ct_7), sl_7⟩) (c_7 : PySem.W.codeIn K cd_7 "_law_cell" = true) (k_7 : PySem.W.keepIn K (.ref f_7) = true)
    (a_8 : PySem.W.nsIn K mainGlobals "_law_box" = some (some (.ref f_8))) (l_8 : K.lookup f_8 = some ⟨oc_8, od_8, .func (PySem.W.fnOf "_law_box" "_law_box" (defArgs s__law_box) (defBody s__law_box) (defScope s__law_box) .none kV_8 dc_8 pm_8 an_8 cd_8 ct_8), sl_8⟩) (c_8 : PySem.W.codeIn K cd_8 "_law_box" = true) (k_8 : PySem.W.keepIn K (.ref f_8) = true)
    (a_9 : PySem.W.nsIn K mainGlobals "_law_take" = some (some (.ref f_9))) (l_9 : K.lookup f_9 = some ⟨oc_9, od_9, .func (PySem.W.fnOf "_law_take" "_law_take" (defArgs s__law_take) (defBody s__law_take) (defScope s__law_take) .none kV_9 dc_9 pm_9 an_9 cd_9 ct_9), sl_9⟩) (c_9 : PySem.W.codeIn K cd_9 "_law_take" = true) (k_9 : PySem.W.keepIn K (.ref f_9) = true)
    (a_10 : PySem.W.nsIn K mainGlobals "_law_text" = some (some (.ref f_10))) (l_10 : K.lookup f_10 = some ⟨oc_10, od_10, .func (PySem.W.fnOf "_law_text" "_law_text" (defArgs s__law_text) (defBody s__law_text) (defScope s__law_text) .none kV_10 dc_10 pm_10 an_10 cd_10 ct_10), sl_10⟩) (c_10 : PySem.W.codeIn K cd_10 "_law_text" = true) (k_10 : PySem.W.keepIn K (.ref f_10) = true)
    (a_11 : PySem.W.nsIn K mainGlobals "_law_state_right" = some (some (.ref f_11))) (l_11 : K.lookup f_11 = some ⟨oc_11, od_11, .func (PySem.W.fnOf "_law_state_right" "_law_state_right" (defArgs s__law_state_right) (defBody s__law_state_right) (defScope s__law_state_right) .none kV_11 dc_11 pm_11 an_11 cd_11 ct_11), sl_11⟩) (c_11 : PySem.W.codeIn K cd_11 "_law_state_right" = true) (k_11 : PySem.W.keepIn K (.ref f_11) = true)
    (a_12 : PySem.W.nsIn K mainGlobals "_law_write_told" = some (some (.ref f_12))) (l_12 : K.lookup f_12 = some ⟨oc_12, od_12, .func (PySem.W.fnOf "_law_write_told" "_law_write_told" (defArgs s__law_write_told) (defBody s__law_write_told) (defScope s__law_write_told) .none kV_12 dc_12 pm_12 an_12 cd_12 ct_12), sl_12⟩) (c_12 : PySem.W.codeIn K cd_12 "_law_write_told" = true) (k_12 : PySem.W.keepIn K (.ref f_12) = true)
    (a_13 : PySem.W.nsIn K mainGlobals "_law_sync_told" = some (some (.ref f_13))) (l_13 : K.lookup f_13 = some ⟨oc_13, od_13, .func (PySem.W.fnOf "_law_sync_told" "_law_sync_told" (defArgs s__law_sync_told) (defBody s__law_sync_told) (defScope s__law_sync_told) .none kV_13 dc_13 pm_13 an_13 cd_13 ct_13), sl_13⟩) (c_13 : PySem.W.codeIn K cd_13 "_law_sync_told" = true) (k_13 : PySem.W.keepIn K (.ref f_13) = true)
    (a_14 : PySem.W.nsIn K mainGlobals "_law_limit_told" = some (some (.ref f_14))) (l_14 : K.lookup f_14 = some ⟨oc_14, od_14, .func (PySem.W.fnOf "_law_limit_told" "_law_limit_told" (defArgs s__law_limit_told) (defBody s__law_limit_told) (defScope s__law_limit_told) .none kV_14 dc_14 pm_14 an_14 cd_14 ct_14), sl_14⟩) (c_14 : PySem.W.codeIn K cd_14 "_law_limit_told" = true) (k_14 : PySem.W.keepIn K (.ref f_14) = true)
    (a_15 : PySem.W.nsIn K mainGlobals "_law_remains_told" = some (some (.ref f_15))) (l_15 : K.lookup f_15 = some ⟨oc_15, od_15, .func (PySem.W.fnOf "_law_remains_told" "_law_remains_told" (defArgs s__law_remains_told) (defBody s__law_remains_told) (defScope s__law_remains_told) .none kV_15 dc_15 pm_15 an_15 cd_15 ct_15), sl_15⟩) (c_15 : PySem.W.codeIn K cd_15 "_law_remains_told" = true) (k_15 : PySem.W.keepIn K (.ref f_15) = true)
    (a_16 : PySem.W.nsIn K mainGlobals "_law_read_wrong" = some (some (.ref f_16))) (l_16 : K.lookup f_16 = some ⟨oc_16, od_16, .func (PySem.W.fnOf "_law_read_wrong" "_law_read_wrong" (defArgs s__law_read_wrong) (defBody s__law_read_wrong) (defScope s__law_read_wrong) .none kV_16 dc_16 pm_16 an_16 cd_16 ct_16), sl_16⟩) (c_16 : PySem.W.codeIn K cd_16 "_law_read_wrong" = true) (k_16 : PySem.W.keepIn K (.ref f_16) = true)
    (a_17 : PySem.W.nsIn K mainGlobals "_law_uses" = some (some (.ref f_17))) (l_17 : K.lookup f_17 = some ⟨oc_17, od_17, .func (PySem.W.fnOf "_law_uses" "_law_uses" (defArgs s__law_uses) (defBody s__law_uses) (defScope s__law_uses) .none kV_17 dc_17 pm_17 an_17 cd_17 ct_17), sl_17⟩) (c_17 : PySem.W.codeIn K cd_17 "_law_uses" = true) (k_17 : PySem.W.keepIn K (.ref f_17) = true)
    (a_18 : PySem.W.nsIn K mainGlobals "_law_write_right" = some (some (.ref f_18))) (l_18 : K.lookup f_18 = some ⟨oc_18, od_18, .func (PySem.W.fnOf "_law_write_right" "_law_write_right" (defArgs s__law_write_right) (defBody s__law_write_right) (defScope s__law_write_right) .none kV_18 dc_18 pm_18 an_18 cd_18 ct_18), sl_18⟩) (c_18 : PySem.W.codeIn K cd_18 "_law_write_right" = true) (k_18 : PySem.W.keepIn K (.ref f_18) = true)
    (a_19 : PySem.W.nsIn K mainGlobals "_law_sync_right" = some (some (.ref f_19))) (l_19 : K.lookup f_19 = some ⟨oc_19, od_19, .func (PySem.W.fnOf "_law_sync_right" "_law_sync_right" (defArgs s__law_sync_right) (defBody s__law_sync_right) (defScope s__law_sync_right) .none kV_19 dc_19 pm_19 an_19 cd_19 ct_19), sl_19⟩) (c_19 : PySem.W.codeIn K cd_19 "_law_sync_right" = true) (k_19 : PySem.W.keepIn K (.ref f_19) = true)
    (a_20 : PySem.W.nsIn K mainGlobals "_law_limit_right" = some (some (.ref f_20))) (l_20 : K.lookup f_20 = some ⟨oc_20, od_20, .func (PySem.W.fnOf "_law_limit_right" "_law_limit_right" (defArgs s__law_limit_right) (defBody s__law_limit_right) (defScope s__law_limit_right) .none kV_20 dc_20 pm_20 an_20 cd_20 ct_20), sl_20⟩) (c_20 : PySem.W.codeIn K cd_20 "_law_limit_right" = true) (k_20 : PySem.W.keepIn K (.ref f_20) = true)
    (a_21 : PySem.W.nsIn K mainGlobals "_law_wrong_right" = some (some (.ref f_21))) (l_21 : K.lookup f_21 = some ⟨oc_21, od_21, .func (PySem.W.fnOf "_law_wrong_right" "_law_wrong_right" (defArgs s__law_wrong_right) (defBody s__law_wrong_right) (defScope s__law_wrong_right) .none kV_21 dc_21 pm_21 an_21 cd_21 ct_21), sl_21⟩) (c_21 : PySem.W.codeIn K cd_21 "_law_wrong_right" = true) (k_21 : PySem.W.keepIn K (.ref f_21) = true)
    (a_22 : PySem.W.nsIn K mainGlobals "_law_remained" = some (some (.ref f_22))) (l_22 : K.lookup f_22 = some ⟨oc_22, od_22, .func (PySem.W.fnOf "_law_remained" "_law_remained" (defArgs s__law_remained) (defBody s__law_remained) (defScope s__law_remained) .none kV_22 dc_22 pm_22 an_22 cd_22 ct_22), sl_22⟩) (c_22 : PySem.W.codeIn K cd_22 "_law_remained" = true) (k_22 : PySem.W.keepIn K (.ref f_22) = true)
    (a_23 : PySem.W.nsIn K mainGlobals "_law_spoilt_fates" = some (some (.ref f_23))) (l_23 : K.lookup f_23 = some ⟨oc_23, od_23, .func (PySem.W.fnOf "_law_spoilt_fates" "_law_spoilt_fates" (defArgs s__law_spoilt_fates) (defBody s__law_spoilt_fates) (defScope s__law_spoilt_fates) .none kV_23 dc_23 pm_23 an_23 cd_23 ct_23), sl_23⟩) (c_23 : PySem.W.codeIn K cd_23 "_law_spoilt_fates" = true) (k_23 : PySem.W.keepIn K (.ref f_23) = true)
    (a_24 : PySem.W.nsIn K mainGlobals "_law_fates_due" = some (some (.ref f_24))) (l_24 : K.lookup f_24 = some ⟨oc_24, od_24, .func (PySem.W.fnOf "_law_fates_due" "_law_fates_due" (defArgs s__law_fates_due) (defBody s__law_fates_due) (defScope s__law_fates_due) .none kV_24 dc_24 pm_24 an_24 cd_24 ct_24), sl_24⟩) (c_24 : PySem.W.codeIn K cd_24 "_law_fates_due" = true) (k_24 : PySem.W.keepIn K (.ref f_24) = true)
    (a_25 : PySem.W.nsIn K mainGlobals "_law_remains_right" = some (some (.ref f_25))) (l_25 : K.lookup f_25 = some ⟨oc_25, od_25, .func (PySem.W.fnOf "_law_remains_right" "_law_remains_right" (defArgs s__law_remains_right) (defBody s__law_remains_right) (defScope s__law_remains_right) .none kV_25 dc_25 pm_25 an_25 cd_25 ct_25), sl_25⟩) (c_25 : PySem.W.codeIn K cd_25 "_law_remains_right" = true) (k_25 : PySem.W.keepIn K (.ref f_25) = true)
    (a_26 : PySem.W.nsIn K mainGlobals "_law_deed_right" = some (some (.ref f_26))) (l_26 : K.lookup f_26 = some ⟨oc_26, od_26, .func (PySem.W.fnOf "_law_deed_right" "_law_deed_right" (defArgs s__law_deed_right) (defBody s__law_deed_right) (defScope s__law_deed_right) .none kV_26 dc_26 pm_26 an_26 cd_26 ct_26), sl_26⟩) (c_26 : PySem.W.codeIn K cd_26 "_law_deed_right" = true) (k_26 : PySem.W.keepIn K (.ref f_26) = true)
    (a_27 : PySem.W.nsIn K mainGlobals "_law_life_right" = some (some (.ref f_27))) (l_27 : K.lookup f_27 = some ⟨oc_27, od_27, .func (PySem.W.fnOf "_law_life_right" "_law_life_right" (defArgs s__law_life_right) (defBody s__law_life_right) (defScope s__law_life_right) .none kV_27 dc_27 pm_27 an_27 cd_27 ct_27), sl_27⟩) (c_27 : PySem.W.codeIn K cd_27 "_law_life_right" = true) (k_27 : PySem.W.keepIn K (.ref f_27) = true)
    (a_28 : PySem.W.nsIn K mainGlobals "_law_cell_right" = some (some (.ref f_28))) (l_28 : K.lookup f_28 = some ⟨oc_28, od_28, .func (PySem.W.fnOf "_law_cell_right" "_law_cell_right" (defArgs s__law_cell_right) (defBody s__law_cell_right) (defScope s__law_cell_right) .none kV_28 dc_28 pm_28 an_28 cd_28 ct_28), sl_28⟩) (c_28 : PySem.W.codeIn K cd_28 "_law_cell_right" = true) (k_28 : PySem.W.keepIn K (.ref f_28) = true)
    (a_29 : PySem.W.nsIn K mainGlobals "_law_long_right" = some (some (.ref f_29))) (l_29 : K.lookup f_29 = some ⟨oc_29, od_29, .func (PySem.W.fnOf "_law_long_right" "_law_long_right" (defArgs s__law_long_right) (defBody s__law_long_right) (defScope s__law_long_right) .none kV_29 dc_29 pm_29 an_29 cd_29 ct_29), sl_29⟩) (c_29 : PySem.W.codeIn K cd_29 "_law_long_right" = true) (k_29 : PySem.W.keepIn K (.ref f_29) = true)
    (a_30 : PySem.W.nsIn K mainGlobals "law" = some (some (.ref f_30))) (l_30 : K.lookup f_30 = some ⟨oc_30, od_30, .func (PySem.W.fnOf "law" "law" (defArgs s_law) (defBody s_law) (defScope s_law) .none kV_30 dc_30 pm_30 an_30 cd_30 ct_30), sl_30⟩) (c_30 : PySem.W.codeIn K cd_30 "law" = true) (k_30 : PySem.W.keepIn K (.ref f_30) = true)
    (am1 : PySem.W.findIn K (.ref C) "check_alive" = some (some (.ref fm1))) (lm1 : K.lookup fm1 = some ⟨ocm1, odm1, .func (PySem.W.fnOf "check_alive" "Disk.check_alive" (defArgs s_Disk_check_alive) (defBody s_Disk_check_alive) (defScope s_Disk_check_alive) .none kVm1 dcm1 pmm1 anm1 cdm1 ctm1), slm1⟩) (cm1 : PySem.W.codeIn K cdm1 "Disk.check_alive" = true) (km1 : PySem.W.keepIn K (.ref fm1) = true)
    (im1 : PySem.W.isFn K (.ref fm1) = true)
    (am2 : PySem.W.findIn K (.ref C) "check_block" = some (some (.ref fm2))) (lm2 : K.lookup fm2 = some ⟨ocm2, odm2, .func (PySem.W.fnOf "check_block" "Disk.check_block" (defArgs s_Disk_check_block) (defBody s_Disk_check_block) (defScope s_Disk_check_block) .none kVm2 dcm2 pmm2 anm2 cdm2 ctm2), slm2⟩) (cm2 : PySem.W.codeIn K cdm2 "Disk.check_block" = true) (km2 : PySem.W.keepIn K (.ref fm2) = true)
    (im2 : PySem.W.isFn K (.ref fm2) = true)
    (am3 : PySem.W.findIn K (.ref C) "spend" = some (some (.ref fm3))) (lm3 : K.lookup fm3 = some ⟨ocm3, odm3, .func (PySem.W.fnOf "spend" "Disk.spend" (defArgs s_Disk_spend) (defBody s_Disk_spend) (defScope s_Disk_spend) .none kVm3 dcm3 pmm3 anm3 cdm3 ctm3), slm3⟩) (cm3 : PySem.W.codeIn K cdm3 "Disk.spend" = true) (km3 : PySem.W.keepIn K (.ref fm3) = true)
    (im3 : PySem.W.isFn K (.ref fm3) = true)
    (am4 : PySem.W.findIn K (.ref C) "read" = some (some (.ref fm4))) (lm4 : K.lookup fm4 = some ⟨ocm4, odm4, .func (PySem.W.fnOf "read" "Disk.read" (defArgs s_Disk_read) (defBody s_Disk_read) (defScope s_Disk_read) .none kVm4 dcm4 pmm4 anm4 cdm4 ctm4), slm4⟩) (cm4 : PySem.W.codeIn K cdm4 "Disk.read" = true) (km4 : PySem.W.keepIn K (.ref fm4) = true)
    (im4 : PySem.W.isFn K (.ref fm4) = true)
    (am5 : PySem.W.findIn K (.ref C) "pending" = some (some (.ref fm5))) (lm5 : K.lookup fm5 = some ⟨ocm5, odm5, .func (PySem.W.fnOf "pending" "Disk.pending" (defArgs s_Disk_pending) (defBody s_Disk_pending) (defScope s_Disk_pending) .none kVm5 dcm5 pmm5 anm5 cdm5 ctm5), slm5⟩) (cm5 : PySem.W.codeIn K cdm5 "Disk.pending" = true) (km5 : PySem.W.keepIn K (.ref fm5) = true)
    (im5 : PySem.W.isFn K (.ref fm5) = true)
    (am6 : PySem.W.findIn K (.ref C) "write" = some (some (.ref fm6))) (lm6 : K.lookup fm6 = some ⟨ocm6, odm6, .func (PySem.W.fnOf "write" "Disk.write" (defArgs s_Disk_write) (defBody s_Disk_write) (defScope s_Disk_write) .none kVm6 dcm6 pmm6 anm6 cdm6 ctm6), slm6⟩) (cm6 : PySem.W.codeIn K cdm6 "Disk.write" = true) (km6 : PySem.W.keepIn K (.ref fm6) = true)
    (im6 : PySem.W.isFn K (.ref fm6) = true)
    (am7 : PySem.W.findIn K (.ref C) "sync" = some (some (.ref fm7))) (lm7 : K.lookup fm7 = some ⟨ocm7, odm7, .func (PySem.W.fnOf "sync" "Disk.sync" (defArgs s_Disk_sync) (defBody s_Disk_sync) (defScope s_Disk_sync) .none kVm7 dcm7 pmm7 anm7 cdm7 ctm7), slm7⟩) (cm7 : PySem.W.codeIn K cdm7 "Disk.sync" = true) (km7 : PySem.W.keepIn K (.ref fm7) = true)
    (im7 : PySem.W.isFn K (.ref fm7) = true)
    (am8 : PySem.W.findIn K (.ref C) "limit" = some (some (.ref fm8))) (lm8 : K.lookup fm8 = some ⟨ocm8, odm8, .func (PySem.W.fnOf "limit" "Disk.limit" (defArgs s_Disk_limit) (defBody s_Disk_limit) (defScope s_Disk_limit) .none kVm8 dcm8 pmm8 anm8 cdm8 ctm8), slm8⟩) (cm8 : PySem.W.codeIn K cdm8 "Disk.limit" = true) (km8 : PySem.W.keepIn K (.ref fm8) = true)
    (im8 : PySem.W.isFn K (.ref fm8) = true)
    (am9 : PySem.W.findIn K (.ref C) "__init__" = some (some (.ref fm9))) (lm9 : K.lookup fm9 = some ⟨ocm9, odm9, .func (PySem.W.fnOf "__init__" "Disk.__init__" (defArgs s_Disk___init__) (defBody s_Disk___init__) (defScope s_Disk___init__) .none kVm9 dcm9 pmm9 anm9 cdm9 ctm9), slm9⟩) (cm9 : PySem.W.codeIn K cdm9 "Disk.__init__" = true) (km9 : PySem.W.keepIn K (.ref fm9) = true)
    (im9 : PySem.W.isFn K (.ref fm9) = true)
    (am10 : PySem.W.findIn K (.ref C) "remains" = some (some (.ref fm10))) (lm10 : K.lookup fm10 = some ⟨ocm10, odm10, .func (PySem.W.fnOf "remains" "Disk.remains" (defArgs s_Disk_remains) (defBody s_Disk_remains) (defScope s_Disk_remains) .none kVm10 dcm10 pmm10 anm10 cdm10 ctm10), slm10⟩) (cm10 : PySem.W.codeIn K cdm10 "Disk.remains" = true) (km10 : PySem.W.keepIn K (.ref fm10) = true)
    (im10 : PySem.W.isFn K (.ref fm10) = true)
    (ae1 : PySem.W.findIn K (.ref CT) "__init__" = some (some (.ref fe1))) (le1 : K.lookup fe1 = some ⟨oce1, ode1, .func (PySem.W.fnOf "__init__" "InvalidText.__init__" (defArgs s_InvalidText___init__) (defBody s_InvalidText___init__) (defScope s_InvalidText___init__) .none kVe1 dce1 pme1 ane1 cde1 cte1), sle1⟩) (ce1 : PySem.W.codeIn K cde1 "InvalidText.__init__" = true) (ke1 : PySem.W.keepIn K (.ref fe1) = true)
    (te1 : PySem.W.typeIn K (.ref fe1) = some (.type "function"))
    (ne1 : PySem.W.nsIn K mainGlobals "InvalidText" = some (some (.ref CT)))
    (xe1 : K.lookup CT = some (excClassObj nme1 qe1 CT Ne1 bse1 [.ref D, .type "ValueError", .type "Exception", .type "BaseException", .type "object"] true sne1 sube1 abe1 cole1 dde1 g0e1 g1e1 g2e1 g3e1 g5e1 "ValueError.__new__"))
    (se1 : PySem.W.findIn K (.ref CT) "__setattr__" = some (some (.builtin "object.__setattr__")))
    (pe1 : PySem.W.subIn K (.ref CT) (.type "BaseException") = some true)
    (ye1 : PySem.W.typeIn K (.ref CT) = some (.type "type"))
    (he1 : PySem.W.keepIn K (.ref CT) = true)
    (gae1 : PySem.W.findIn K (.ref CT) "__getattribute__" = some (some (.builtin "BaseException.__getattribute__")))
    (gge1 : PySem.W.findIn K (.ref CT) "__getattr__" = some none)
    (hde1 : PySem.W.hasDictIn K CT = true)
    (nge1 : PySem.W.findIn K (.ref CT) "given" = some none)
    (cle1 : (PySem.W.clsIn K CT).isSome = true)
    (cae1 : PySem.W.findIn K (.ref CT) "__class__" = some (some (.builtin "object.__class__")))
    (moe1 : PySem.W.mroIn K CT (.type "object") = some true)
    (sse1 : PySem.W.subIn K (.ref CT) (.ref CT) = some true)
    (kfe1 : PySem.W.kitOne K (.ref CT) (.ref D) = some true)
    (ae2 : PySem.W.findIn K (.ref CM) "__init__" = some (some (.ref fe2))) (le2 : K.lookup fe2 = some ⟨oce2, ode2, .func (PySem.W.fnOf "__init__" "InvalidMany.__init__" (defArgs s_InvalidMany___init__) (defBody s_InvalidMany___init__) (defScope s_InvalidMany___init__) .none kVe2 dce2 pme2 ane2 cde2 cte2), sle2⟩) (ce2 : PySem.W.codeIn K cde2 "InvalidMany.__init__" = true) (ke2 : PySem.W.keepIn K (.ref fe2) = true)
    (te2 : PySem.W.typeIn K (.ref fe2) = some (.type "function"))
    (ne2 : PySem.W.nsIn K mainGlobals "InvalidMany" = some (some (.ref CM)))
    (xe2 : K.lookup CM = some (excClassObj nme2 qe2 CM Ne2 bse2 [.ref D, .type "ValueError", .type "Exception", .type "BaseException", .type "object"] true sne2 sube2 abe2 cole2 dde2 g0e2 g1e2 g2e2 g3e2 g5e2 "ValueError.__new__"))
    (se2 : PySem.W.findIn K (.ref CM) "__setattr__" = some (some (.builtin "object.__setattr__")))
    (pe2 : PySem.W.subIn K (.ref CM) (.type "BaseException") = some true)
    (ye2 : PySem.W.typeIn K (.ref CM) = some (.type "type"))
    (he2 : PySem.W.keepIn K (.ref CM) = true)
    (gae2 : PySem.W.findIn K (.ref CM) "__getattribute__" = some (some (.builtin "BaseException.__getattribute__")))
    (gge2 : PySem.W.findIn K (.ref CM) "__getattr__" = some none)
    (hde2 : PySem.W.hasDictIn K CM = true)
    (nge2 : PySem.W.findIn K (.ref CM) "given" = some none)
    (cle2 : (PySem.W.clsIn K CM).isSome = true)
    (cae2 : PySem.W.findIn K (.ref CM) "__class__" = some (some (.builtin "object.__class__")))
    (moe2 : PySem.W.mroIn K CM (.type "object") = some true)
    (sse2 : PySem.W.subIn K (.ref CM) (.ref CM) = some true)
    (kfe2 : PySem.W.kitOne K (.ref CM) (.ref D) = some true)
    (ae3 : PySem.W.findIn K (.ref CB) "__init__" = some (some (.ref fe3))) (le3 : K.lookup fe3 = some ⟨oce3, ode3, .func (PySem.W.fnOf "__init__" "InvalidBlock.__init__" (defArgs s_InvalidBlock___init__) (defBody s_InvalidBlock___init__) (defScope s_InvalidBlock___init__) .none kVe3 dce3 pme3 ane3 cde3 cte3), sle3⟩) (ce3 : PySem.W.codeIn K cde3 "InvalidBlock.__init__" = true) (ke3 : PySem.W.keepIn K (.ref fe3) = true)
    (te3 : PySem.W.typeIn K (.ref fe3) = some (.type "function"))
    (ne3 : PySem.W.nsIn K mainGlobals "InvalidBlock" = some (some (.ref CB)))
    (xe3 : K.lookup CB = some (excClassObj nme3 qe3 CB Ne3 bse3 [.ref D, .type "ValueError", .type "Exception", .type "BaseException", .type "object"] true sne3 sube3 abe3 cole3 dde3 g0e3 g1e3 g2e3 g3e3 g5e3 "ValueError.__new__"))
    (se3 : PySem.W.findIn K (.ref CB) "__setattr__" = some (some (.builtin "object.__setattr__")))
    (pe3 : PySem.W.subIn K (.ref CB) (.type "BaseException") = some true)
    (ye3 : PySem.W.typeIn K (.ref CB) = some (.type "type"))
    (he3 : PySem.W.keepIn K (.ref CB) = true)
    (gae3 : PySem.W.findIn K (.ref CB) "__getattribute__" = some (some (.builtin "BaseException.__getattribute__")))
    (gge3 : PySem.W.findIn K (.ref CB) "__getattr__" = some none)
    (hde3 : PySem.W.hasDictIn K CB = true)
    (nge3 : PySem.W.findIn K (.ref CB) "given" = some none)
    (cle3 : (PySem.W.clsIn K CB).isSome = true)
    (cae3 : PySem.W.findIn K (.ref CB) "__class__" = some (some (.builtin "object.__class__")))
    (moe3 : PySem.W.mroIn K CB (.type "object") = some true)
    (sse3 : PySem.W.subIn K (.ref CB) (.ref CB) = some true)
    (kfe3 : PySem.W.kitOne K (.ref CB) (.ref D) = some true)
    (ae4 : PySem.W.findIn K (.ref CC) "__init__" = some (some (.ref fe4))) (le4 : K.lookup fe4 = some ⟨oce4, ode4, .func (PySem.W.fnOf "__init__" "InvalidCount.__init__" (defArgs s_InvalidCount___init__) (defBody s_InvalidCount___init__) (defScope s_InvalidCount___init__) .none kVe4 dce4 pme4 ane4 cde4 cte4), sle4⟩) (ce4 : PySem.W.codeIn K cde4 "InvalidCount.__init__" = true) (ke4 : PySem.W.keepIn K (.ref fe4) = true)
    (te4 : PySem.W.typeIn K (.ref fe4) = some (.type "function"))
    (ne4 : PySem.W.nsIn K mainGlobals "InvalidCount" = some (some (.ref CC)))
    (xe4 : K.lookup CC = some (excClassObj nme4 qe4 CC Ne4 bse4 [.ref D, .type "ValueError", .type "Exception", .type "BaseException", .type "object"] true sne4 sube4 abe4 cole4 dde4 g0e4 g1e4 g2e4 g3e4 g5e4 "ValueError.__new__"))
    (se4 : PySem.W.findIn K (.ref CC) "__setattr__" = some (some (.builtin "object.__setattr__")))
    (pe4 : PySem.W.subIn K (.ref CC) (.type "BaseException") = some true)
    (ye4 : PySem.W.typeIn K (.ref CC) = some (.type "type"))
    (he4 : PySem.W.keepIn K (.ref CC) = true)
    (gae4 : PySem.W.findIn K (.ref CC) "__getattribute__" = some (some (.builtin "BaseException.__getattribute__")))
    (gge4 : PySem.W.findIn K (.ref CC) "__getattr__" = some none)
    (hde4 : PySem.W.hasDictIn K CC = true)
    (nge4 : PySem.W.findIn K (.ref CC) "given" = some none)
    (cle4 : (PySem.W.clsIn K CC).isSome = true)
    (cae4 : PySem.W.findIn K (.ref CC) "__class__" = some (some (.builtin "object.__class__")))
    (moe4 : PySem.W.mroIn K CC (.type "object") = some true)
    (sse4 : PySem.W.subIn K (.ref CC) (.ref CC) = some true)
    (kfe4 : PySem.W.kitOne K (.ref CC) (.ref D) = some true)
    (ae5 : PySem.W.findIn K (.ref CF) "__init__" = some (some (.ref fe5))) (le5 : K.lookup fe5 = some ⟨oce5, ode5, .func (PySem.W.fnOf "__init__" "InvalidFates.__init__" (defArgs s_InvalidFates___init__) (defBody s_InvalidFates___init__) (defScope s_InvalidFates___init__) .none kVe5 dce5 pme5 ane5 cde5 cte5), sle5⟩) (ce5 : PySem.W.codeIn K cde5 "InvalidFates.__init__" = true) (ke5 : PySem.W.keepIn K (.ref fe5) = true)
    (te5 : PySem.W.typeIn K (.ref fe5) = some (.type "function"))
    (ne5 : PySem.W.nsIn K mainGlobals "InvalidFates" = some (some (.ref CF)))
    (xe5 : K.lookup CF = some (excClassObj nme5 qe5 CF Ne5 bse5 [.ref D, .type "ValueError", .type "Exception", .type "BaseException", .type "object"] true sne5 sube5 abe5 cole5 dde5 g0e5 g1e5 g2e5 g3e5 g5e5 "ValueError.__new__"))
    (se5 : PySem.W.findIn K (.ref CF) "__setattr__" = some (some (.builtin "object.__setattr__")))
    (pe5 : PySem.W.subIn K (.ref CF) (.type "BaseException") = some true)
    (ye5 : PySem.W.typeIn K (.ref CF) = some (.type "type"))
    (he5 : PySem.W.keepIn K (.ref CF) = true)
    (gae5 : PySem.W.findIn K (.ref CF) "__getattribute__" = some (some (.builtin "BaseException.__getattribute__")))
    (gge5 : PySem.W.findIn K (.ref CF) "__getattr__" = some none)
    (hde5 : PySem.W.hasDictIn K CF = true)
    (nge5 : PySem.W.findIn K (.ref CF) "given" = some none)
    (cle5 : (PySem.W.clsIn K CF).isSome = true)
    (cae5 : PySem.W.findIn K (.ref CF) "__class__" = some (some (.builtin "object.__class__")))
    (moe5 : PySem.W.mroIn K CF (.type "object") = some true)
    (sse5 : PySem.W.subIn K (.ref CF) (.ref CF) = some true)
    (kfe5 : PySem.W.kitOne K (.ref CF) (.ref D) = some true)
    (ae6 : PySem.W.findIn K (.ref CP) "__init__" = some (some (.ref fe6))) (le6 : K.lookup fe6 = some ⟨oce6, ode6, .func (PySem.W.fnOf "__init__" "PowerCut.__init__" (defArgs s_PowerCut___init__) (defBody s_PowerCut___init__) (defScope s_PowerCut___init__) .none kVe6 dce6 pme6 ane6 cde6 cte6), sle6⟩) (ce6 : PySem.W.codeIn K cde6 "PowerCut.__init__" = true) (ke6 : PySem.W.keepIn K (.ref fe6) = true)
    (te6 : PySem.W.typeIn K (.ref fe6) = some (.type "function"))
    (ne6 : PySem.W.nsIn K mainGlobals "PowerCut" = some (some (.ref CP)))
    (xe6 : K.lookup CP = some (excClassObj nme6 qe6 CP Ne6 bse6 [.ref D, .type "ValueError", .type "Exception", .type "BaseException", .type "object"] true sne6 sube6 abe6 cole6 dde6 g0e6 g1e6 g2e6 g3e6 g5e6 "ValueError.__new__"))
    (se6 : PySem.W.findIn K (.ref CP) "__setattr__" = some (some (.builtin "object.__setattr__")))
    (pe6 : PySem.W.subIn K (.ref CP) (.type "BaseException") = some true)
    (ye6 : PySem.W.typeIn K (.ref CP) = some (.type "type"))
    (he6 : PySem.W.keepIn K (.ref CP) = true)
    (gae6 : PySem.W.findIn K (.ref CP) "__getattribute__" = some (some (.builtin "BaseException.__getattribute__")))
    (gge6 : PySem.W.findIn K (.ref CP) "__getattr__" = some none)
    (hde6 : PySem.W.hasDictIn K CP = true)
    (nge6 : PySem.W.findIn K (.ref CP) "given" = some none)
    (cle6 : (PySem.W.clsIn K CP).isSome = true)
    (cae6 : PySem.W.findIn K (.ref CP) "__class__" = some (some (.builtin "object.__class__")))
    (moe6 : PySem.W.mroIn K CP (.type "object") = some true)
    (sse6 : PySem.W.subIn K (.ref CP) (.ref CP) = some true)
    (kfe6 : PySem.W.kitOne K (.ref CP) (.ref D) = some true)
    (z_len : PySem.W.nsIn K mainGlobals "len" = some none)
    (z_range : PySem.W.nsIn K mainGlobals "range" = some none)
    (z_abs : PySem.W.nsIn K mainGlobals "abs" = some none)
    (z_int : PySem.W.nsIn K mainGlobals "int" = some none)
    (z_str : PySem.W.nsIn K mainGlobals "str" = some none)
    (z_bool : PySem.W.nsIn K mainGlobals "bool" = some none)
    (z_list : PySem.W.nsIn K mainGlobals "list" = some none)
    (z_tuple : PySem.W.nsIn K mainGlobals "tuple" = some none)
    (z_dict : PySem.W.nsIn K mainGlobals "dict" = some none)
    (z_sum : PySem.W.nsIn K mainGlobals "sum" = some none)
    (z_all : PySem.W.nsIn K mainGlobals "all" = some none)
    (z_any : PySem.W.nsIn K mainGlobals "any" = some none)
    (z_max : PySem.W.nsIn K mainGlobals "max" = some none)
    (z_min : PySem.W.nsIn K mainGlobals "min" = some none)
    (z_sorted : PySem.W.nsIn K mainGlobals "sorted" = some none)
    (z_repr : PySem.W.nsIn K mainGlobals "repr" = some none)
    (z_isinstance : PySem.W.nsIn K mainGlobals "isinstance" = some none)
    (z_enumerate : PySem.W.nsIn K mainGlobals "enumerate" = some none)
    (z_zip : PySem.W.nsIn K mainGlobals "zip" = some none)
    (aC : PySem.W.nsIn K mainGlobals "Disk" = some (some (.ref C)))
    (aD : PySem.W.nsIn K mainGlobals "ForgetError" = some (some (.ref D)))
    (pg : PySem.W.plainGet K C Str.empty = true)
    (hdC : PySem.W.hasDictIn K C = true)
    (po : PySem.W.plainOver K C = true)
    (saC : PySem.W.findIn K (.ref C) "__setattr__" = some (some (.builtin "object.__setattr__")))
    (mkC : PySem.W.makesIn K C = true)
    (kpC : PySem.W.keepIn K (.ref C) = true)
    (caC : PySem.W.findIn K (.ref C) "__class__" = some (some (.builtin "object.__class__")))
    (spg : PySem.W.specialIn K (.builtin "object.__class__") "__get__" = some (some (.builtin "getset_descriptor.__get__")))
    (tak : PySem.W.takesIn K (.builtin "object.__class__") = some true)
    (moC : PySem.W.mroIn K C (.type "object") = some true)
    (kC : PySem.W.kitOne K (.ref C) (.ref C) = some true)
    (rdD : PySem.W.readsIn K D (.type "type") = true)
    (gaD : PySem.W.specialIn K (.ref D) "__getattribute__" = some (some (.builtin "type.__getattribute__")))
    (inD : PySem.W.findCls K (.ref D) (.type "type") "__init__" = some (.val (.builtin "ValueError.__init__")))
    (sTB : PySem.W.subIn K (.ref CT) (.ref CB) = some false)
    (sPB : PySem.W.subIn K (.ref CP) (.ref CB) = some false)
    (sPT : PySem.W.subIn K (.ref CP) (.ref CT) = some false)
    (sPC : PySem.W.subIn K (.ref CP) (.ref CC) = some false)
    (pB : PySem.W.nsIn K mainGlobals "MOST_BLOCKS" = some (some (.int 8 tB)))
    (pS : PySem.W.nsIn K mainGlobals "MOST_SIGNS" = some (some (.int 4000 tS)))
    (pDo : PySem.W.nsIn K mainGlobals "DONE" = some (some (.str "done" tD)))
    (pL : PySem.W.nsIn K mainGlobals "LOST" = some (some (.str "lost" tL)))
    (pF : PySem.W.nsIn K mainGlobals "FATES" = some (some (.ref fa)))
    (uF : K.lookup fa = some ⟨.type "tuple", odF, .seq #[.str "done" e1, .str "lost" e2, .str "torn" e3] nF, slF⟩)
    (no_many : PySem.W.findIn K (.ref C) "many" = some none)
    (no_synced : PySem.W.findIn K (.ref C) "synced" = some none)
    (no_texts : PySem.W.findIn K (.ref C) "texts" = some none)
    (no_writes : PySem.W.findIn K (.ref C) "writes" = some none)
    (no_left : PySem.W.findIn K (.ref C) "left" = some none)
    (no_dead : PySem.W.findIn K (.ref C) "dead" = some none)
    : ∃ fd : FuncData, (∀ (s : Shared) (v : Value), BindsTo s fd ⟨[v], []⟩ [("script", v)]) ∧ ∀ base : Heap, K.In base → base.Ns mainGlobals mg → FnG l.prog w K mg base 11 fz fd ["script"] (sp_law K) := by
  have e := hfa.symm.trans (PySem.W.mg_of X G a_30)
  cases e
  have B : Bt mg := ⟨PySem.W.mg_none_of X G z_len, PySem.W.mg_none_of X G z_range, PySem.W.mg_none_of X G z_abs, PySem.W.mg_none_of X G z_int, PySem.W.mg_none_of X G z_str, PySem.W.mg_none_of X G z_bool, PySem.W.mg_none_of X G z_list, PySem.W.mg_none_of X G z_tuple, PySem.W.mg_none_of X G z_dict, PySem.W.mg_none_of X G z_sum, PySem.W.mg_none_of X G z_all, PySem.W.mg_none_of X G z_any, PySem.W.mg_none_of X G z_max, PySem.W.mg_none_of X G z_min, PySem.W.mg_none_of X G z_sorted, PySem.W.mg_none_of X G z_repr, PySem.W.mg_none_of X G z_isinstance, PySem.W.mg_none_of X G z_enumerate, PySem.W.mg_none_of X G z_zip⟩
  have T : Tc K mg fa C D := ⟨⟨_, PySem.W.mg_of X G pB, ⟨_, rfl⟩⟩, ⟨_, PySem.W.mg_of X G pS, ⟨_, rfl⟩⟩, ⟨_, PySem.W.mg_of X G pDo, ⟨_, rfl⟩⟩, ⟨_, PySem.W.mg_of X G pL, ⟨_, rfl⟩⟩, ⟨_, PySem.W.mg_of X G pF, rfl⟩, ⟨_, PySem.W.mg_of X G aC, rfl⟩, ⟨_, PySem.W.mg_of X G aD, rfl⟩,
    fun _ => .inr ⟨_, _, _, uF, rfl, rfl, (show 3 ≤ sizeLine by decide), .cons ⟨_, rfl⟩ (.cons ⟨_, rfl⟩ (.cons ⟨_, rfl⟩ .nil))⟩⟩
  have Z : Dc K C := ⟨⟨pg, hdC, po, saC⟩, no_many, no_synced, no_texts, no_writes, no_left, no_dead⟩
  have I : Ki K C := ⟨caC, spg, tak, moC, kC⟩
  have PAR : Par K mg "ForgetError" D := ⟨PySem.W.mg_of X G aD, ⟨rdD, gaD⟩, inD⟩
  have EX : Ex K CB CT CF CP CC := ⟨PySem.W.exm_ref pe3 hde3 ye3 sTB, PySem.W.exm_ref pe3 hde3 ye3 sPB, PySem.W.exm_ref pe1 hde1 ye1 sPT, PySem.W.exm_ref pe4 hde4 ye4 sPC⟩
  have F_1 := fun_mk (st := s_is_integer) l_1 c_1 k_1
  have b_1 := F_1.binds (ps := ["value"]) fun _ _ _ _ _ _ us hl => match us, hl with | [_], _ => rfl
  have F_2 := fun_mk (st := s_is_within) l_2 c_2 k_2
  have b_2 := F_2.binds (ps := ["value", "low", "high"]) fun _ _ _ _ _ _ us hl => match us, hl with | [_, _, _], _ => rfl
  have F_3 := fun_mk (st := s_is_index) l_3 c_3 k_3
  have b_3 := F_3.binds (ps := ["value", "many"]) fun _ _ _ _ _ _ us hl => match us, hl with | [_, _], _ => rfl
  have F_4 := fun_mk (st := s_is_list) l_4 c_4 k_4
  have b_4 := F_4.binds (ps := ["value"]) fun _ _ _ _ _ _ us hl => match us, hl with | [_], _ => rfl
  have F_5 := fun_mk (st := s_is_text) l_5 c_5 k_5
  have b_5 := F_5.binds (ps := ["value"]) fun _ _ _ _ _ _ us hl => match us, hl with | [_], _ => rfl
  have F_6 := fun_mk (st := s_are_fates) l_6 c_6 k_6
  have b_6 := F_6.binds (ps := ["value", "many"]) fun _ _ _ _ _ _ us hl => match us, hl with | [_, _], _ => rfl
  have F_7 := fun_mk (st := s__law_cell) l_7 c_7 k_7
  have b_7 := F_7.binds (ps := ["script", "k"]) fun _ _ _ _ _ _ us hl => match us, hl with | [_, _], _ => rfl
  have F_8 := fun_mk (st := s__law_box) l_8 c_8 k_8
  have b_8 := F_8.binds (ps := ["great"]) fun _ _ _ _ _ _ us hl => match us, hl with | [_], _ => rfl
  have F_9 := fun_mk (st := s__law_take) l_9 c_9 k_9
  have b_9 := F_9.binds (ps := ["box", "many"]) fun _ _ _ _ _ _ us hl => match us, hl with | [_, _], _ => rfl
  have F_10 := fun_mk (st := s__law_text) l_10 c_10 k_10
  have b_10 := F_10.binds (ps := ["box"]) fun _ _ _ _ _ _ us hl => match us, hl with | [_], _ => rfl
  have F_11 := fun_mk (st := s__law_state_right) l_11 c_11 k_11
  have b_11 := F_11.binds (ps := ["disk", "state"]) fun _ _ _ _ _ _ us hl => match us, hl with | [_, _], _ => rfl
  have F_12 := fun_mk (st := s__law_write_told) l_12 c_12 k_12
  have b_12 := F_12.binds (ps := ["disk", "block", "text", "by_name"]) fun _ _ _ _ _ _ us hl => match us, hl with | [_, _, _, _], _ => rfl
  have F_13 := fun_mk (st := s__law_sync_told) l_13 c_13 k_13
  have b_13 := F_13.binds (ps := ["disk"]) fun _ _ _ _ _ _ us hl => match us, hl with | [_], _ => rfl
  have F_14 := fun_mk (st := s__law_limit_told) l_14 c_14 k_14
  have b_14 := F_14.binds (ps := ["disk", "count", "by_name"]) fun _ _ _ _ _ _ us hl => match us, hl with | [_, _, _], _ => rfl
  have F_15 := fun_mk (st := s__law_remains_told) l_15 c_15 k_15
  have b_15 := F_15.binds (ps := ["disk", "fates", "by_name"]) fun _ _ _ _ _ _ us hl => match us, hl with | [_, _, _], _ => rfl
  have F_16 := fun_mk (st := s__law_read_wrong) l_16 c_16 k_16
  have b_16 := F_16.binds (ps := ["disk", "block"]) fun _ _ _ _ _ _ us hl => match us, hl with | [_, _], _ => rfl
  have F_17 := fun_mk (st := s__law_uses) l_17 c_17 k_17
  have b_17 := F_17.binds (ps := ["state", "told"]) fun _ _ _ _ _ _ us hl => match us, hl with | [_, _], _ => rfl
  have F_18 := fun_mk (st := s__law_write_right) l_18 c_18 k_18
  have b_18 := F_18.binds (ps := ["box", "disk", "state", "by_name"]) fun _ _ _ _ _ _ us hl => match us, hl with | [_, _, _, _], _ => rfl
  have F_19 := fun_mk (st := s__law_sync_right) l_19 c_19 k_19
  have b_19 := F_19.binds (ps := ["disk", "state"]) fun _ _ _ _ _ _ us hl => match us, hl with | [_, _], _ => rfl
  have F_20 := fun_mk (st := s__law_limit_right) l_20 c_20 k_20
  have b_20 := F_20.binds (ps := ["box", "disk", "state", "by_name"]) fun _ _ _ _ _ _ us hl => match us, hl with | [_, _, _, _], _ => rfl
  have F_21 := fun_mk (st := s__law_wrong_right) l_21 c_21 k_21
  have b_21 := F_21.binds (ps := ["box", "disk", "state", "by_name"]) fun _ _ _ _ _ _ us hl => match us, hl with | [_, _, _, _], _ => rfl
  have F_22 := fun_mk (st := s__law_remained) l_22 c_22 k_22
  have b_22 := F_22.binds (ps := ["state", "fates"]) fun _ _ _ _ _ _ us hl => match us, hl with | [_, _], _ => rfl
  have F_23 := fun_mk (st := s__law_spoilt_fates) l_23 c_23 k_23
  have b_23 := F_23.binds (ps := ["box", "fates"]) fun _ _ _ _ _ _ us hl => match us, hl with | [_, _], _ => rfl
  have F_24 := fun_mk (st := s__law_fates_due) l_24 c_24 k_24
  have b_24 := F_24.binds (ps := ["value", "many"]) fun _ _ _ _ _ _ us hl => match us, hl with | [_, _], _ => rfl
  have F_25 := fun_mk (st := s__law_remains_right) l_25 c_25 k_25
  have b_25 := F_25.binds (ps := ["box", "disk", "state", "by_name"]) fun _ _ _ _ _ _ us hl => match us, hl with | [_, _, _, _], _ => rfl
  have F_26 := fun_mk (st := s__law_deed_right) l_26 c_26 k_26
  have b_26 := F_26.binds (ps := ["box", "disk", "state", "by_name"]) fun _ _ _ _ _ _ us hl => match us, hl with | [_, _, _, _], _ => rfl
  have F_27 := fun_mk (st := s__law_life_right) l_27 c_27 k_27
  have b_27 := F_27.binds (ps := ["box", "disk", "state", "by_name"]) fun _ _ _ _ _ _ us hl => match us, hl with | [_, _, _, _], _ => rfl
  have F_28 := fun_mk (st := s__law_cell_right) l_28 c_28 k_28
  have b_28 := F_28.binds (ps := ["box"]) fun _ _ _ _ _ _ us hl => match us, hl with | [_], _ => rfl
  have F_29 := fun_mk (st := s__law_long_right) l_29 c_29 k_29
  have b_29 := F_29.binds (ps := ["box"]) fun _ _ _ _ _ _ us hl => match us, hl with | [_], _ => rfl
  have F_30 := fun_mk (st := s_law) l_30 c_30 k_30
  have b_30 := F_30.binds (ps := ["script"]) fun _ _ _ _ _ _ us hl => match us, hl with | [_], _ => rfl
  have Fm1 := fun_mk (st := s_Disk_check_alive) lm1 cm1 km1
  have bm1 := Fm1.binds (ps := ["self"]) fun _ _ _ _ _ _ us hl => match us, hl with | [_], _ => rfl
  have Fm2 := fun_mk (st := s_Disk_check_block) lm2 cm2 km2
  have bm2 := Fm2.binds (ps := ["self", "block"]) fun _ _ _ _ _ _ us hl => match us, hl with | [_, _], _ => rfl
  have Fm3 := fun_mk (st := s_Disk_spend) lm3 cm3 km3
  have bm3 := Fm3.binds (ps := ["self"]) fun _ _ _ _ _ _ us hl => match us, hl with | [_], _ => rfl
  have Fm4 := fun_mk (st := s_Disk_read) lm4 cm4 km4
  have bm4 := Fm4.binds (ps := ["self", "block"]) fun _ _ _ _ _ _ us hl => match us, hl with | [_, _], _ => rfl
  have Fm5 := fun_mk (st := s_Disk_pending) lm5 cm5 km5
  have bm5 := Fm5.binds (ps := ["self"]) fun _ _ _ _ _ _ us hl => match us, hl with | [_], _ => rfl
  have Fm6 := fun_mk (st := s_Disk_write) lm6 cm6 km6
  have bm6 := Fm6.binds (ps := ["self", "block", "text"]) fun _ _ _ _ _ _ us hl => match us, hl with | [_, _, _], _ => rfl
  have Fm7 := fun_mk (st := s_Disk_sync) lm7 cm7 km7
  have bm7 := Fm7.binds (ps := ["self"]) fun _ _ _ _ _ _ us hl => match us, hl with | [_], _ => rfl
  have Fm8 := fun_mk (st := s_Disk_limit) lm8 cm8 km8
  have bm8 := Fm8.binds (ps := ["self", "count"]) fun _ _ _ _ _ _ us hl => match us, hl with | [_, _], _ => rfl
  have Fm9 := fun_mk (st := s_Disk___init__) lm9 cm9 km9
  have bm9 := Fm9.binds (ps := ["self", "many"]) fun _ _ _ _ _ _ us hl => match us, hl with | [_, _], _ => rfl
  have Fm10 := fun_mk (st := s_Disk_remains) lm10 cm10 km10
  have bm10 := Fm10.binds (ps := ["self", "fates"]) fun _ _ _ _ _ _ us hl => match us, hl with | [_, _], _ => rfl
  have Fe1 := fun_mk (st := s_InvalidText___init__) le1 ce1 ke1
  have be1 := Fe1.binds (ps := ["self", "given"]) fun _ _ _ _ _ _ us hl => match us, hl with | [_, _], _ => rfl
  have Fe2 := fun_mk (st := s_InvalidMany___init__) le2 ce2 ke2
  have be2 := Fe2.binds (ps := ["self", "given"]) fun _ _ _ _ _ _ us hl => match us, hl with | [_, _], _ => rfl
  have Fe3 := fun_mk (st := s_InvalidBlock___init__) le3 ce3 ke3
  have be3 := Fe3.binds (ps := ["self", "given"]) fun _ _ _ _ _ _ us hl => match us, hl with | [_, _], _ => rfl
  have Fe4 := fun_mk (st := s_InvalidCount___init__) le4 ce4 ke4
  have be4 := Fe4.binds (ps := ["self", "given"]) fun _ _ _ _ _ _ us hl => match us, hl with | [_, _], _ => rfl
  have Fe5 := fun_mk (st := s_InvalidFates___init__) le5 ce5 ke5
  have be5 := Fe5.binds (ps := ["self", "given"]) fun _ _ _ _ _ _ us hl => match us, hl with | [_, _], _ => rfl
  have Fe6 := fun_mk (st := s_PowerCut___init__) le6 ce6 ke6
  have be6 := Fe6.binds (ps := ["self"]) fun _ _ _ _ _ _ us hl => match us, hl with | [_], _ => rfl
  refine ⟨PySem.W.fnOf "law" "law" (defArgs s_law) (defBody s_law) (defScope s_law) .none kV_30 dc_30 pm_30 an_30 cd_30 ct_30, fun s v => .of_eq rfl, fun base _ _ => ?_⟩
  have Oe1 : OexC K CT := ⟨⟨_, _, _, _, _, _, _, _, _, _, _, _, _, _, _, xe1, rfl⟩, se1, pe1, ye1, he1⟩
  have X_InvalidText : Xk l.prog w K mg base 1 "InvalidText" CT D := ⟨PySem.W.mg_of X G ne1, ⟨fe1, _, ok_xi_InvalidText (k := 0) Fe1 PAR Oe1 nge1, Oe1, ae1, te1, be1, PySem.W.mg_of X G ne1⟩, ⟨gae1, gge1, pe1, hde1⟩, nge1, ⟨cle1, gae1, gge1, pe1, cae1, spg, tak, moe1⟩, PySem.W.exm_ref pe1 hde1 ye1 sse1, kfe1⟩
  have Oe2 : OexC K CM := ⟨⟨_, _, _, _, _, _, _, _, _, _, _, _, _, _, _, xe2, rfl⟩, se2, pe2, ye2, he2⟩
  have X_InvalidMany : Xk l.prog w K mg base 1 "InvalidMany" CM D := ⟨PySem.W.mg_of X G ne2, ⟨fe2, _, ok_xi_InvalidMany (k := 0) Fe2 PAR Oe2 nge2, Oe2, ae2, te2, be2, PySem.W.mg_of X G ne2⟩, ⟨gae2, gge2, pe2, hde2⟩, nge2, ⟨cle2, gae2, gge2, pe2, cae2, spg, tak, moe2⟩, PySem.W.exm_ref pe2 hde2 ye2 sse2, kfe2⟩
  have Oe3 : OexC K CB := ⟨⟨_, _, _, _, _, _, _, _, _, _, _, _, _, _, _, xe3, rfl⟩, se3, pe3, ye3, he3⟩
  have X_InvalidBlock : Xk l.prog w K mg base 1 "InvalidBlock" CB D := ⟨PySem.W.mg_of X G ne3, ⟨fe3, _, ok_xi_InvalidBlock (k := 0) Fe3 PAR Oe3 nge3, Oe3, ae3, te3, be3, PySem.W.mg_of X G ne3⟩, ⟨gae3, gge3, pe3, hde3⟩, nge3, ⟨cle3, gae3, gge3, pe3, cae3, spg, tak, moe3⟩, PySem.W.exm_ref pe3 hde3 ye3 sse3, kfe3⟩
  have Oe4 : OexC K CC := ⟨⟨_, _, _, _, _, _, _, _, _, _, _, _, _, _, _, xe4, rfl⟩, se4, pe4, ye4, he4⟩
  have X_InvalidCount : Xk l.prog w K mg base 1 "InvalidCount" CC D := ⟨PySem.W.mg_of X G ne4, ⟨fe4, _, ok_xi_InvalidCount (k := 0) Fe4 PAR Oe4 nge4, Oe4, ae4, te4, be4, PySem.W.mg_of X G ne4⟩, ⟨gae4, gge4, pe4, hde4⟩, nge4, ⟨cle4, gae4, gge4, pe4, cae4, spg, tak, moe4⟩, PySem.W.exm_ref pe4 hde4 ye4 sse4, kfe4⟩
  have Oe5 : OexC K CF := ⟨⟨_, _, _, _, _, _, _, _, _, _, _, _, _, _, _, xe5, rfl⟩, se5, pe5, ye5, he5⟩
  have X_InvalidFates : Xk l.prog w K mg base 1 "InvalidFates" CF D := ⟨PySem.W.mg_of X G ne5, ⟨fe5, _, ok_xi_InvalidFates (k := 0) Fe5 PAR Oe5 nge5, Oe5, ae5, te5, be5, PySem.W.mg_of X G ne5⟩, ⟨gae5, gge5, pe5, hde5⟩, nge5, ⟨cle5, gae5, gge5, pe5, cae5, spg, tak, moe5⟩, PySem.W.exm_ref pe5 hde5 ye5 sse5, kfe5⟩
  have Oe6 : OexC K CP := ⟨⟨_, _, _, _, _, _, _, _, _, _, _, _, _, _, _, xe6, rfl⟩, se6, pe6, ye6, he6⟩
  have X_PowerCut : Xk0 l.prog w K mg base 1 "PowerCut" CP D := ⟨PySem.W.mg_of X G ne6, ⟨fe6, _, ok_x0_PowerCut (k := 0) Fe6 PAR Oe6, Oe6, ae6, te6, be6, PySem.W.mg_of X G ne6⟩, ⟨cle6, gae6, gge6, pe6, cae6, spg, tak, moe6⟩, PySem.W.exm_ref pe6 hde6 ye6 sse6, kfe6⟩
  have G_1 : Cal l.prog w K mg base 1 "is_integer" ["value"] (sp_int K) := ⟨f_1, _, ok_int (k := 0) F_1 B, PySem.W.mg_of X G a_1, k_1, b_1⟩
  have G_2 : Cal l.prog w K mg base 2 "is_within" ["value", "low", "high"] (sp_wi K) := ⟨f_2, _, ok_wi (k := 1) F_2 B (G_1.up (by decide)), PySem.W.mg_of X G a_2, k_2, b_2⟩
  have G_3 : Cal l.prog w K mg base 2 "is_index" ["value", "many"] (sp_ix K) := ⟨f_3, _, ok_ix (k := 1) F_3 B (G_1.up (by decide)), PySem.W.mg_of X G a_3, k_3, b_3⟩
  have G_4 : Cal l.prog w K mg base 1 "is_list" ["value"] (sp_isl K) := ⟨f_4, _, ok_isl (k := 0) F_4 B, PySem.W.mg_of X G a_4, k_4, b_4⟩
  have G_5 : Cal l.prog w K mg base 1 "is_text" ["value"] (sp_tx K) := ⟨f_5, _, ok_tx (k := 0) F_5 B T, PySem.W.mg_of X G a_5, k_5, b_5⟩
  have G_6 : Cal l.prog w K mg base 2 "are_fates" ["value", "many"] (sp_fts K) := ⟨f_6, _, ok_fts (k := 1) F_6 B T (G_4.up (by decide)), PySem.W.mg_of X G a_6, k_6, b_6⟩
  have M_check_alive : Mt l.prog w K mg base 3 C "check_alive" ["self"] (sp_ca C CP) := ⟨fm1, _, ok_ca (k := 1) Fm1 B Z (X_PowerCut.up (by decide)), ⟨pg, hdC, po, saC⟩, ⟨am1, im1, km1⟩, bm1⟩
  have M_check_block : Mt l.prog w K mg base 3 C "check_block" ["self", "block"] (sp_cb K C CB) := ⟨fm2, _, ok_cb (k := 1) Fm2 B Z (G_3.up (by decide)) (X_InvalidBlock.up (by decide)), ⟨pg, hdC, po, saC⟩, ⟨am2, im2, km2⟩, bm2⟩
  have M_spend : Mt l.prog w K mg base 4 C "spend" ["self"] (sp_sp C CP) := ⟨fm3, _, ok_sp (k := 3) Fm3 B Z (M_check_alive.up (by decide)), ⟨pg, hdC, po, saC⟩, ⟨am3, im3, km3⟩, bm3⟩
  have M_read : Mt l.prog w K mg base 4 C "read" ["self", "block"] (sp_rd K C CB) := ⟨fm4, _, ok_rd (k := 3) Fm4 B Z (M_check_block.up (by decide)), ⟨pg, hdC, po, saC⟩, ⟨am4, im4, km4⟩, bm4⟩
  have M_pending : Mt l.prog w K mg base 1 C "pending" ["self"] (sp_pe C) := ⟨fm5, _, ok_pe (k := 0) Fm5 B Z, ⟨pg, hdC, po, saC⟩, ⟨am5, im5, km5⟩, bm5⟩
  have M_write : Mt l.prog w K mg base 5 C "write" ["self", "block", "text"] (sp_wr K C CB CT CP) := ⟨fm6, _, ok_wr (k := 3) Fm6 B Z (M_check_alive.up (by decide)) (M_check_block.up (by decide)) (M_spend.up (by decide)) (G_5.up (by decide)) (X_InvalidText.up (by decide)), ⟨pg, hdC, po, saC⟩, ⟨am6, im6, km6⟩, bm6⟩
  have MR_write : MtR l.prog w K mg base 5 C "write" ["self", "block", "text"] ["text", "block"] (sp_wr K C CB CT CP) := ⟨fm6, _, ok_wr (k := 3) Fm6 B Z (M_check_alive.up (by decide)) (M_check_block.up (by decide)) (M_spend.up (by decide)) (G_5.up (by decide)) (X_InvalidText.up (by decide)), ⟨pg, hdC, po, saC⟩, ⟨am6, im6, km6⟩, fun s u us _ hl => match us, hl with | [_, _], _ => .of_eq rfl⟩
  have M_sync : Mt l.prog w K mg base 5 C "sync" ["self"] (sp_sy C CP) := ⟨fm7, _, ok_sy (k := 4) Fm7 B Z (M_check_alive.up (by decide)) (M_spend.up (by decide)), ⟨pg, hdC, po, saC⟩, ⟨am7, im7, km7⟩, bm7⟩
  have M_limit : Mt l.prog w K mg base 4 C "limit" ["self", "count"] (sp_li K C CP CC) := ⟨fm8, _, ok_li (k := 2) Fm8 B Z (M_check_alive.up (by decide)) (G_1.up (by decide)) (X_InvalidCount.up (by decide)), ⟨pg, hdC, po, saC⟩, ⟨am8, im8, km8⟩, bm8⟩
  have MR_limit : MtR l.prog w K mg base 4 C "limit" ["self", "count"] ["count"] (sp_li K C CP CC) := ⟨fm8, _, ok_li (k := 2) Fm8 B Z (M_check_alive.up (by decide)) (G_1.up (by decide)) (X_InvalidCount.up (by decide)), ⟨pg, hdC, po, saC⟩, ⟨am8, im8, km8⟩, fun s u us _ hl => match us, hl with | [_], _ => .of_eq rfl⟩
  have Mk_ : Mk K C fm9 := ⟨mkC, am9, im9, kpC⟩
  have I_Disk : In l.prog w K mg base 3 C "Disk" ["self", "many"] (sp_in K C CM) := ⟨fm9, _, ok_in (k := 1) Fm9 B Z T (G_2.up (by decide)) (X_InvalidMany.up (by decide)), Mk_, bm9, PySem.W.mg_of X G aC⟩
  have IR_Disk : InR l.prog w K mg base 3 C "Disk" ["self", "many"] ["many"] (sp_in K C CM) := ⟨fm9, _, ok_in (k := 1) Fm9 B Z T (G_2.up (by decide)) (X_InvalidMany.up (by decide)), Mk_, PySem.W.mg_of X G aC, fun s u us _ hl => match us, hl with | [_], _ => .of_eq rfl⟩
  have M_remains : Mt l.prog w K mg base 5 C "remains" ["self", "fates"] (sp_rm K C CF) := ⟨fm10, _, ok_rm (k := 3) Fm10 B Z T (G_6.up (by decide)) (I_Disk.up (by decide)) (X_InvalidFates.up (by decide)), ⟨pg, hdC, po, saC⟩, ⟨am10, im10, km10⟩, bm10⟩
  have MR_remains : MtR l.prog w K mg base 5 C "remains" ["self", "fates"] ["fates"] (sp_rm K C CF) := ⟨fm10, _, ok_rm (k := 3) Fm10 B Z T (G_6.up (by decide)) (I_Disk.up (by decide)) (X_InvalidFates.up (by decide)), ⟨pg, hdC, po, saC⟩, ⟨am10, im10, km10⟩, fun s u us _ hl => match us, hl with | [_], _ => .of_eq rfl⟩
  have G_7 : Cal l.prog w K mg base 1 "_law_cell" ["script", "k"] (sp_cell K) := ⟨f_7, _, ok_cell (k := 0) F_7 B, PySem.W.mg_of X G a_7, k_7, b_7⟩
  have G_8 : Cal l.prog w K mg base 1 "_law_box" ["great"] sp_box := ⟨f_8, _, ok_box (k := 0) F_8 B, PySem.W.mg_of X G a_8, k_8, b_8⟩
  have G_9 : Cal l.prog w K mg base 1 "_law_take" ["box", "many"] sp_take := ⟨f_9, _, ok_take (k := 0) F_9 B, PySem.W.mg_of X G a_9, k_9, b_9⟩
  have G_10 : Cal l.prog w K mg base 2 "_law_text" ["box"] sp_lt := ⟨f_10, _, ok_lt (k := 1) F_10 B (G_9.up (by decide)), PySem.W.mg_of X G a_10, k_10, b_10⟩
  have G_11 : Cal l.prog w K mg base 5 "_law_state_right" ["disk", "state"] (sp_sr C) := ⟨f_11, _, ok_sr (k := 4) F_11 B Z T I (M_pending.up (by decide)) (M_read.up (by decide)), PySem.W.mg_of X G a_11, k_11, b_11⟩
  have G_12 : Cal l.prog w K mg base 6 "_law_write_told" ["disk", "block", "text", "by_name"] (sp_wt K C) := ⟨f_12, _, ok_wt (k := 5) F_12 B T (M_write.up (by decide)) (MR_write.up (by decide)) (X_InvalidBlock.up (by decide)) (X_InvalidText.up (by decide)) (X_PowerCut.up (by decide)) EX, PySem.W.mg_of X G a_12, k_12, b_12⟩
  have G_13 : Cal l.prog w K mg base 6 "_law_sync_told" ["disk"] (sp_st C) := ⟨f_13, _, ok_st (k := 5) F_13 B T (M_sync.up (by decide)) (X_PowerCut.up (by decide)), PySem.W.mg_of X G a_13, k_13, b_13⟩
  have G_14 : Cal l.prog w K mg base 5 "_law_limit_told" ["disk", "count", "by_name"] (sp_ll K C) := ⟨f_14, _, ok_ll (k := 4) F_14 B T (M_limit.up (by decide)) (MR_limit.up (by decide)) (X_InvalidCount.up (by decide)) (X_PowerCut.up (by decide)) EX, PySem.W.mg_of X G a_14, k_14, b_14⟩
  have G_15 : Cal l.prog w K mg base 6 "_law_remains_told" ["disk", "fates", "by_name"] (sp_mt K C) := ⟨f_15, _, ok_mt (k := 5) F_15 B T (M_remains.up (by decide)) (MR_remains.up (by decide)) (X_InvalidFates.up (by decide)), PySem.W.mg_of X G a_15, k_15, b_15⟩
  have G_16 : Cal l.prog w K mg base 5 "_law_read_wrong" ["disk", "block"] (sp_rw K C) := ⟨f_16, _, ok_rw (k := 4) F_16 B T (M_read.up (by decide)) (X_InvalidBlock.up (by decide)), PySem.W.mg_of X G a_16, k_16, b_16⟩
  have G_17 : Cal l.prog w K mg base 1 "_law_uses" ["state", "told"] sp_us := ⟨f_17, _, ok_us (k := 0) F_17 B, PySem.W.mg_of X G a_17, k_17, b_17⟩
  have G_18 : Cal l.prog w K mg base 7 "_law_write_right" ["box", "disk", "state", "by_name"] (sp_wg C) := ⟨f_18, _, ok_wg (k := 6) F_18 B (G_9.up (by decide)) (G_10.up (by decide)) (G_17.up (by decide)) (G_12.up (by decide)), PySem.W.mg_of X G a_18, k_18, b_18⟩
  have G_19 : Cal l.prog w K mg base 7 "_law_sync_right" ["disk", "state"] (sp_sg C) := ⟨f_19, _, ok_sg (k := 6) F_19 B (G_17.up (by decide)) (G_13.up (by decide)), PySem.W.mg_of X G a_19, k_19, b_19⟩
  have G_20 : Cal l.prog w K mg base 6 "_law_limit_right" ["box", "disk", "state", "by_name"] (sp_lg C) := ⟨f_20, _, ok_lg (k := 5) F_20 B (G_9.up (by decide)) (G_14.up (by decide)), PySem.W.mg_of X G a_20, k_20, b_20⟩
  have G_21 : Cal l.prog w K mg base 7 "_law_wrong_right" ["box", "disk", "state", "by_name"] (sp_xr C) := ⟨f_21, _, ok_xr (k := 6) F_21 B (G_9.up (by decide)) (G_10.up (by decide)) (G_12.up (by decide)), PySem.W.mg_of X G a_21, k_21, b_21⟩
  have G_22 : Cal l.prog w K mg base 1 "_law_remained" ["state", "fates"] (sp_rr K) := ⟨f_22, _, ok_rr (k := 0) F_22 B, PySem.W.mg_of X G a_22, k_22, b_22⟩
  have G_23 : Cal l.prog w K mg base 2 "_law_spoilt_fates" ["box", "fates"] (sp_sf K) := ⟨f_23, _, ok_sf (k := 1) F_23 B (G_9.up (by decide)), PySem.W.mg_of X G a_23, k_23, b_23⟩
  have G_24 : Cal l.prog w K mg base 1 "_law_fates_due" ["value", "many"] (sp_fd K) := ⟨f_24, _, ok_fd (k := 0) F_24 B, PySem.W.mg_of X G a_24, k_24, b_24⟩
  have G_25 : Cal l.prog w K mg base 7 "_law_remains_right" ["box", "disk", "state", "by_name"] (sp_rg C) := ⟨f_25, _, ok_rg (k := 6) F_25 B (G_9.up (by decide)) (G_23.up (by decide)) (G_15.up (by decide)) (G_24.up (by decide)) (G_22.up (by decide)) (G_11.up (by decide)) (M_remains.up (by decide)), PySem.W.mg_of X G a_25, k_25, b_25⟩
  have G_26 : Cal l.prog w K mg base 8 "_law_deed_right" ["box", "disk", "state", "by_name"] (sp_dr C) := ⟨f_26, _, ok_dr (k := 7) F_26 B (G_9.up (by decide)) (G_18.up (by decide)) (G_19.up (by decide)) (G_20.up (by decide)) (G_21.up (by decide)) (G_16.up (by decide)), PySem.W.mg_of X G a_26, k_26, b_26⟩
  have G_27 : Cal l.prog w K mg base 9 "_law_life_right" ["box", "disk", "state", "by_name"] (sp_lf C) := ⟨f_27, _, ok_lf (k := 8) F_27 B (G_9.up (by decide)) (G_26.up (by decide)) (G_11.up (by decide)) (G_14.up (by decide)) (G_21.up (by decide)) (G_19.up (by decide)) (G_18.up (by decide)) (G_13.up (by decide)), PySem.W.mg_of X G a_27, k_27, b_27⟩
  have G_28 : Cal l.prog w K mg base 10 "_law_cell_right" ["box"] sp_cr := ⟨f_28, _, ok_cr (k := 8) F_28 B (G_9.up (by decide)) (I_Disk.up (by decide)) (G_27.up (by decide)) (G_18.up (by decide)) (G_25.up (by decide)) (G_11.up (by decide)) (G_19.up (by decide)), PySem.W.mg_of X G a_28, k_28, b_28⟩
  have G_29 : Cal l.prog w K mg base 8 "_law_long_right" ["box"] sp_cr := ⟨f_29, _, ok_lr (k := 6) F_29 B (I_Disk.up (by decide)) (G_14.up (by decide)) (G_18.up (by decide)) (G_21.up (by decide)) (G_11.up (by decide)) (G_25.up (by decide)), PySem.W.mg_of X G a_29, k_29, b_29⟩
  exact ok_law (k := 10) F_30 B (G_7.up (by decide)) (G_8.up (by decide)) (G_28.up (by decide)) (G_29.up (by decide))
end M85
set_option maxHeartbeats 0
open PySem PySem.W PyProof.Rows
open_top head for PySem.Challenge.rw_mayforget_k85_limits_and_remains
open PySem PySem.W PyProof.Rows in
set_option maxRecDepth 100000 in
set_option maxHeartbeats 0 in
theorem PySem.Challenge.cw_mayforget_k85_limits_and_remains_holds : PySem.Challenge.rw_mayforget_k85_limits_and_remains.Holds := by
  w_on; o_law; k_head; (case hw => w_witness2)
  k_fill
  refine G.walk (l := PySem.Challenge.rw_mayforget_k85_limits_and_remains) (n := 63) (k := 11) (arg := "script") (sp := M85.sp_law) rfl (by decide) rfl ⟨rfl, by decide, by decide⟩ (fun w h Y => PySem.W.kIn_of Y) ?F ?K
  case K => exact fun _ _ a ns hl _ hS => ⟨a, ns, rfl, hS, hl, fun _ => rfl⟩
  case F =>
    intro w mg fa h Y KX G hmg
    refine' M85.all_mk KX G hmg ?a_1 ?l_1 ?c_1 ?k_1 ?a_2 ?l_2 ?c_2 ?k_2 ?a_3 ?l_3 ?c_3 ?k_3 ?a_4 ?l_4 ?c_4 ?k_4 ?a_5 ?l_5 ?c_5 ?k_5 ?a_6 ?l_6 ?c_6 ?k_6 ?a_7 ?l_7 ?c_7 ?k_7 ?a_8 ?l_8 ?c_8 ?k_8 ?a_9 ?l_9 ?c_9 ?k_9 ?a_10 ?l_10 ?c_10 ?k_10 ?a_11 ?l_11 ?c_11 ?k_11 ?a_12 ?l_12 ?c_12 ?k_12 ?a_13 ?l_13 ?c_13 ?k_13 ?a_14 ?l_14 ?c_14 ?k_14 ?a_15 ?l_15 ?c_15 ?k_15 ?a_16 ?l_16 ?c_16 ?k_16 ?a_17 ?l_17 ?c_17 ?k_17 ?a_18 ?l_18 ?c_18 ?k_18 ?a_19 ?l_19 ?c_19 ?k_19 ?a_20 ?l_20 ?c_20 ?k_20 ?a_21 ?l_21 ?c_21 ?k_21 ?a_22 ?l_22 ?c_22 ?k_22 ?a_23 ?l_23 ?c_23 ?k_23 ?a_24 ?l_24 ?c_24 ?k_24 ?a_25 ?l_25 ?c_25 ?k_25 ?a_26 ?l_26 ?c_26 ?k_26 ?a_27 ?l_27 ?c_27 ?k_27 ?a_28 ?l_28 ?c_28 ?k_28 ?a_29 ?l_29 ?c_29 ?k_29 ?a_30 ?l_30 ?c_30 ?k_30 ?am1 ?lm1 ?cm1 ?km1 ?im1 ?am2 ?lm2 ?cm2 ?km2 ?im2 ?am3 ?lm3 ?cm3 ?km3 ?im3 ?am4 ?lm4 ?cm4 ?km4 ?im4 ?am5 ?lm5 ?cm5 ?km5 ?im5 ?am6 ?lm6 ?cm6 ?km6 ?im6 ?am7 ?lm7 ?cm7 ?km7 ?im7 ?am8 ?lm8 ?cm8 ?km8 ?im8 ?am9 ?lm9 ?cm9 ?km9 ?im9 ?am10 ?lm10 ?cm10 ?km10 ?im10 ?ae1 ?le1 ?ce1 ?ke1 ?te1 ?ne1 ?xe1 ?se1 ?pe1 ?ye1 ?he1 ?gae1 ?gge1 ?hde1 ?nge1 ?cle1 ?cae1 ?moe1 ?sse1 ?kfe1 ?ae2 ?le2 ?ce2 ?ke2 ?te2 ?ne2 ?xe2 ?se2 ?pe2 ?ye2 ?he2 ?gae2 ?gge2 ?hde2 ?nge2 ?cle2 ?cae2 ?moe2 ?sse2 ?kfe2 ?ae3 ?le3 ?ce3 ?ke3 ?te3 ?ne3 ?xe3 ?se3 ?pe3 ?ye3 ?he3 ?gae3 ?gge3 ?hde3 ?nge3 ?cle3 ?cae3 ?moe3 ?sse3 ?kfe3 ?ae4 ?le4 ?ce4 ?ke4 ?te4 ?ne4 ?xe4 ?se4 ?pe4 ?ye4 ?he4 ?gae4 ?gge4 ?hde4 ?nge4 ?cle4 ?cae4 ?moe4 ?sse4 ?kfe4 ?ae5 ?le5 ?ce5 ?ke5 ?te5 ?ne5 ?xe5 ?se5 ?pe5 ?ye5 ?he5 ?gae5 ?gge5 ?hde5 ?nge5 ?cle5 ?cae5 ?moe5 ?sse5 ?kfe5 ?ae6 ?le6 ?ce6 ?ke6 ?te6 ?ne6 ?xe6 ?se6 ?pe6 ?ye6 ?he6 ?gae6 ?gge6 ?hde6 ?nge6 ?cle6 ?cae6 ?moe6 ?sse6 ?kfe6 ?z_len ?z_range ?z_abs ?z_int ?z_str ?z_bool ?z_list ?z_tuple ?z_dict ?z_sum ?z_all ?z_any ?z_max ?z_min ?z_sorted ?z_repr ?z_isinstance ?z_enumerate ?z_zip ?aC ?aD ?pg ?hdC ?po ?saC ?mkC ?kpC ?caC ?spg ?tak ?moC ?kC ?rdD ?gaD ?inD ?sTB ?sPB ?sPT ?sPC ?pB ?pS ?pDo ?pL ?pF ?uF ?no_many ?no_synced ?no_texts ?no_writes ?no_left ?no_dead
    (case aC => first | k_is | rfl)
    (case aD => first | k_is | rfl)
    (case pF => first | k_is | rfl)
    (case ne1 => first | k_is | rfl)
    (case ne2 => first | k_is | rfl)
    (case ne3 => first | k_is | rfl)
    (case ne4 => first | k_is | rfl)
    (case ne5 => first | k_is | rfl)
    (case ne6 => first | k_is | rfl)
    (case a_1 => first | k_is | rfl)
    (case l_1 => first | k_is | rfl)
    (case c_1 => first | k_is | rfl)
    (case k_1 => first | k_is | rfl)
    (case a_2 => first | k_is | rfl)
    (case l_2 => first | k_is | rfl)
    (case c_2 => first | k_is | rfl)
    (case k_2 => first | k_is | rfl)
    (case a_3 => first | k_is | rfl)
    (case l_3 => first | k_is | rfl)
    (case c_3 => first | k_is | rfl)
    (case k_3 => first | k_is | rfl)
    (case a_4 => first | k_is | rfl)
    (case l_4 => first | k_is | rfl)
    (case c_4 => first | k_is | rfl)
    (case k_4 => first | k_is | rfl)
    (case a_5 => first | k_is | rfl)
    (case l_5 => first | k_is | rfl)
    (case c_5 => first | k_is | rfl)
    (case k_5 => first | k_is | rfl)
    (case a_6 => first | k_is | rfl)
    (case l_6 => first | k_is | rfl)
    (case c_6 => first | k_is | rfl)
    (case k_6 => first | k_is | rfl)
    (case a_7 => first | k_is | rfl)
    (case l_7 => first | k_is | rfl)
    (case c_7 => first | k_is | rfl)
    (case k_7 => first | k_is | rfl)
    (case a_8 => first | k_is | rfl)
    (case l_8 => first | k_is | rfl)
    (case c_8 => first | k_is | rfl)
    (case k_8 => first | k_is | rfl)
    (case a_9 => first | k_is | rfl)
    (case l_9 => first | k_is | rfl)
    (case c_9 => first | k_is | rfl)
    (case k_9 => first | k_is | rfl)
    (case a_10 => first | k_is | rfl)
    (case l_10 => first | k_is | rfl)
    (case c_10 => first | k_is | rfl)
    (case k_10 => first | k_is | rfl)
    (case a_11 => first | k_is | rfl)
    (case l_11 => first | k_is | rfl)
    (case c_11 => first | k_is | rfl)
    (case k_11 => first | k_is | rfl)
    (case a_12 => first | k_is | rfl)
    (case l_12 => first | k_is | rfl)
    (case c_12 => first | k_is | rfl)
    (case k_12 => first | k_is | rfl)
    (case a_13 => first | k_is | rfl)
    (case l_13 => first | k_is | rfl)
    (case c_13 => first | k_is | rfl)
    (case k_13 => first | k_is | rfl)
    (case a_14 => first | k_is | rfl)
    (case l_14 => first | k_is | rfl)
    (case c_14 => first | k_is | rfl)
    (case k_14 => first | k_is | rfl)
    (case a_15 => first | k_is | rfl)
    (case l_15 => first | k_is | rfl)
    (case c_15 => first | k_is | rfl)
    (case k_15 => first | k_is | rfl)
    (case a_16 => first | k_is | rfl)
    (case l_16 => first | k_is | rfl)
    (case c_16 => first | k_is | rfl)
    (case k_16 => first | k_is | rfl)
    (case a_17 => first | k_is | rfl)
    (case l_17 => first | k_is | rfl)
    (case c_17 => first | k_is | rfl)
    (case k_17 => first | k_is | rfl)
    (case a_18 => first | k_is | rfl)
    (case l_18 => first | k_is | rfl)
    (case c_18 => first | k_is | rfl)
    (case k_18 => first | k_is | rfl)
    (case a_19 => first | k_is | rfl)
    (case l_19 => first | k_is | rfl)
    (case c_19 => first | k_is | rfl)
    (case k_19 => first | k_is | rfl)
    (case a_20 => first | k_is | rfl)
    (case l_20 => first | k_is | rfl)
    (case c_20 => first | k_is | rfl)
    (case k_20 => first | k_is | rfl)
    (case a_21 => first | k_is | rfl)
    (case l_21 => first | k_is | rfl)
    (case c_21 => first | k_is | rfl)
    (case k_21 => first | k_is | rfl)
    (case a_22 => first | k_is | rfl)
    (case l_22 => first | k_is | rfl)
    (case c_22 => first | k_is | rfl)
    (case k_22 => first | k_is | rfl)
    (case a_23 => first | k_is | rfl)
    (case l_23 => first | k_is | rfl)
    (case c_23 => first | k_is | rfl)
    (case k_23 => first | k_is | rfl)
    (case a_24 => first | k_is | rfl)
    (case l_24 => first | k_is | rfl)
    (case c_24 => first | k_is | rfl)
    (case k_24 => first | k_is | rfl)
    (case a_25 => first | k_is | rfl)
    (case l_25 => first | k_is | rfl)
    (case c_25 => first | k_is | rfl)
    (case k_25 => first | k_is | rfl)
    (case a_26 => first | k_is | rfl)
    (case l_26 => first | k_is | rfl)
    (case c_26 => first | k_is | rfl)
    (case k_26 => first | k_is | rfl)
    (case a_27 => first | k_is | rfl)
    (case l_27 => first | k_is | rfl)
    (case c_27 => first | k_is | rfl)
    (case k_27 => first | k_is | rfl)
    (case a_28 => first | k_is | rfl)
    (case l_28 => first | k_is | rfl)
    (case c_28 => first | k_is | rfl)
    (case k_28 => first | k_is | rfl)
    (case a_29 => first | k_is | rfl)
    (case l_29 => first | k_is | rfl)
    (case c_29 => first | k_is | rfl)
    (case k_29 => first | k_is | rfl)
    (case a_30 => first | k_is | rfl)
    (case l_30 => first | k_is | rfl)
    (case c_30 => first | k_is | rfl)
    (case k_30 => first | k_is | rfl)
    (case am1 => first | k_is | rfl)
    (case lm1 => first | k_is | rfl)
    (case cm1 => first | k_is | rfl)
    (case km1 => first | k_is | rfl)
    (case im1 => first | k_is | rfl)
    (case am2 => first | k_is | rfl)
    (case lm2 => first | k_is | rfl)
    (case cm2 => first | k_is | rfl)
    (case km2 => first | k_is | rfl)
    (case im2 => first | k_is | rfl)
    (case am3 => first | k_is | rfl)
    (case lm3 => first | k_is | rfl)
    (case cm3 => first | k_is | rfl)
    (case km3 => first | k_is | rfl)
    (case im3 => first | k_is | rfl)
    (case am4 => first | k_is | rfl)
    (case lm4 => first | k_is | rfl)
    (case cm4 => first | k_is | rfl)
    (case km4 => first | k_is | rfl)
    (case im4 => first | k_is | rfl)
    (case am5 => first | k_is | rfl)
    (case lm5 => first | k_is | rfl)
    (case cm5 => first | k_is | rfl)
    (case km5 => first | k_is | rfl)
    (case im5 => first | k_is | rfl)
    (case am6 => first | k_is | rfl)
    (case lm6 => first | k_is | rfl)
    (case cm6 => first | k_is | rfl)
    (case km6 => first | k_is | rfl)
    (case im6 => first | k_is | rfl)
    (case am7 => first | k_is | rfl)
    (case lm7 => first | k_is | rfl)
    (case cm7 => first | k_is | rfl)
    (case km7 => first | k_is | rfl)
    (case im7 => first | k_is | rfl)
    (case am8 => first | k_is | rfl)
    (case lm8 => first | k_is | rfl)
    (case cm8 => first | k_is | rfl)
    (case km8 => first | k_is | rfl)
    (case im8 => first | k_is | rfl)
    (case am9 => first | k_is | rfl)
    (case lm9 => first | k_is | rfl)
    (case cm9 => first | k_is | rfl)
    (case km9 => first | k_is | rfl)
    (case im9 => first | k_is | rfl)
    (case am10 => first | k_is | rfl)
    (case lm10 => first | k_is | rfl)
    (case cm10 => first | k_is | rfl)
    (case km10 => first | k_is | rfl)
    (case im10 => first | k_is | rfl)
    (case ae1 => first | k_is | rfl)
    (case le1 => first | k_is | rfl)
    (case ce1 => first | k_is | rfl)
    (case ke1 => first | k_is | rfl)
    (case te1 => first | k_is | rfl)
    (case xe1 => first | k_is | rfl)
    (case se1 => first | k_is | rfl)
    (case pe1 => first | k_is | rfl)
    (case ye1 => first | k_is | rfl)
    (case he1 => first | k_is | rfl)
    (case gae1 => first | k_is | rfl)
    (case gge1 => first | k_is | rfl)
    (case hde1 => first | k_is | rfl)
    (case nge1 => first | k_is | rfl)
    (case cle1 => first | k_is | rfl)
    (case cae1 => first | k_is | rfl)
    (case moe1 => first | k_is | rfl)
    (case sse1 => first | k_is | rfl)
    (case kfe1 => first | k_is | rfl)
    (case ae2 => first | k_is | rfl)
    (case le2 => first | k_is | rfl)
    (case ce2 => first | k_is | rfl)
    (case ke2 => first | k_is | rfl)
    (case te2 => first | k_is | rfl)
    (case xe2 => first | k_is | rfl)
    (case se2 => first | k_is | rfl)
    (case pe2 => first | k_is | rfl)
    (case ye2 => first | k_is | rfl)
    (case he2 => first | k_is | rfl)
    (case gae2 => first | k_is | rfl)
    (case gge2 => first | k_is | rfl)
    (case hde2 => first | k_is | rfl)
    (case nge2 => first | k_is | rfl)
    (case cle2 => first | k_is | rfl)
    (case cae2 => first | k_is | rfl)
    (case moe2 => first | k_is | rfl)
    (case sse2 => first | k_is | rfl)
    (case kfe2 => first | k_is | rfl)
    (case ae3 => first | k_is | rfl)
    (case le3 => first | k_is | rfl)
    (case ce3 => first | k_is | rfl)
    (case ke3 => first | k_is | rfl)
    (case te3 => first | k_is | rfl)
    (case xe3 => first | k_is | rfl)
    (case se3 => first | k_is | rfl)
    (case pe3 => first | k_is | rfl)
    (case ye3 => first | k_is | rfl)
    (case he3 => first | k_is | rfl)
    (case gae3 => first | k_is | rfl)
    (case gge3 => first | k_is | rfl)
    (case hde3 => first | k_is | rfl)
    (case nge3 => first | k_is | rfl)
    (case cle3 => first | k_is | rfl)
    (case cae3 => first | k_is | rfl)
    (case moe3 => first | k_is | rfl)
    (case sse3 => first | k_is | rfl)
    (case kfe3 => first | k_is | rfl)
    (case ae4 => first | k_is | rfl)
    (case le4 => first | k_is | rfl)
    (case ce4 => first | k_is | rfl)
    (case ke4 => first | k_is | rfl)
    (case te4 => first | k_is | rfl)
    (case xe4 => first | k_is | rfl)
    (case se4 => first | k_is | rfl)
    (case pe4 => first | k_is | rfl)
    (case ye4 => first | k_is | rfl)
    (case he4 => first | k_is | rfl)
    (case gae4 => first | k_is | rfl)
    (case gge4 => first | k_is | rfl)
    (case hde4 => first | k_is | rfl)
    (case nge4 => first | k_is | rfl)
    (case cle4 => first | k_is | rfl)
    (case cae4 => first | k_is | rfl)
    (case moe4 => first | k_is | rfl)
    (case sse4 => first | k_is | rfl)
    (case kfe4 => first | k_is | rfl)
    (case ae5 => first | k_is | rfl)
    (case le5 => first | k_is | rfl)
    (case ce5 => first | k_is | rfl)
    (case ke5 => first | k_is | rfl)
    (case te5 => first | k_is | rfl)
    (case xe5 => first | k_is | rfl)
    (case se5 => first | k_is | rfl)
    (case pe5 => first | k_is | rfl)
    (case ye5 => first | k_is | rfl)
    (case he5 => first | k_is | rfl)
    (case gae5 => first | k_is | rfl)
    (case gge5 => first | k_is | rfl)
    (case hde5 => first | k_is | rfl)
    (case nge5 => first | k_is | rfl)
    (case cle5 => first | k_is | rfl)
    (case cae5 => first | k_is | rfl)
    (case moe5 => first | k_is | rfl)
    (case sse5 => first | k_is | rfl)
    (case kfe5 => first | k_is | rfl)
    (case ae6 => first | k_is | rfl)
    (case le6 => first | k_is | rfl)
    (case ce6 => first | k_is | rfl)
    (case ke6 => first | k_is | rfl)
    (case te6 => first | k_is | rfl)
    (case xe6 => first | k_is | rfl)
    (case se6 => first | k_is | rfl)
    (case pe6 => first | k_is | rfl)
    (case ye6 => first | k_is | rfl)
    (case he6 => first | k_is | rfl)
    (case gae6 => first | k_is | rfl)
    (case gge6 => first | k_is | rfl)
    (case hde6 => first | k_is | rfl)
    (case nge6 => first | k_is | rfl)
    (case cle6 => first | k_is | rfl)
    (case cae6 => first | k_is | rfl)
    (case moe6 => first | k_is | rfl)
    (case sse6 => first | k_is | rfl)
    (case kfe6 => first | k_is | rfl)
    (case z_len => first | k_is | rfl)
    (case z_range => first | k_is | rfl)
    (case z_abs => first | k_is | rfl)
    (case z_int => first | k_is | rfl)
    (case z_str => first | k_is | rfl)
    (case z_bool => first | k_is | rfl)
    (case z_list => first | k_is | rfl)
    (case z_tuple => first | k_is | rfl)
    (case z_dict => first | k_is | rfl)
    (case z_sum => first | k_is | rfl)
    (case z_all => first | k_is | rfl)
    (case z_any => first | k_is | rfl)
    (case z_max => first | k_is | rfl)
    (case z_min => first | k_is | rfl)
    (case z_sorted => first | k_is | rfl)
    (case z_repr => first | k_is | rfl)
    (case z_isinstance => first | k_is | rfl)
    (case z_enumerate => first | k_is | rfl)
    (case z_zip => first | k_is | rfl)
    (case pg => first | k_is | rfl)
    (case hdC => first | k_is | rfl)
    (case po => first | k_is | rfl)
    (case saC => first | k_is | rfl)
    (case mkC => first | k_is | rfl)
    (case kpC => first | k_is | rfl)
    (case caC => first | k_is | rfl)
    (case spg => first | k_is | rfl)
    (case tak => first | k_is | rfl)
    (case moC => first | k_is | rfl)
    (case kC => first | k_is | rfl)
    (case rdD => first | k_is | rfl)
    (case gaD => first | k_is | rfl)
    (case inD => first | k_is | rfl)
    (case sTB => first | k_is | rfl)
    (case sPB => first | k_is | rfl)
    (case sPT => first | k_is | rfl)
    (case sPC => first | k_is | rfl)
    (case pB => first | k_is | rfl)
    (case pS => first | k_is | rfl)
    (case pDo => first | k_is | rfl)
    (case pL => first | k_is | rfl)
    (case uF => first | k_is | rfl)
    (case no_many => first | k_is | rfl)
    (case no_synced => first | k_is | rfl)
    (case no_texts => first | k_is | rfl)
    (case no_writes => first | k_is | rfl)
    (case no_left => first | k_is | rfl)
    (case no_dead => first | k_is | rfl)
