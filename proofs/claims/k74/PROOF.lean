import PyProof.Rows.All
import Wide.All
import OpenK.AllK
import Wide.FinOn
import HandS.ForMost
import HandS.ForExc
import HandS.Flow
import HandS.Style
import HandS.IsInst
import HandS.TupAny
import HandS.Deep
import HandS.RaiseMore
import HandS.Conv
import HandS.FStr
import HandS.Walk
import PyProof.Rows.StrCase
import HandS.Ends
import PySem.Challenge.RW_mayforget_k74_formulas_judged
import HandS.More
import HandS.Codes
set_option Elab.async false
set_option linter.all false
set_option maxRecDepth 100000
set_option maxHeartbeats 4000000
/-! My own small layer over the hand layer, part A: defs whose callers' repr guards are known to be empty; calls of them. -/
namespace G
open PySem PySem.Spec PyProof.Rows L2

/-- room for k calls, and no container is being shown -/
structure Rm (k : Nat) (A : Around) : Prop where
  room : Room k A
  gd : A.guards = some []
theorem Rm.mono {j k : Nat} {A : Around} (r : Rm k A) (h : j ≤ k) : Rm j A := ⟨r.room.mono h, r.gd⟩
theorem Rm.in_def {k : Nat} {A : Around} (r : Rm (k + 1) A) (env : Env) : Rm k (A.deeper env) := ⟨r.room.deeper env, r.gd⟩
theorem Rm.hu {k : Nat} {A : Around} (r : Rm k A) : A.units + 1 < cLine := hu_of r.room
theorem Rm.hu64 {k : Nat} {A : Around} (r : Rm k A) : A.units + 64 < cLine := r.room.units

section
variable (P : Program) (w : World) (K : PySem.W.Frag) (mg : Str → Option Value) (base : Heap)
/-- the def at f keeps sp, called where nothing is being shown -/
structure FnG (k : Nat) (f : Addr) (fd : FuncData) (ps : List Str) (sp : Sp) : Prop where
  arity : ∀ vs H Q E, sp vs H Q E → vs.length = ps.length
  go : ∀ (A : Around) (outer : List Env) (s : Shared) (H : Hp) (args : Args) (us : List Value) (vs : List V) (Q : VK) (E : XK), Rm k A →
    Env0 P w K mg base A outer s H → BindsTo s fd args (ps.zip us) → Vals vs us → sp vs H Q E →
    codeAny (model P w) A (.call (.ref f) args) (CR (L2.CX P w) outer P w H s Q E) s
/-- a def of the module, by its name -/
def Cal (k : Nat) (x : Str) (ps : List Str) (sp : Sp) : Prop :=
  ∃ f fd, FnG P w K mg base k f fd ps sp ∧ mg x = some (.ref f) ∧ PySem.W.keepIn K (.ref f) = true ∧ Binds K fd ps []
end
section
variable {P : Program} {w : World} {K : PySem.W.Frag} {mg : Str → Option Value} {base : Heap}
theorem FnG.up {j k : Nat} {f : Addr} {fd : FuncData} {ps : List Str} {sp : Sp} (F : FnG P w K mg base j f fd ps sp) (h : j ≤ k) : FnG P w K mg base k f fd ps sp :=
  ⟨F.arity, fun A outer s H args us vs Q E r => F.go A outer s H args us vs Q E (r.mono h)⟩
theorem FnG.weak {k : Nat} {f : Addr} {fd : FuncData} {ps : List Str} {sp sp' : Sp} (F : FnG P w K mg base k f fd ps sp) (h : ∀ vs H Q E, sp' vs H Q E → sp vs H Q E) : FnG P w K mg base k f fd ps sp' :=
  ⟨fun vs H Q E q => F.arity vs H Q E (h _ _ _ _ q), fun A outer s H args us vs Q E r e b v q => F.go A outer s H args us vs Q E r e b v (h _ _ _ _ q)⟩
theorem Cal.up {j k : Nat} {x : Str} {ps : List Str} {sp : Sp} (C : Cal P w K mg base j x ps sp) (h : j ≤ k) : Cal P w K mg base k x ps sp :=
  let ⟨f, fd, F, r⟩ := C
  ⟨f, fd, F.up h, r⟩
theorem Cal.weak {k : Nat} {x : Str} {ps : List Str} {sp sp' : Sp} (C : Cal P w K mg base k x ps sp) (h : ∀ vs H Q E, sp' vs H Q E → sp vs H Q E) : Cal P w K mg base k x ps sp' :=
  let ⟨f, fd, F, r⟩ := C
  ⟨f, fd, F.weak h, r⟩
end

section
variable {X : Cx} {k : Nat} {f C : Addr} {fd : FuncData} {ps ks : List Str} {sp : Sp} {E : XK} {x m : Str} {p pos apos : Pos} {e o : Expr} {es : List Expr} {kws : List Keyword} {ta : TE} {t tk : TA}
/-- the callee runs, its values bound as told -/
theorem fn_go {pins : List (Addr × Obj)} {σ : L2.St} {H : Hp} {s : Shared} {Q : VK} {us all : List Value} {kv : List (Str × Value)} {vs : List V} (F : FnG X.prog X.w X.K X.mg X.base k f fd ps sp) (r : Rm k X.A)
    (hb : BindsTo s fd ⟨us, kv⟩ (ps.zip all)) (hx : Passes (L2.CX X.prog X.w) X E) (I : Inv X pins σ H s) (rv : Vals vs all) (h : sp vs H Q E) :
    wpAny (model X.prog X.w) X.A (call (.ref f) us kv) (EP X pins σ Q) X.xe s := by
  have run := F.go X.A X.stack s H ⟨us, kv⟩ all vs Q E r I.env0 hb rv h
  refine wpAny_call (codeAny_mono run ?_)
  intro res s' hq
  match res, hq with
  | .error er, hq => exact hx pins σ H s er s' I hq
  | .ok (.ret u), hq => exact I.after hq
  | .ok .next, hq => exact hq.elim
  | .ok .brk, hq => exact hq.elim
  | .ok .cont, hq => exact hq.elim
/-- f(e, ..) -/
theorem g_call (Cf : Cal X.prog X.w X.K X.mg X.base k x ps sp) (r : Rm k X.A) (hg : Gl X x) (hx : Passes (L2.CX X.prog X.w) X E) (ha : PA X (e :: es) t) (hdb : (x == ("__debug__" : Str)) = false := by decide)
    (he : starEach (e :: es) X.env = (false, eval e X.env) :: starEach es X.env := by rfl) (hpl : (backTo pos (starEach es X.env)).any (·.1) = false := by rfl) :
    PE X (.Call (.Name x p) (e :: es) [] pos) (tCall sp [] E t) := by
  obtain ⟨f, fd, F, hm, hk, hb⟩ := Cf
  constructor
  intro pins s σ H Q I h
  apply wpAny_Call_Name_kw
  refine ld_glob I hg hm ?_ hdb
  refine PySem.W.callWith_K (h₀ := X.base) I.ok.mod.kin hk ?_ he hpl
  refine thn (ha.run pos pins s σ H _ I h) ?_
  rintro us s1 ⟨vs, H1, I1, rv, q⟩
  refine ⟨I1.kIn, ?_⟩
  rw [List.append_nil] at q
  have hl : us.length = ps.length := by rw [← rv.length]; exact F.arity _ _ _ _ q
  have hb' := hb s1 us I1.kIn (by rw [List.append_nil]; exact hl)
  rw [List.append_nil] at hb'
  exact fn_go F r hb' hx I1 rv q
/-- f() -/
theorem g_call0 (Cf : Cal X.prog X.w X.K X.mg X.base k x [] sp) (r : Rm k X.A) (hg : Gl X x) (hx : Passes (L2.CX X.prog X.w) X E) (hdb : (x == ("__debug__" : Str)) = false := by decide) :
    PE X (.Call (.Name x p) [] [] pos) (tCall sp [] E tNil) := by
  obtain ⟨f, fd, F, hm, hk, hb⟩ := Cf
  constructor
  intro pins s σ H Q I h
  apply wpAny_Call_Name_kw
  refine ld_glob I hg hm ?_ hdb
  have hb' := hb s [] I.kIn rfl
  exact PySem.W.callWith_K0 I.kIn hk (fn_go (us := []) (all := []) F r hb' hx I .nil h)
end

section
variable {P : Program} {w : World} {K : PySem.W.Frag} {mg : Str → Option Value} {base : Heap}
/-- a body, run once its frame is laid -/
theorem body_go {cdv : Value} {A : Around} {outer : List Env} {N : List Str} {qual : Str} {scope : Scope} {f : Addr} {sts : List Stmt} {s s1 : Shared} {H : Hp} {vs : List V} {Q : VK} {E : XK} {t : TS}
    (I : Inv (cxOf (L2.CX P w) P w K mg base N qual scope f cdv A outer s H E) [] (start N vs) H s1) (ht : PSs (cxOf (L2.CX P w) P w K mg base N qual scope f cdv A outer s H E) sts t)
    (hq : t { nx := fun _ H' => Q .non H', rt := Q } (start N vs) H) :
    wpAny (model P w) (A.deeper (envOfC qual scope s.heap.objs.size f cdv)) (execs sts (envOfC qual scope s.heap.objs.size f cdv))
      (fun fl s' => match fl with
        | .ret u => CE outer P w H s Q u s'
        | .next => CE outer P w H s Q .none s'
        | _ => False)
      (cxOf (L2.CX P w) P w K mg base N qual scope f cdv A outer s H E).xe s1 := by
  refine thn (ht.run [] s1 _ H _ I hq) ?_
  intro fl s' z
  have close : ∀ (σ' : L2.St) (H' : Hp) (v : V) (u : Value), Inv (cxOf (L2.CX P w) P w K mg base N qual scope f cdv A outer s H E) [] σ' H' s' → RelV v u → Q v H' → CE outer P w H s Q u s' := by
    intro σ' H' v u J rv q
    exact ⟨v, H', J.os, J.bare, J.base, J.hok, rv, q⟩
  match fl, z with
  | .ret u, ⟨v, σ', H', J, rv, q⟩ => exact close σ' H' v u J rv q
  | .next, ⟨σ', H', J, q⟩ => exact close σ' H' .non .none J rfl q
  | .brk, ⟨_, _, _, q⟩ => exact q
  | .cont, ⟨_, _, _, q⟩ => exact q
/-- THE RULE for a def of the text -/
theorem fnG_of {x qual : Str} {st : Stmt} {f : Addr} {fd : FuncData} {N ps : List Str} {k : Nat} {sp : Sp} (F : Fun K x qual st f fd) (S : FnScope N ps (defScope st)) (len : ∀ vs H Q E, sp vs H Q E → vs.length = ps.length)
    (body : ∀ (cdv : Value) (A : Around) (outer : List Env) (s : Shared) (H : Hp) (vs : List V) (Q : VK) (E : XK), Rm k (A.deeper (envOfC qual (defScope st) s.heap.objs.size f cdv)) → sp vs H Q E →
      ∃ t, PSs (cxOf (L2.CX P w) P w K mg base N qual (defScope st) f cdv A outer s H E) (defBody st) t ∧ t { nx := fun _ H' => Q .non H', rt := Q } (start N vs) H) :
    FnG P w K mg base (k + 1) f fd ps sp := by
  obtain ⟨oc, od, kV, doc, pm, an, cdv, ct, osl, rfl, lk, hcd⟩ := F.ex
  refine ⟨len, ?_⟩
  intro A outer s H args us vs Q E r e0 hb rv hsp
  have lv := len _ _ _ _ hsp
  have inK : K.In s.heap := e0.mod.kin.keeps (fun b o z => (e0.bs b o z).1)
  have nol : s.heap.NoLimit := e0.mod.nolimit.keeps (fun b o z => (e0.bs b o z).1)
  have kinds : ∀ y ∈ ps.zip us, (defScope st).names.lookup y.1 = some .local ∨
      ((defScope st).names.lookup y.1 = some .cell ∧ ((cellsFrom (s.heap.objs.size + 1) (defScope st).names []).lookup y.1).isSome = true) := by
    rintro ⟨n, v⟩ hy
    rcases S.par n (List.of_mem_zip hy).1 with q | q
    · exact Or.inl q
    · exact Or.inr ⟨q, PySem.W.cellsFrom_some _ _ _ (Or.inl q)⟩
  refine codeAny_call_function r.room.depth (inK _ _ lk) rfl S.co S.gen rfl (PySem.W.codeRec_of inK hcd) (hb _ _ _ _ ?_)
  refine wpAny_newFunctionEnv_cells S.kind kinds ?_
  intro env he s1 x
  subst he
  refine ⟨nol.keeps x.toInCall.keep, codeAny_func ?_⟩
  obtain ⟨t, ht, hq⟩ := body cdv A outer s H vs Q E (r.in_def _) hsp
  have I := inv_start (CX := L2.CX P w) (E := E) S r.room.hd e0 lv rv x
  refine wpAny_mono (body_go I ht hq) ?_ (fun _ _ z => z)
  intro fl s' z
  match fl, z with
  | .ret u, z => exact z
  | .next, z => exact z
  | .brk, z => exact z.elim
  | .cont, z => exact z.elim
end
end G
set_option maxHeartbeats 4000000
/-! Part R: plain data at any depth (with dicts of int and text keys), and repr of it. -/
namespace G
open PySem PySem.Spec PyProof.Rows L2
mutual
/-- v stands for the data d -/
inductive Dt (K : PySem.W.Frag) (H : Hp) : V → PyData → Prop
  | non : Dt K H .non .none
  | bl (b : Bool) : Dt K H (.bl b) (.bool b)
  | int (i : Int) : Dt K H (.int i) (.int i)
  | str (x : Str) : Dt K H (.str x) (.str x)
  | lst {a : Addr} {xs : List V} {ds : List PyData} : SqL K H a xs → DtL K H xs ds → Dt K H (.ref a) (.list ds)
  | tup {a : Addr} {xs : List V} {ds : List PyData} : SqT K H a xs → DtL K H xs ds → Dt K H (.ref a) (.tuple ds)
  | dic {a : Addr} {kvs : List (Key × V)} {ps : List (PyData × PyData)} : H a = some (.dK kvs) → DtL K H (kvs.map fun p => kV p.1) (ps.map (·.1)) → DtL K H (kvs.map (·.2)) (ps.map (·.2)) → Dt K H (.ref a) (.dict ps)
inductive DtL (K : PySem.W.Frag) (H : Hp) : List V → List PyData → Prop
  | nil : DtL K H [] []
  | cons {v : V} {vs : List V} {d : PyData} {ds : List PyData} : Dt K H v d → DtL K H vs ds → DtL K H (v :: vs) (d :: ds)
end
theorem DtL.length {K : PySem.W.Frag} {H : Hp} : ∀ {vs : List V} {ds : List PyData}, DtL K H vs ds → vs.length = ds.length
  | _, _, .nil => rfl
  | _, _, .cons _ t => by rw [List.length_cons, List.length_cons, t.length]
section
variable {K : PySem.W.Frag} {H H' : Hp}
mutual
theorem Dt.mono (m : Same H H') : ∀ {v : V} {d : PyData}, Dt K H v d → Dt K H' v d
  | _, _, .non => .non
  | _, _, .bl b => .bl b
  | _, _, .int i => .int i
  | _, _, .str x => .str x
  | _, _, .lst h t => .lst (m.seq h) (t.mono m)
  | _, _, .tup h t => .tup (by
      rcases h with (h | ⟨o, h⟩) | h
      · exact .inl (.inl (m _ _ h))
      · exact .inl (.inr ⟨o, m _ _ h⟩)
      · exact .inr h) (t.mono m)
  | _, _, .dic h t u => .dic (m _ _ h) (t.mono m) (u.mono m)
theorem DtL.mono (m : Same H H') : ∀ {vs : List V} {ds : List PyData}, DtL K H vs ds → DtL K H' vs ds
  | _, _, .nil => .nil
  | _, _, .cons h t => .cons (h.mono m) (t.mono m)
end
end
/-! ### what stands in the heap -/
section
variable {X : Cx} {pins : List (Addr × Obj)} {σ : L2.St} {H : Hp} {s : Shared}
theorem pairs_keys {P : Program} {w : World} : ∀ {es : List DictEntry} {vs : List (Key × Value)} {kvs : List (Key × V)}, PySem.Pairs (mixKind P w) es vs → KV kvs vs →
    Vals (kvs.map fun p => kV p.1) (es.map (·.key)) ∧ Vals (kvs.map (·.2)) (es.map (·.val))
  | _, _, _, .nil, .nil => ⟨.nil, .nil⟩
  | _, _, _, .cons (e := e) (kv := kv) hk hv t, .cons (a := p) r u => by
    obtain ⟨a, b⟩ := pairs_keys t u
    obtain ⟨e1, e2⟩ := r
    refine ⟨.cons ?_ a, .cons ?_ b⟩
    · show L2.RelV (kV p.1) e.key
      rw [e1]
      exact relV_key hk
    · show L2.RelV p.2 e.val
      rw [hv]
      exact e2
/-- a dict's object -/
theorem dict_obj {a : Addr} {kvs : List (Key × V)} (I : Inv X pins σ H s) (h : H a = some (.dK kvs)) : (a == sysModules) = false ∧ ∃ (o : Obj) (es : Array DictEntry) (n : Nat), s.heap.get? a = some o ∧ o.cls = .type "dict" ∧ o.data = .dict es n ∧
    Vals (kvs.map fun p => kV p.1) (es.toList.map (·.key)) ∧ Vals (kvs.map (·.2)) (es.toList.map (·.val)) := by
  obtain ⟨_, low, vs, rv, o, es, ep, e1, e2, e3, _, e5, _⟩ := (show ObjOk X.prog X.w H s.heap a (.dK kvs) from I.hok a _ h)
  obtain ⟨a, b⟩ := pairs_keys e5 rv
  exact ⟨low, o, es, ep, e1, e2.1, e3, a, b⟩
/-- what is to be known of a value for it to be shown -/
def Sh (X : Cx) (h : Heap) (u : Value) (d : PyData) : Prop := ∃ bs, ReadAtMost h d.depth bs ∧ ReprK X.prog X.w bs h d.depth u d.shown
def ShL (X : Cx) (h : Heap) (us : List Value) (ds : List PyData) : Prop := ∃ bs, ReadAtMost h (PyData.depthAll ds) bs ∧ ReprAllK X.prog X.w bs h (PyData.depthAll ds) us (PyData.shownAll ds)
theorem sh_list {h : Heap} {a : Addr} {o : Obj} {its : List Value} {n : Nat} {ds : List PyData} {as : List Addr} (e1 : h.get? a = some o) (e2 : o.cls = .type "list") (e3 : o.data = .seq its.toArray n) (hr : ReadsAll h its ds as)
    (hs : ShL X h its ds) : Sh X h (.ref a) (.list ds) := by
  obtain ⟨bs, hb, hk⟩ := hs
  have r : Reads h (.ref a) (.list ds) _ := .list e1 e2 e3 hr
  have na : a ∉ bs := not_mem_of_deeper r (by simp only [PyData.depth]; omega) hb
  refine ⟨a :: bs, ReadAtMost.cons r (by simp only [PyData.depth]; omega) hb, ?_⟩
  simp only [PyData.depth, PyData.shown]
  cases its with
  | nil =>
    cases hr
    simp only [PyData.shownAll, listText_nil]
    exact ReprK.listEmpty e1 e2 e3
  | cons x l =>
    refine ReprK.list e1 e2 e3 na ?_ ?_
    · have z := hk.length_eq
      simpa using z
    · intro i y q
      exact hk.item i y (by simpa using q)
theorem sh_tup {h : Heap} {a : Addr} {o : Obj} {its : List Value} {n : Nat} {ds : List PyData} {as : List Addr} (e1 : h.get? a = some o) (e2 : o.cls = .type "tuple") (e3 : o.data = .seq its.toArray n) (hr : ReadsAll h its ds as)
    (hs : ShL X h its ds) : Sh X h (.ref a) (.tuple ds) := by
  obtain ⟨bs, hb, hk⟩ := hs
  have r : Reads h (.ref a) (.tuple ds) _ := .tuple e1 e2 e3 hr
  have na : a ∉ bs := not_mem_of_deeper r (by simp only [PyData.depth]; omega) hb
  refine ⟨a :: bs, ReadAtMost.cons r (by simp only [PyData.depth]; omega) hb, ?_⟩
  simp only [PyData.depth, PyData.shown]
  exact ReprK.tuple e1 e2 e3 na hk
theorem sh_dict {h : Heap} {a : Addr} {o : Obj} {es : Array DictEntry} {n : Nat} {ps : List (PyData × PyData)} {as bs : List Addr} (low : (a == sysModules) = false) (e1 : h.get? a = some o) (e2 : o.cls = .type "dict") (e3 : o.data = .dict es n)
    (h1 : ReadsAll h (es.toList.map (·.key)) (ps.map (·.1)) as) (h2 : ReadsAll h (es.toList.map (·.val)) (ps.map (·.2)) bs)
    (s1 : ShL X h (es.toList.map (·.key)) (ps.map (·.1))) (s2 : ShL X h (es.toList.map (·.val)) (ps.map (·.2))) : Sh X h (.ref a) (.dict ps) := by
  obtain ⟨b1, hb1, k1⟩ := s1
  obtain ⟨b2, hb2, k2⟩ := s2
  have r : Reads h (.ref a) (.dict ps) _ := .dict e1 e2 e3 h1 h2
  have hb : ReadAtMost h (PyData.depthKv ps) (b1 ++ b2) := (hb1.mono (PyData.depthAll_keys_le ps)).append (hb2.mono (PyData.depthAll_vals_le ps))
  have na : a ∉ b1 ++ b2 := not_mem_of_deeper r (by simp only [PyData.depth]; omega) hb
  refine ⟨a :: (b1 ++ b2), ReadAtMost.cons r (by simp only [PyData.depth]; omega) hb, ?_⟩
  simp only [PyData.depth, PyData.shown, PyData.shownKv_eq]
  refine ReprK.dict e1 e2 e3 low na (ReprEntriesK.of_two es.toList _ _ ?_ ?_)
  · exact k1.more_le (fun b z => List.mem_append_left _ z) (PyData.depthAll_keys_le ps)
  · exact k2.more_le (fun b z => List.mem_append_right _ z) (PyData.depthAll_vals_le ps)
mutual
/-- data whose ints are short enough to be shown, and whose texts are short enough -/
def fits : PyData → Bool
  | .none => true
  | .bool _ => true
  | .int i => decide (i.natAbs.log2 < 1920)
  | .str x => decide ((reprText x).length ≤ sizeLine)
  | .list ds => fitsL ds
  | .tuple ds => fitsL ds
  | .dict ps => fitsP ps
def fitsL : List PyData → Bool
  | [] => true
  | d :: ds => fits d && fitsL ds
def fitsP : List (PyData × PyData) → Bool
  | [] => true
  | (a, b) :: ps => (fits a && fits b) && fitsP ps
end
theorem fitsP_eq : ∀ ps : List (PyData × PyData), fitsP ps = true → fitsL (ps.map (·.1)) = true ∧ fitsL (ps.map (·.2)) = true
  | [], _ => ⟨by simp [fitsL], by simp [fitsL]⟩
  | (a, b) :: ps, h => by
    simp only [fitsP, Bool.and_eq_true] at h
    obtain ⟨⟨h1, h2⟩, h3⟩ := h
    obtain ⟨i1, i2⟩ := fitsP_eq ps h3
    simp only [List.map_cons, fitsL, Bool.and_eq_true]
    exact ⟨⟨h1, i1⟩, h2, i2⟩
mutual
theorem Dt.look (I : Inv X pins σ H s) : ∀ {v : V} {d : PyData}, Dt X.K H v d → ∀ {u : Value}, RelV v u → (∃ as, Reads s.heap u d as) ∧ (fits d = true → Sh X s.heap u d)
  | _, _, .non, u, r => by
    cases r
    exact ⟨⟨_, .none⟩, fun _ => ⟨[], (fun _ z => nomatch z), by simp only [PyData.shown]; exact .of_is ReprIs.none _ _ _⟩⟩
  | _, _, .bl b, u, r => by
    cases r
    exact ⟨⟨_, .bool b⟩, fun _ => ⟨[], (fun _ z => nomatch z), by simp only [PyData.shown]; exact .of_is (ReprIs.bool b) _ _ _⟩⟩
  | _, _, .int i, u, r => by
    obtain ⟨t, rfl⟩ := r
    refine ⟨⟨_, .int i t⟩, fun z => ⟨[], (fun _ z => nomatch z), ?_⟩⟩
    simp only [PyData.shown]
    exact .of_is (ReprIs.int t (by simpa [fits] using z)) _ _ _
  | _, _, .str x, u, r => by
    obtain ⟨t, rfl⟩ := r
    refine ⟨⟨_, .str x t⟩, fun z => ⟨[], (fun _ z => nomatch z), ?_⟩⟩
    simp only [PyData.shown]
    exact .of_is (ReprIs.str x t (by simpa [fits] using z)) _ _ _
  | _, _, .lst (ds := ds) hq hs, u, r => by
    cases r
    obtain ⟨its, rv, ⟨o, n, e1, e2, _, e3⟩, _⟩ := I.list hq
    obtain ⟨⟨as, hr⟩, sh⟩ := DtL.look I hs rv
    exact ⟨⟨_, .list e1 e2 e3 hr⟩, fun z => sh_list e1 e2 e3 hr (sh (by simpa [fits] using z))⟩
  | _, _, .tup (ds := ds) hq hs, u, r => by
    cases r
    obtain ⟨its, rv, ⟨o, e1, e2, n, e3⟩, _⟩ := I.tuple hq
    obtain ⟨⟨as, hr⟩, sh⟩ := DtL.look I hs rv
    exact ⟨⟨_, .tuple e1 e2 e3 hr⟩, fun z => sh_tup e1 e2 e3 hr (sh (by simpa [fits] using z))⟩
  | _, _, .dic (ps := ps) hq hk hv, u, r => by
    cases r
    obtain ⟨low, o, es, n, e1, e2, e3, r1, r2⟩ := dict_obj I hq
    obtain ⟨⟨as, h1⟩, s1⟩ := DtL.look I hk r1
    obtain ⟨⟨bs, h2⟩, s2⟩ := DtL.look I hv r2
    refine ⟨⟨_, .dict e1 e2 e3 h1 h2⟩, fun z => ?_⟩
    obtain ⟨z1, z2⟩ := fitsP_eq ps (by simpa [fits] using z)
    exact sh_dict low e1 e2 e3 h1 h2 (s1 z1) (s2 z2)
theorem DtL.look (I : Inv X pins σ H s) : ∀ {vs : List V} {ds : List PyData}, DtL X.K H vs ds → ∀ {us : List Value}, Vals vs us → (∃ as, ReadsAll s.heap us ds as) ∧ (fitsL ds = true → ShL X s.heap us ds)
  | _, _, .nil, us, r => by
    cases r
    exact ⟨⟨_, .nil⟩, fun _ => ⟨[], (fun _ z => nomatch z), by simp only [PyData.shownAll]; exact .nil⟩⟩
  | _, _, .cons (d := d) (ds := ds) h t, us, r => by
    cases r with
    | cons r1 r2 =>
      obtain ⟨⟨as, q1⟩, z1⟩ := Dt.look I h r1
      obtain ⟨⟨bs, q2⟩, z2⟩ := DtL.look I t r2
      refine ⟨⟨_, .cons q1 q2⟩, fun z => ?_⟩
      simp only [fitsL, Bool.and_eq_true] at z
      obtain ⟨b1, hb1, k1⟩ := z1 z.1
      obtain ⟨b2, hb2, k2⟩ := z2 z.2
      refine ⟨b1 ++ b2, ?_, ?_⟩
      · intro b hm
        simp only [PyData.depthAll]
        rcases List.mem_append.mp hm with hm | hm
        · obtain ⟨d', as', r', hd'⟩ := hb1 b hm
          exact ⟨d', as', r', Nat.le_trans hd' (Nat.le_max_left _ _)⟩
        · obtain ⟨d', as', r', hd'⟩ := hb2 b hm
          exact ⟨d', as', r', Nat.le_trans hd' (Nat.le_max_right _ _)⟩
      · simp only [PyData.depthAll, PyData.shownAll]
        refine .cons ((k1.more fun b z => List.mem_append_left _ z).level_le (Nat.le_max_left _ _)) ?_
        exact k2.more_le (fun b z => List.mem_append_right _ z) (Nat.le_max_right _ _)
end
end
/-- repr(x), x data: its text -/
def rRepr (K : PySem.W.Frag) : List V → Hp → VK → Prop := fun xs H Q => ∃ v d, xs = [v] ∧ Dt K H v d ∧ fits d = true ∧ d.shown.length ≤ sizeLine ∧ d.depth ≤ 60 ∧ Q (.str d.shown) H
theorem call_repr {X : Cx} {k : Nat} (r : Rm k X.A) : CallR X (.builtin "repr") (rRepr X.K) := by
  intro pins s σ H xs us Q I rv h
  obtain ⟨v, d, rfl, hd, hf, hz, h60, q⟩ := h
  obtain ⟨u, rfl, ru⟩ := vals1 rv
  have hu := r.hu64
  cases hd with
  | non =>
    cases ru
    exact PySem.P.repr_of_none ⟨.str _, H, I.tok _, ⟨_, rfl⟩, by simpa [PyData.shown] using q⟩
  | bl b =>
    cases ru
    exact PySem.P.repr_of_bool ⟨.str _, H, I.tok _, ⟨_, rfl⟩, by simpa [PyData.shown] using q⟩
  | int i =>
    obtain ⟨t, rfl⟩ := ru
    exact PySem.P.repr_of_int (by simpa [fits] using hf) ⟨.str _, H, I.tok _, ⟨_, rfl⟩, by simpa [PyData.shown] using q⟩
  | str x =>
    obtain ⟨t, rfl⟩ := ru
    exact PySem.P.repr_of_str ⟨.str _, H, I.tok _, ⟨_, rfl⟩, by simpa [PyData.shown] using q⟩ (by simpa [fits] using hf)
  | lst hq hs =>
    rename_i a xs ds
    cases ru
    obtain ⟨its, rv, ⟨o, n, e1, e2, _, e3⟩, _⟩ := I.list hq
    obtain ⟨⟨as, hr⟩, sl⟩ := DtL.look I hs rv
    obtain ⟨bs, hb, hk⟩ := sl (by simpa [fits] using hf)
    have na : a ∉ bs := not_mem_of_deeper (.list e1 e2 e3 hr) (by simp only [PyData.depth]; omega) hb
    simp only [PyData.depth] at h60
    simp only [PyData.shown] at q hz
    refine call_repr_slot (by omega) ⟨o, e1, e2⟩ F.slot_list_repr.toG ?_
    cases its with
    | nil =>
      cases hr
      simp only [PyData.shownAll, listText_nil] at q
      exact call_list_repr_empty ⟨o, e1, e2⟩ e1 e3 ⟨_, _, rfl, .str _, H, I.kept fun _ _ z => z, ⟨_, rfl⟩, q⟩
    | cons x l =>
      refine call_list_reprK e1 e2 e3 na (by have z := hk.length_eq; simpa using z) (fun i y z => hk.item i y (by simpa using z)) r.gd (fun b _ => Clear.nil b) ?_ (fun _ _ z => z) ?_ hz
      · show X.A.units + 1 + _ < cLine
        omega
      · intro h' u tk kp
        exact ⟨_, _, rfl, .str _, H, I.kept kp, ⟨_, rfl⟩, q⟩
  | tup hq hs =>
    rename_i a xs ds
    cases ru
    obtain ⟨its, rv, ⟨o, e1, e2, n, e3⟩, _⟩ := I.tuple hq
    obtain ⟨⟨as, hr⟩, sl⟩ := DtL.look I hs rv
    obtain ⟨bs, hb, hk⟩ := sl (by simpa [fits] using hf)
    have na : a ∉ bs := not_mem_of_deeper (.tuple e1 e2 e3 hr) (by simp only [PyData.depth]; omega) hb
    simp only [PyData.depth] at h60
    simp only [PyData.shown] at q hz
    refine call_repr_slot (by omega) ⟨o, e1, e2⟩ F.slot_tuple_repr ?_
    refine call_tuple_reprK e1 e2 e3 na hk r.gd (fun b _ => Clear.nil b) ?_ (fun _ _ z => z) ?_ hz
    · show X.A.units + 1 + _ < cLine
      omega
    · intro h' u tk kp
      exact ⟨_, _, rfl, .str _, H, I.kept kp, ⟨_, rfl⟩, q⟩
  | dic hq h1 h2 =>
    rename_i a kvs ps
    cases ru
    obtain ⟨low, o, es, n, e1, e2, e3, r1, r2⟩ := dict_obj I hq
    obtain ⟨⟨as, q1⟩, s1⟩ := DtL.look I h1 r1
    obtain ⟨⟨bs, q2⟩, s2⟩ := DtL.look I h2 r2
    obtain ⟨z1, z2⟩ := fitsP_eq ps (by simpa [fits] using hf)
    obtain ⟨b1, hb1, k1⟩ := s1 z1
    obtain ⟨b2, hb2, k2⟩ := s2 z2
    have hb : ReadAtMost s.heap (PyData.depthKv ps) (b1 ++ b2) := (hb1.mono (PyData.depthAll_keys_le ps)).append (hb2.mono (PyData.depthAll_vals_le ps))
    have na : a ∉ b1 ++ b2 := not_mem_of_deeper (.dict e1 e2 e3 q1 q2) (by simp only [PyData.depth]; omega) hb
    simp only [PyData.depth] at h60
    simp only [PyData.shown, PyData.shownKv_eq] at q hz
    refine call_repr_slot (by omega) ⟨o, e1, e2⟩ F.slot_dict_repr ?_
    refine call_dict_reprK e1 e2 e3 low na (ReprEntriesK.of_two es.toList _ _ (k1.more_le (fun b z => List.mem_append_left _ z) (PyData.depthAll_keys_le ps)) (k2.more_le (fun b z => List.mem_append_right _ z) (PyData.depthAll_vals_le ps)))
      r.gd (fun b _ => Clear.nil b) ?_ (fun _ _ z => z) ?_ hz
    · show X.A.units + 1 + _ < cLine
      omega
    · intro h' u tk kp
      exact ⟨_, _, rfl, .str _, H, I.kept kp, ⟨_, rfl⟩, q⟩
end G
set_option maxHeartbeats 4000000
/-! Part B: operators for several kinds of values at once, and what is owned of the heap. -/
namespace G
open PySem PySem.Spec PyProof.Rows L2
/-! ### the heap in two parts: G, which stays, and L, which is ours to change -/
structure Own (G H : Hp) (L : List (Addr × HO)) : Prop where
  sub : Same G H
  has : ∀ p ∈ L, H p.1 = some p.2 ∧ G p.1 = none
  nd : (L.map (·.1)).Nodup
section
variable {G H : Hp} {L R : List (Addr × HO)} {p q r t : Addr} {o o' u v z : HO}
theorem Own.at0 (O : Own G H ((p, o) :: R)) : H p = some o := (O.has (p, o) (by simp)).1
theorem Own.at1 (O : Own G H ((q, u) :: (p, o) :: R)) : H p = some o := (O.has (p, o) (by simp)).1
theorem Own.at2 (O : Own G H ((q, u) :: (r, v) :: (p, o) :: R)) : H p = some o := (O.has (p, o) (by simp)).1
theorem Own.at3 (O : Own G H ((q, u) :: (r, v) :: (t, z) :: (p, o) :: R)) : H p = some o := (O.has (p, o) (by simp)).1
theorem Own.no0 (O : Own G H ((p, o) :: R)) : G p = none := (O.has (p, o) (by simp)).2
theorem Own.no1 (O : Own G H ((q, u) :: (p, o) :: R)) : G p = none := (O.has (p, o) (by simp)).2
theorem Own.tail (O : Own G H ((p, o) :: R)) : Own G H R := ⟨O.sub, fun x hx => O.has x (List.mem_cons_of_mem _ hx), (List.nodup_cons.mp (by simpa using O.nd)).2⟩
theorem Own.perm (O : Own G H L) (h : L.Perm R) : Own G H R := ⟨O.sub, fun x hx => O.has x (h.symm.mem_iff.mp hx), (h.map _).nodup_iff.mp O.nd⟩
theorem Own.swap {a b : Addr × HO} (O : Own G H (a :: b :: R)) : Own G H (b :: a :: R) := O.perm (List.Perm.swap b a R)
/-- the third to the front -/
theorem Own.rot3 {a b c : Addr × HO} (O : Own G H (a :: b :: c :: R)) : Own G H (c :: a :: b :: R) :=
  O.perm ((List.Perm.cons a (List.Perm.swap c b R)).trans (List.Perm.swap c a (b :: R)))
theorem Own.upd0 (O : Own G H ((p, o) :: R)) : Own G (upd H p o') ((p, o') :: R) := by
  have np := O.no0
  have nd := List.nodup_cons.mp (show (p :: R.map (·.1)).Nodup by simpa using O.nd)
  refine ⟨fun a w e => ?_, fun x hx => ?_, by simpa using O.nd⟩
  · rw [upd_ne (fun z => by rw [z, np] at e; cases e)]
    exact O.sub a w e
  · rcases List.mem_cons.mp hx with rfl | hx
    · exact ⟨upd_same, np⟩
    · have h := O.has x (List.mem_cons_of_mem _ hx)
      have ne : x.1 ≠ p := fun z => nd.1 (by rw [← z]; exact List.mem_map_of_mem hx)
      exact ⟨by rw [upd_ne ne]; exact h.1, h.2⟩
theorem Own.upd1 {a : Addr × HO} (O : Own G H (a :: (p, o) :: R)) : Own G (upd H p o') (a :: (p, o') :: R) := (O.swap.upd0 (o' := o')).swap
theorem Own.upd2 {a b : Addr × HO} (O : Own G H (a :: b :: (p, o) :: R)) : Own G (upd H p o') (a :: b :: (p, o') :: R) := by
  have z := O.rot3.upd0 (o' := o')
  exact z.perm (((List.Perm.cons a (List.Perm.swap (p, o') b R)).trans (List.Perm.swap (p, o') a (b :: R))).symm)
theorem Own.free (O : Own G H L) (h : H p = none) : G p = none := O.sub.free h
theorem Own.notin (O : Own G H L) (h : H p = none) : p ∉ L.map (·.1) := fun m => by
  obtain ⟨x, hx, e⟩ := List.mem_map.mp m
  have z := (O.has x hx).1
  rw [e, h] at z
  cases z
/-- a new object, ours -/
theorem Own.new (O : Own G H L) (h : H p = none) : Own G (upd H p o) ((p, o) :: L) := by
  refine ⟨fun a w e => ?_, fun x hx => ?_, ?_⟩
  · rw [upd_ne (ne_of_none (O.sub a w e) h)]
    exact O.sub a w e
  · rcases List.mem_cons.mp hx with rfl | hx
    · exact ⟨upd_same, O.free h⟩
    · have z := O.has x hx
      exact ⟨by rw [upd_ne (ne_of_none z.1 h)]; exact z.1, z.2⟩
  · rw [List.map_cons]
    exact List.nodup_cons.mpr ⟨O.notin h, O.nd⟩
theorem Own.new1 {a : Addr × HO} (O : Own G H (a :: R)) (h : H p = none) : Own G (upd H p o) (a :: (p, o) :: R) := (O.new h).swap
/-- a new object that stays -/
theorem Own.fix (O : Own G H L) (h : H p = none) : Own (upd G p o) (upd H p o) L := by
  refine ⟨fun a w e => ?_, fun x hx => ?_, O.nd⟩
  · by_cases ha : a = p
    · subst ha
      rw [upd_same] at e ⊢
      exact e
    · rw [upd_ne ha] at e ⊢
      exact O.sub a w e
  · have z := O.has x hx
    have ne := ne_of_none z.1 h
    exact ⟨by rw [upd_ne ne]; exact z.1, by rw [upd_ne ne]; exact z.2⟩
theorem Same.new {G : Hp} {p : Addr} {o : HO} (h : G p = none) : Same G (upd G p o) := fun a w e => by
  rw [upd_ne (ne_of_none e h)]
  exact e
/-- what was ours stays from now on -/
theorem Own.frz0 (O : Own G H ((p, o) :: R)) : Own (upd G p o) H R := by
  have nd := List.nodup_cons.mp (show (p :: R.map (·.1)).Nodup by simpa using O.nd)
  refine ⟨fun a w e => ?_, fun x hx => ?_, nd.2⟩
  · by_cases ha : a = p
    · subst ha
      rw [upd_same] at e
      rw [← e]
      exact O.at0
    · rw [upd_ne ha] at e
      exact O.sub a w e
  · have z := O.has x (List.mem_cons_of_mem _ hx)
    have ne : x.1 ≠ p := fun e => nd.1 (by rw [← e]; exact List.mem_map_of_mem hx)
    exact ⟨z.1, by rw [upd_ne ne]; exact z.2⟩
theorem Own.frz1 {a : Addr × HO} (O : Own G H (a :: (p, o) :: R)) : Own (upd G p o) H (a :: R) := O.swap.frz0
theorem Own.seq {K : PySem.W.Frag} {a : Addr} {xs : List V} (O : Own G H L) (h : SqL K G a xs) : SqL K H a xs := O.sub.seq h
theorem same_t {K : PySem.W.Frag} {a : Addr} {xs : List V} (m : Same G H) (h : SqT K G a xs) : SqT K H a xs := by
  rcases h with (h | ⟨o, h⟩) | h
  · exact .inl (.inl (m _ _ h))
  · exact .inl (.inr ⟨o, m _ _ h⟩)
  · exact .inr h
theorem Own.set {K : PySem.W.Frag} {a : Addr} {xs : List V} (O : Own G H L) (h : SqT K G a xs) : SqT K H a xs := same_t O.sub h
theorem Own.dt {K : PySem.W.Frag} {v : V} {d : PyData} (O : Own G H L) (h : Dt K G v d) : Dt K H v d := h.mono O.sub
end
/-! ### new and changed objects, said so that what follows stays apart -/
def nw (o : HO) (H : Hp) (Q : VK) : Prop := ∀ p, H p = none → Q (.ref p) (upd H p o)
def md (p : Addr) (o : HO) (H : Hp) (S : Hp → Prop) : Prop := S (upd H p o)
section
variable {G H : Hp} {L R : List (Addr × HO)} {p : Addr} {o o' : HO} {Q : VK} {S : Hp → Prop}
/-- a new object, ours, the first -/
theorem x_new (O : Own G H L) (k : ∀ p H', Own G H' ((p, o) :: L) → Q (.ref p) H') : nw o H Q := fun p hp => k p _ (O.new hp)
/-- .. the second -/
theorem x_new1 {a : Addr × HO} (O : Own G H (a :: R)) (k : ∀ p H', Own G H' (a :: (p, o) :: R) → Q (.ref p) H') : nw o H Q := fun p hp => k p _ (O.new1 hp)
/-- a new object that stays -/
theorem x_fix (O : Own G H L) (k : ∀ p G' H', Same G G' → Own G' H' L → G' p = some o → Q (.ref p) H') : nw o H Q := fun p hp => k p _ _ (Same.new (O.free hp)) (O.fix hp) upd_same
theorem x_md0 (O : Own G H ((p, o) :: R)) (k : ∀ H', Own G H' ((p, o') :: R) → S H') : md p o' H S := k _ O.upd0
theorem x_md1 {a : Addr × HO} (O : Own G H (a :: (p, o) :: R)) (k : ∀ H', Own G H' (a :: (p, o') :: R) → S H') : md p o' H S := k _ O.upd1
theorem x_md2 {a b : Addr × HO} (O : Own G H (a :: b :: (p, o) :: R)) (k : ∀ H', Own G H' (a :: b :: (p, o') :: R) → S H') : md p o' H S := k _ O.upd2
end
/-! ### operators by the kind of what they meet -/
section
variable {X : Cx} {k : Nat}
def aAdd (K : PySem.W.Frag) : R2 := fun x y H Q => rI0 (fun i j => .int (i + j)) x y H Q ∨ (∃ i j, x = .str i ∧ y = .str j ∧ i.length + j.length ≤ sizeLine ∧ Q (.str (i ++ j)) H) ∨
  rCat x y H Q ∨ rCatA K x y H Q
theorem oAdd : OpR X (binaryOp .Add) (aAdd X.K) := op_add.or (op_add_str.or (op_cat.or op_catA))
def aMul : R2 := fun x y H Q => rI CMul (fun i j => .int (i * j)) x y H Q ∨ rRep x y H Q
theorem oMul : OpR X (binaryOp .Mult) aMul := op_mul.or op_rep
def aEqT (K : PySem.W.Frag) : R2 := fun x y H Q => ∃ d e, Dt K H x d ∧ Dt K H y e ∧ SeqAt.shaped d = true ∧ SeqAt.shaped e = true ∧ Q (.bl (PyData.eqv d e)) H
def aNeT (K : PySem.W.Frag) : R2 := fun x y H Q => ∃ d e, Dt K H x d ∧ Dt K H y e ∧ SeqAt.shaped d = true ∧ SeqAt.shaped e = true ∧ Q (.bl (!PyData.eqv d e)) H
theorem oEqT (r : Rm k X.A) : OpR X (compareOp .Eq) (aEqT X.K) := by
  intro pins s σ H x y v u Q I rx ry h
  obtain ⟨d, e, hd, he, sd, se, q⟩ := h
  obtain ⟨⟨as, r1⟩, _⟩ := hd.look I rx
  obtain ⟨⟨bs, r2⟩, _⟩ := he.look I ry
  exact SeqAt.compareEq_shaped r1 r2 sd se r.hu64 ⟨.bl _, H, I, rfl, q⟩
theorem oNeT (r : Rm k X.A) : OpR X (compareOp .NotEq) (aNeT X.K) := by
  intro pins s σ H x y v u Q I rx ry h
  obtain ⟨d, e, hd, he, sd, se, q⟩ := h
  obtain ⟨⟨as, r1⟩, _⟩ := hd.look I rx
  obtain ⟨⟨bs, r2⟩, _⟩ := he.look I ry
  exact SeqAt.compareNe_shaped r1 r2 sd se r.hu64 ⟨.bl _, H, I, rfl, q⟩
/-- a list and the empty list -/
def aEqN (K : PySem.W.Frag) : R2 := fun x y H Q => ∃ p q xs, x = .ref p ∧ y = .ref q ∧ SqL K H p xs ∧ SqL K H q [] ∧ Q (.bl xs.isEmpty) H
def aNeN (K : PySem.W.Frag) : R2 := fun x y H Q => ∃ p q xs, x = .ref p ∧ y = .ref q ∧ SqL K H p xs ∧ SqL K H q [] ∧ Q (.bl (!xs.isEmpty)) H
theorem oEqN (r : Rm k X.A) : OpR X (compareOp .Eq) (aEqN X.K) := by
  intro pins s σ H x y v u Q I rx ry h
  obtain ⟨p, q, xs, rfl, rfl, hp, hq, z⟩ := h
  cases rx
  cases ry
  obtain ⟨its, r1, p1, _⟩ := I.list hp
  obtain ⟨jts, r2, p2, _⟩ := I.list hq
  obtain rfl : jts = [] := by cases r2; rfl
  have l1 := r1.length
  cases xs with
  | nil =>
    obtain rfl : its = [] := by cases r1; rfl
    exact SeqAt.eq_listAt (e := fun _ => true) p1.isList p2.isList rfl (Nat.lt_of_succ_lt r.hu) (fun j h1 _ => absurd h1 (Nat.not_lt_zero _)) ⟨.bl _, H, I, rfl, z⟩
  | cons a xs =>
    cases its with
    | nil => cases l1
    | cons b its => exact SeqAt.eq_list_lengthsAt p1.isList p2.isList (by simp) (Nat.lt_of_succ_lt r.hu) ⟨.bl _, H, I, rfl, z⟩
theorem oNeN (r : Rm k X.A) : OpR X (compareOp .NotEq) (aNeN X.K) := by
  intro pins s σ H x y v u Q I rx ry h
  obtain ⟨p, q, xs, rfl, rfl, hp, hq, z⟩ := h
  cases rx
  cases ry
  obtain ⟨its, r1, p1, _⟩ := I.list hp
  obtain ⟨jts, r2, p2, _⟩ := I.list hq
  obtain rfl : jts = [] := by cases r2; rfl
  have l1 := r1.length
  cases xs with
  | nil =>
    obtain rfl : its = [] := by cases r1; rfl
    exact SeqAt.RcNeAt.lists (e := fun _ => true) p1.isList p2.isList rfl (Nat.lt_of_succ_lt r.hu) (fun j h1 _ => absurd h1 (Nat.not_lt_zero _)) _ _ _ _ ⟨.bl _, H, I, rfl, z⟩
  | cons a xs =>
    cases its with
    | nil => cases l1
    | cons b its => exact SeqAt.RcNeAt.lists_lengths p1.isList p2.isList (by simp) (Nat.lt_of_succ_lt r.hu) _ _ _ _ ⟨.bl _, H, I, rfl, z⟩
def aEq (K : PySem.W.Frag) : R2 := fun x y H Q => rEq x y H Q ∨ aEqT K x y H Q ∨ aEqN K x y H Q
def aNe (K : PySem.W.Frag) : R2 := fun x y H Q => rNe x y H Q ∨ aNeT K x y H Q ∨ aNeN K x y H Q
theorem oEq (r : Rm k X.A) : OpR X (compareOp .Eq) (aEq X.K) := op_eq.or ((oEqT r).or (oEqN r))
theorem oNe (r : Rm k X.A) : OpR X (compareOp .NotEq) (aNe X.K) := op_ne.or ((oNeT r).or (oNeN r))
def aLt : R2 := fun x y H Q => rI0 (fun i j => .bl (decide (i < j))) x y H Q ∨ ∃ i j, x = .str i ∧ y = .str j ∧ Q (.bl (decide (i.cps.toList < j.cps.toList))) H
def aLe : R2 := fun x y H Q => rI0 (fun i j => .bl (decide (i ≤ j))) x y H Q ∨ ∃ i j, x = .str i ∧ y = .str j ∧ Q (.bl (!decide (j.cps.toList < i.cps.toList))) H
def aGt : R2 := fun x y H Q => rI0 (fun i j => .bl (decide (j < i))) x y H Q ∨ ∃ i j, x = .str i ∧ y = .str j ∧ Q (.bl (decide (j.cps.toList < i.cps.toList))) H
def aGe : R2 := fun x y H Q => rI0 (fun i j => .bl (decide (j ≤ i))) x y H Q ∨ ∃ i j, x = .str i ∧ y = .str j ∧ Q (.bl (!decide (i.cps.toList < j.cps.toList))) H
theorem oLt : OpR X (compareOp .Lt) aLt := op_lt.or op_lt_str
theorem oLe : OpR X (compareOp .LtE) aLe := op_le.or op_le_str
theorem oGt : OpR X (compareOp .Gt) aGt := op_gt.or op_gt_str
theorem oGe : OpR X (compareOp .GtE) aGe := op_ge.or op_ge_str
/-- x in y: a list or tuple of flat items -/
theorem oIn : OpR X (compareOp .In) (rIn X.K false) := op_in_seq
theorem oNin : OpR X (compareOp .NotIn) (rIn X.K true) := op_notIn_seq
abbrev aSub : R2 := rI0 fun i j => .int (i - j)
abbrev aMod : R2 := rI (fun _ j => j ≠ 0) fun i j => .int (i.fmod j)
abbrev aFdv : R2 := rI CDivN fun i j => .int (i.fdiv j)
abbrev aPow : R2 := rI CPow fun i j => .int (i ^ j.toNat)
/-- x is y, of None or bools -/
def aIs : R2 := fun x y H Q => (y = .non ∧ Q (.bl (decide (x = .non))) H) ∨ rIsB x y H Q
def aIsn : R2 := fun x y H Q => (y = .non ∧ Q (.bl (!decide (x = .non))) H) ∨ rNotB x y H Q
theorem oIs : OpR X (compareOp .Is) aIs := op_isN.or op_isBl
theorem oIsn : OpR X (compareOp .IsNot) aIsn := op_notN.or op_notBl
def aSl (K : PySem.W.Frag) : V → Option Int → Option Int → Hp → VK → Prop := fun x lo hi H Q => rSlL K x lo hi H Q ∨ rSlA K x lo hi H Q ∨ rSlS x lo hi H Q
theorem oSl : SlR X (aSl X.K) := sl_list.or (sl_tupA.or sl_str)
/-- the built-in functions -/
def aLen (K : PySem.W.Frag) : List V → Hp → VK → Prop := fun xs H Q => ∃ x n, xs = [x] ∧ LenV K x H n ∧ Q (.int n) H
def aInt : List V → Hp → VK → Prop := fun xs H Q => (∃ i, xs = [.int i] ∧ Q (.int i) H) ∨ ∃ k, xs = [.bl k] ∧ Q (.int (if k then 1 else 0)) H
def aList (K : PySem.W.Frag) : List V → Hp → VK → Prop := fun xs H Q => ∃ p ys, xs = [.ref p] ∧ (SqL K H p ys ∨ SqT K H p ys) ∧ nw (.lst ys) H Q
def aTuple (K : PySem.W.Frag) : List V → Hp → VK → Prop := fun xs H Q => ∃ p ys, xs = [.ref p] ∧ ((SqL K H p ys ∧ nw (.tup ys) H Q) ∨ (SqT K H p ys ∧ Q (.ref p) H))
def aAbs : List V → Hp → VK → Prop := fun xs H Q => ∃ i, xs = [.int i] ∧ Q (.int (if i < 0 then -i else i)) H
def aStr : List V → Hp → VK → Prop := fun xs H Q => ∃ i, xs = [.int i] ∧ i.natAbs.log2 < 1920 ∧ Q (.str (toString i)) H
def aMax2 : List V → Hp → VK → Prop := fun xs H Q => ∃ i j, xs = [.int i, .int j] ∧ Q (.int (if j > i then j else i)) H
def aMin2 : List V → Hp → VK → Prop := fun xs H Q => ∃ i j, xs = [.int i, .int j] ∧ Q (.int (if j < i then j else i)) H
def aIsi (K : PySem.W.Frag) : List V → Hp → VK → Prop := fun xs H Q => rIsi K xs H Q ∨ rIsiT K xs H Q
theorem cLen : CallR X (.builtin "len") (aLen X.K) := call_len
theorem cInt : CallR X (.type "int") aInt := call_int1
theorem cList : CallR X (.type "list") (aList X.K) := call_list_of
theorem cTuple : CallR X (.type "tuple") (aTuple X.K) := call_tuple_of
theorem cAbs : CallR X (.builtin "abs") aAbs := call_abs
theorem cStr : CallR X (.type "str") aStr := call_str_int
theorem cMax2 (h : X.calm = true) : CallR X (.builtin "max") aMax2 := call_max2 h
theorem cMin2 (h : X.calm = true) : CallR X (.builtin "min") aMin2 := call_min2 h
theorem cIsi : CallR X (.builtin "isinstance") (aIsi X.K) := call_isi.or call_isiT
def aSorted (K : PySem.W.Frag) : List V → Hp → VK → Prop := fun xs H Q => rSorted K xs H Q ∨ rSortedS K xs H Q
theorem cSorted : CallR X (.builtin "sorted") (aSorted X.K) := cr_sorted.or cr_sortedS
/-! tests -/
def tTru (K : PySem.W.Frag) (ta : TE) : TT := fun σ H Q => ta σ H fun x H' => ∃ k, TruV K x H' k ∧ Q k H'
theorem pt_tru {a : Expr} {ta : TE} (ha : PE X a ta) (he : ∀ whole, isTrue a X.env whole = (do let v ← whole; standAt a.pos; holding [v] (truthy v)) := by intro _; rfl) : PT X a (tTru X.K ta) := pt_truth ha he
def dLst (t : TA) : TE := fun σ H Q => t σ H fun xs H1 => xs.length ≤ sizeLine ∧ nw (.lst xs) H1 Q
def dTup (t : TA) : TE := fun σ H Q => t σ H fun xs H1 => xs.length ≤ sizeLine ∧ nw (.tup xs) H1 Q
theorem d_lst {es : List Expr} {t : TA} {pos : Pos} (h : PA X es t) : PE X (.List es pos) (dLst t) := pe_lst h
theorem d_tup {es : List Expr} {t : TA} {n : Nat} {pos : Pos} (h : PA X es t) : PE X (.Tuple es n pos) (dTup t) := pe_tup h
def dDict : TE := fun _ H Q => nw (.dK []) H Q
theorem d_dict {pos : Pos} : PE X (.Dict [] [] pos) dDict := pe_dnewK
/-! methods of lists -/
def aApp : V → List V → Hp → VK → Prop := fun x vs H Q => ∃ l xs y, x = .ref l ∧ vs = [y] ∧ H l = some (.lst xs) ∧ xs.length < sizeLine ∧ md l (.lst (xs ++ [y])) H (Q .non)
theorem mApp : MtR X "list.append" aApp := mt_append
def aPopA : V → List V → Hp → VK → Prop := fun x vs H Q => ∃ l xs i k y, x = .ref l ∧ vs = [.int i] ∧ H l = some (.lst xs) ∧ -(2 ^ 63) ≤ i ∧ i < 2 ^ 63 ∧ seqIndex? i xs.length = some k ∧ xs[k]? = some y ∧ md l (.lst (xs.eraseIdx k)) H (Q y)
theorem mPopA : MtR X "list.pop" aPopA := mt_popAt
def aPop : V → List V → Hp → VK → Prop := fun x vs H Q => ∃ l xs y, x = .ref l ∧ vs = [] ∧ H l = some (.lst xs) ∧ xs[xs.length - 1]? = some y ∧ md l (.lst xs.dropLast) H (Q y)
theorem mPop : MtR X "list.pop" aPop := mt_pop
def aSet : TSet := fun o i v H S => ∃ p xs k j, o = .ref p ∧ i = .int k ∧ H p = some (.lst xs) ∧ ixN xs.length k = some j ∧ md p (.lst (xs.set j v)) H S
theorem sSet : PSet X aSet := set_list
def aRevL (K : PySem.W.Frag) (te : TE) : TE := fun σ H Q => te σ H fun x H1 => ∃ a xs, x = .ref a ∧ SqL K H1 a xs ∧ nw (.lst xs.reverse) H1 Q
theorem d_revL {e : Expr} {te : TE} {n : Nat} {p1 p2 p3 pos : Pos} (he : PE X e te) : PE X (.Subscript e (.Slice none none (some (.UnaryOp .USub (.Constant (.int 1) n p1) p2)) p3) pos) (aRevL X.K te) := pe_revL he
/-! sep.join(..) -/
def aJoin (K : PySem.W.Frag) : V → List V → Hp → VK → Prop := fun x xs H Q => ∃ a p, ∃ ys : List Str, x = .str a ∧ xs = [.ref p] ∧ (SqL K H p (ys.map V.str) ∨ SqT K H p (ys.map V.str)) ∧
    (ys.map (·.length)).sum + ys.length * a.length ≤ 16777216 ∧ Q (.str (Txt.join a ys)) H
end
section
variable {X : Cx}
theorem mJoin : MtR X "str.join" (aJoin X.K) := mt_join
end
/-! ### steps of a reading -/
section
variable {σ : L2.St} {H : Hp} {Q : VK} {K : PySem.W.Frag} {i j : Int} {v : V} {a b : Str}
theorem x_var {n : Nat} (h : σ[n]? = some (some v)) (q : Q v H) : tVar n σ H Q := ⟨v, h, q⟩
theorem x_c (q : Q v H) : tC v σ H Q := q
theorem x_op {r : R2} {ta tb : TE} (h : ta σ H fun x H1 => tb σ H1 fun y H2 => r x y H2 Q) : tOp r ta tb σ H Q := h
theorem x_un {r : V → Hp → VK → Prop} {ta : TE} (h : ta σ H fun x H1 => r x H1 Q) : tUn r ta σ H Q := h
theorem x_add (q : Q (.int (i + j)) H) : aAdd K (.int i) (.int j) H Q := .inl ⟨i, j, rfl, rfl, q⟩
theorem x_adds (hz : a.length + b.length ≤ sizeLine) (q : Q (.str (a ++ b)) H) : aAdd K (.str a) (.str b) H Q := .inr (.inl ⟨a, b, rfl, rfl, hz, q⟩)
theorem x_addl {p q : Addr} {xs ys : List V} (h1 : H p = some (.lst xs)) (h2 : H q = some (.lst ys)) (hz : xs.length + ys.length ≤ sizeLine) (k : nw (.lst (xs ++ ys)) H Q) : aAdd K (.ref p) (.ref q) H Q :=
  .inr (.inr (.inl ⟨p, q, xs, ys, rfl, rfl, h1, h2, hz, k⟩))
theorem x_mul (hc : CMul i j) (q : Q (.int (i * j)) H) : aMul (.int i) (.int j) H Q := .inl ⟨i, j, rfl, rfl, hc, q⟩
theorem x_rI0 {g : Int → Int → V} (q : Q (g i j) H) : rI0 g (.int i) (.int j) H Q := ⟨i, j, rfl, rfl, q⟩
theorem x_rI {C : Int → Int → Prop} {g : Int → Int → V} (hc : C i j) (q : Q (g i j) H) : rI C g (.int i) (.int j) H Q := ⟨i, j, rfl, rfl, hc, q⟩
theorem x_rU {g : Int → V} (q : Q (g i) H) : rU g (.int i) H Q := ⟨i, rfl, q⟩
theorem x_eq {x y : V} (h : scal x y = true) (q : Q (.bl (decide (x = y))) H) : aEq K x y H Q := .inl ⟨h, q⟩
theorem x_ne {x y : V} (h : scal x y = true) (q : Q (.bl (!decide (x = y))) H) : aNe K x y H Q := .inl ⟨h, q⟩
theorem x_eqd {x y : V} {d e : PyData} (h1 : Dt K H x d) (h2 : Dt K H y e) (s1 : SeqAt.shaped d = true) (s2 : SeqAt.shaped e = true) (q : Q (.bl (PyData.eqv d e)) H) : aEq K x y H Q := .inr (.inl ⟨d, e, h1, h2, s1, s2, q⟩)
theorem x_eqN {p q : Addr} {xs : List V} (h1 : SqL K H p xs) (h2 : SqL K H q []) (z : Q (.bl xs.isEmpty) H) : aEq K (.ref p) (.ref q) H Q := .inr (.inr ⟨p, q, xs, rfl, rfl, h1, h2, z⟩)
theorem x_ned {x y : V} {d e : PyData} (h1 : Dt K H x d) (h2 : Dt K H y e) (s1 : SeqAt.shaped d = true) (s2 : SeqAt.shaped e = true) (q : Q (.bl (!PyData.eqv d e)) H) : aNe K x y H Q := .inr (.inl ⟨d, e, h1, h2, s1, s2, q⟩)
theorem x_neN {p q : Addr} {xs : List V} (h1 : SqL K H p xs) (h2 : SqL K H q []) (z : Q (.bl (!xs.isEmpty)) H) : aNe K (.ref p) (.ref q) H Q := .inr (.inr ⟨p, q, xs, rfl, rfl, h1, h2, z⟩)
theorem x_lt (q : Q (.bl (decide (i < j))) H) : aLt (.int i) (.int j) H Q := .inl ⟨i, j, rfl, rfl, q⟩
theorem x_lts (q : Q (.bl (decide (a.cps.toList < b.cps.toList))) H) : aLt (.str a) (.str b) H Q := .inr ⟨a, b, rfl, rfl, q⟩
theorem x_le (q : Q (.bl (decide (i ≤ j))) H) : aLe (.int i) (.int j) H Q := .inl ⟨i, j, rfl, rfl, q⟩
theorem x_les (q : Q (.bl (!decide (b.cps.toList < a.cps.toList))) H) : aLe (.str a) (.str b) H Q := .inr ⟨a, b, rfl, rfl, q⟩
theorem x_gt (q : Q (.bl (decide (j < i))) H) : aGt (.int i) (.int j) H Q := .inl ⟨i, j, rfl, rfl, q⟩
theorem x_ge (q : Q (.bl (decide (j ≤ i))) H) : aGe (.int i) (.int j) H Q := .inl ⟨i, j, rfl, rfl, q⟩
theorem x_isN {x : V} (q : Q (.bl (decide (x = .non))) H) : aIs x .non H Q := .inl ⟨rfl, q⟩
theorem x_isnN {x : V} (q : Q (.bl (!decide (x = .non))) H) : aIsn x .non H Q := .inl ⟨rfl, q⟩
theorem x_inl {x : V} {p : Addr} {xs : List V} {n : Bool} (h : SqL K H p xs) (f : flatV x = true) (fs : xs.all flatV = true) (q : Q (.bl (if n then !inV x xs else inV x xs)) H) : rIn K n x (.ref p) H Q := ⟨p, xs, rfl, .inl h, f, fs, q⟩
theorem x_int {x : V} {p : Addr} {xs : List V} {n : Bool} (h : SqT K H p xs) (f : flatV x = true) (fs : xs.all flatV = true) (q : Q (.bl (if n then !inV x xs else inV x xs)) H) : rIn K n x (.ref p) H Q := ⟨p, xs, rfl, .inr h, f, fs, q⟩
theorem x_ixl {p : Addr} {xs : List V} (h : SqL K H p xs) (e : atI xs i = some v) (q : Q v H) : rIx K (.ref p) (.int i) H Q := .inl ⟨p, xs, i, v, rfl, rfl, h, e, q⟩
theorem x_ixt {p : Addr} {xs : List V} (h : SqT K H p xs) (e : atI xs i = some v) (q : Q v H) : rIx K (.ref p) (.int i) H Q := .inr (.inl ⟨p, xs, i, v, rfl, rfl, h, e, q⟩)
theorem x_ixs {c : Nat} (hz : a.length ≤ sizeLine) (e : atI a.cps.toList i = some c) (q : Q (.str ⟨#[c]⟩) H) : rIx K (.str a) (.int i) H Q := .inr (.inr ⟨a, i, c, rfl, rfl, hz, e, q⟩)
/-! calls -/
theorem x_cb {r : List V → Hp → VK → Prop} {t : TA} (h : t σ H fun vs H1 => r vs H1 Q) : tCB r t σ H Q := h
theorem x_call {sp : Sp} {E : XK} {t : TA} (h : t σ H fun vs H1 => sp vs H1 Q E) : tCall sp [] E t σ H Q := by
  show t σ H fun vs H1 => sp (vs ++ []) H1 Q E
  simpa only [List.append_nil] using h
theorem x_anil {Q : List V → Hp → Prop} (h : Q [] H) : tNil σ H Q := h
theorem x_acons {ta : TE} {t : TA} {Q : List V → Hp → Prop} (h : ta σ H fun x H1 => t σ H1 fun xs H2 => Q (x :: xs) H2) : tCons ta t σ H Q := h
theorem x_lens (hz : a.length ≤ sizeLine) (q : Q (.int a.length) H) : aLen K [.str a] H Q := ⟨_, _, rfl, ⟨hz, rfl⟩, q⟩
theorem x_lenl {p : Addr} {xs : List V} (h : SqL K H p xs) (q : Q (.int xs.length) H) : aLen K [.ref p] H Q := ⟨_, _, rfl, .inl ⟨xs, h, rfl⟩, q⟩
theorem x_lent {p : Addr} {xs : List V} (h : SqT K H p xs) (q : Q (.int xs.length) H) : aLen K [.ref p] H Q := ⟨_, _, rfl, .inr ⟨xs, h, rfl⟩, q⟩
theorem x_inti (q : Q (.int i) H) : aInt [.int i] H Q := .inl ⟨i, rfl, q⟩
theorem x_intb {k : Bool} (q : Q (.int (if k then 1 else 0)) H) : aInt [.bl k] H Q := .inr ⟨k, rfl, q⟩
theorem x_abs (q : Q (.int (if i < 0 then -i else i)) H) : aAbs [.int i] H Q := ⟨i, rfl, q⟩
theorem x_repr {d : PyData} (h : Dt K H v d) (f : fits d = true) (hz : d.shown.length ≤ sizeLine) (h60 : d.depth ≤ 60) (q : Q (.str d.shown) H) : rRepr K [v] H Q := ⟨v, d, rfl, h, f, hz, h60, q⟩
/-! tests -/
variable {T : Bool → Hp → Prop}
theorem x_tru {ta : TE} (h : ta σ H fun x H' => ∃ k, TruV K x H' k ∧ T k H') : tTru K ta σ H T := h
theorem x_trub {k : Bool} {S : Bool → Prop} (q : S k) : ∃ k', TruV K (.bl k) H k' ∧ S k' := ⟨k, rfl, q⟩
theorem x_trui {S : Bool → Prop} (q : S (i != 0)) : ∃ k', TruV K (.int i) H k' ∧ S k' := ⟨_, rfl, q⟩
theorem x_test {t : TE} (h : t σ H fun x H' => ∃ k, x = .bl k ∧ T k H') : tTest t σ H T := h
theorem x_testb {k : Bool} {S : Bool → Prop} (q : S k) : ∃ k', V.bl k = .bl k' ∧ S k' := ⟨k, rfl, q⟩
theorem x_and {t u : TT} (h : t σ H fun c H1 => if c = true then u σ H1 T else T false H1) : tAnd t u σ H T := h
theorem x_or {t u : TT} (h : t σ H fun c H1 => if c = true then T true H1 else u σ H1 T) : tOr t u σ H T := h
theorem x_not {t : TT} (h : t σ H fun c H1 => T (!c) H1) : tNot t σ H T := h
theorem x_andV {ta tb : TE} (h : ta σ H fun x H1 => ∃ c, x = .bl c ∧ if c = true then tb σ H1 Q else Q (.bl false) H1) : tAndV ta tb σ H Q := h
theorem x_orV {ta tb : TE} (h : ta σ H fun x H1 => ∃ c, x = .bl c ∧ if c = true then Q (.bl true) H1 else tb σ H1 Q) : tOrV ta tb σ H Q := h
theorem x_notV {ta : TE} (h : ta σ H fun x H1 => ∃ c, x = .bl c ∧ Q (.bl (!c)) H1) : tNotV ta σ H Q := h
theorem x_isB {c : Bool} {S : Bool → Prop} (q : S c) : ∃ c', V.bl c = .bl c' ∧ S c' := ⟨c, rfl, q⟩
theorem x_if {t : TT} {ta tb : TE} (h : t σ H fun c H1 => if c = true then ta σ H1 Q else tb σ H1 Q) : tIf t ta tb σ H Q := h
/-! statements -/
variable {n b1 c1 : L2.St → Hp → Prop} {r1 : VK} {D : Ends}
theorem x_seq {t u : TS} (h : t ⟨u ⟨n, r1, b1, c1⟩, r1, b1, c1⟩ σ H) : tSeq t u ⟨n, r1, b1, c1⟩ σ H := h
theorem x_asg {te : TE} {m : Nat} (h : te σ H fun x H1 => n (σ.set m (some x)) H1) : tAsg te (gName m) ⟨n, r1, b1, c1⟩ σ H := h
theorem x_asgG {te : TE} {g : TG} (h : te σ H fun x H1 => g x σ H1 n) : tAsg te g ⟨n, r1, b1, c1⟩ σ H := h
theorem x_ret {te : TE} (h : te σ H r1) : tRet te ⟨n, r1, b1, c1⟩ σ H := h
theorem x_drop {te : TE} (h : te σ H fun _ H1 => n σ H1) : tDrop te ⟨n, r1, b1, c1⟩ σ H := h
theorem x_ifs {c : TT} {t u : TS} (h : c σ H fun k H1 => if k = true then t ⟨n, r1, b1, c1⟩ σ H1 else u ⟨n, r1, b1, c1⟩ σ H1) : tIfS c t u ⟨n, r1, b1, c1⟩ σ H := h
theorem x_when {c : TT} {t : TS} (rest : n σ H) (h : n σ H → c σ H fun k H1 => if k = true then t ⟨n, r1, b1, c1⟩ σ H1 else n σ H1) : tIfS c t tNext ⟨n, r1, b1, c1⟩ σ H := h rest
theorem x_next (h : n σ H) : tNext ⟨n, r1, b1, c1⟩ σ H := h
theorem x_brk (h : b1 σ H) : tBreak ⟨n, r1, b1, c1⟩ σ H := h
theorem x_cnt (h : c1 σ H) : tCont ⟨n, r1, b1, c1⟩ σ H := h
theorem x_par {m l : Nat} {ta : TA} (h : ta σ H fun vs H1 => ∃ v w, vs = [v, w] ∧ n ((σ.set m (some v)).set l (some w)) H1) : tPar m l ta ⟨n, r1, b1, c1⟩ σ H := h
theorem x_par2 {v w : V} {S : V → V → Prop} (h : S v w) : ∃ v' w', [v, w] = [v', w'] ∧ S v' w' := ⟨v, w, rfl, h⟩
theorem x_par3 {m l o : Nat} {ta : TA} (h : ta σ H fun vs H1 => ∃ u v w, vs = [u, v, w] ∧ n (((σ.set m (some u)).set l (some v)).set o (some w)) H1) : tPar3 m l o ta ⟨n, r1, b1, c1⟩ σ H := h
theorem x_par33 {u v w : V} {S : V → V → V → Prop} (h : S u v w) : ∃ u' v' w', [u, v, w] = [u', v', w'] ∧ S u' v' w' := ⟨u, v, w, rfl, h⟩
theorem x_sub {to ti : TE} {t : TSet} {x : V} {q : L2.St → Hp → Prop} (h : to σ H fun o H1 => ti σ H1 fun i H2 => t o i x H2 fun H3 => q σ H3) : gSub to ti t x σ H q := h
theorem x_setl {p : Addr} {xs : List V} {m : Nat} {S : Hp → Prop} (h : H p = some (.lst xs)) (e : ixN xs.length i = some m) (q : md p (.lst (xs.set m v)) H S) : aSet (.ref p) (.int i) v H S := ⟨p, xs, i, m, rfl, rfl, h, e, q⟩
theorem x_lst {t : TA} (h : t σ H fun xs H1 => xs.length ≤ sizeLine ∧ nw (.lst xs) H1 Q) : dLst t σ H Q := h
theorem x_tup {t : TA} (h : t σ H fun xs H1 => xs.length ≤ sizeLine ∧ nw (.tup xs) H1 Q) : dTup t σ H Q := h
theorem x_dict (h : nw (.dK []) H Q) : dDict σ H Q := h
theorem x_bm {T : String} {r : V → List V → Hp → VK → Prop} {to : TE} {t : TA} (h : to σ H fun x H1 => tyV K T x H1 ∧ t σ H1 fun xs H2 => r x xs H2 Q) : tBM K T r to t σ H Q := h
theorem x_bm0 {T : String} {r : V → List V → Hp → VK → Prop} {to : TE} (h : to σ H fun x H1 => tyV K T x H1 ∧ r x [] H1 Q) : tBM0 K T r to σ H Q := h
theorem ty_l {p : Addr} {xs : List V} (h : SqL K H p xs) : tyV K "list" (.ref p) H := .inl ⟨rfl, xs, h⟩
theorem ty_s : tyV K "str" (.str a) H := rfl
theorem x_app {p : Addr} {xs : List V} (h : H p = some (.lst xs)) (hz : xs.length < sizeLine) (k : md p (.lst (xs ++ [v])) H (Q .non)) : aApp (.ref p) [v] H Q := ⟨p, xs, v, rfl, rfl, h, hz, k⟩
theorem x_popA {p : Addr} {xs : List V} {m : Nat} (h : H p = some (.lst xs)) (h0 : -(2 ^ 63) ≤ i) (h1 : i < 2 ^ 63) (e : seqIndex? i xs.length = some m) (e2 : xs[m]? = some v) (k : md p (.lst (xs.eraseIdx m)) H (Q v)) : aPopA (.ref p) [.int i] H Q := ⟨p, xs, i, m, v, rfl, rfl, h, h0, h1, e, e2, k⟩
theorem x_listL {p : Addr} {xs : List V} (h : SqL K H p xs) (k : nw (.lst xs) H Q) : aList K [.ref p] H Q := ⟨p, xs, rfl, .inl h, k⟩
theorem x_listT {p : Addr} {xs : List V} (h : SqT K H p xs) (k : nw (.lst xs) H Q) : aList K [.ref p] H Q := ⟨p, xs, rfl, .inr h, k⟩
theorem x_tupleL {p : Addr} {xs : List V} (h : SqL K H p xs) (k : nw (.tup xs) H Q) : aTuple K [.ref p] H Q := ⟨p, xs, rfl, .inl ⟨h, k⟩⟩
theorem x_tupleT {p : Addr} {xs : List V} (h : SqT K H p xs) (k : Q (.ref p) H) : aTuple K [.ref p] H Q := ⟨p, xs, rfl, .inr ⟨h, k⟩⟩
theorem x_slice {r : V → Option Int → Option Int → Hp → VK → Prop} {te : TE} {tl th : TO} (h : te σ H fun x H1 => tl σ H1 fun l H2 => th σ H2 fun u H3 => r x l u H3 Q) : tSl r te tl th σ H Q := h
theorem x_nop {S : Option Int → Hp → Prop} (h : S none H) : tNoPart σ H S := h
theorem x_part {te : TE} {S : Option Int → Hp → Prop} (h : te σ H fun x H1 => ∃ i, x = .int i ∧ S (some i) H1) : tPart te σ H S := h
theorem x_isI {S : Int → Prop} (q : S i) : ∃ i', V.int i = .int i' ∧ S i' := ⟨i, rfl, q⟩
theorem x_slL {p : Addr} {xs : List V} {lo hi : Option Int} (h : SqL K H p xs) (k : nw (.lst (cutV xs lo hi)) H Q) : aSl K (.ref p) lo hi H Q := .inl ⟨p, xs, rfl, h, k⟩
theorem x_slT {p : Addr} {xs : List V} {lo hi : Option Int} (h : SqT K H p xs) (q1 : HT.sIx xs.length 0 lo = 0 ∧ HT.sIx xs.length xs.length hi = xs.length → Q (.ref p) H)
    (q2 : ¬ (HT.sIx xs.length 0 lo = 0 ∧ HT.sIx xs.length xs.length hi = xs.length) → nw (.tup (cutV xs lo hi)) H Q) : aSl K (.ref p) lo hi H Q := .inr (.inl ⟨p, xs, rfl, h, q1, q2⟩)
theorem x_slS {lo hi : Option Int} (hz : a.length ≤ sizeLine) (q : Q (.str (cutS a lo hi)) H) : aSl K (.str a) lo hi H Q := .inr (.inr ⟨a, rfl, hz, q⟩)
theorem x_revL {te : TE} (h : te σ H fun x H1 => ∃ a xs, x = .ref a ∧ SqL K H1 a xs ∧ nw (.lst xs.reverse) H1 Q) : aRevL K te σ H Q := h
theorem ite_t {A B : Prop} (h : A) : if true = true then A else B := by rw [if_pos rfl]; exact h
theorem ite_f {A B : Prop} (h : B) : if false = true then A else B := by rw [if_neg Bool.false_ne_true]; exact h
theorem ite_b {c : Bool} {A B : Prop} (h1 : c = true → A) (h2 : c = false → B) : if c = true then A else B := by
  cases c with
  | true => rw [if_pos rfl]; exact h1 rfl
  | false => rw [if_neg Bool.false_ne_true]; exact h2 rfl
end
end G
set_option maxHeartbeats 4000000
/-! Part C: walks of lists and tuples alike; the drawing box; names of built-ins. -/
namespace G
open PySem PySem.Spec PyProof.Rows L2
/-- the built-in names are the built-ins' -/
structure Bt (mg : Str → Option Value) : Prop where
  len : mg "len" = none
  range : mg "range" = none
  abs : mg "abs" = none
  int : mg "int" = none
  str : mg "str" = none
  bool : mg "bool" = none
  list : mg "list" = none
  tuple : mg "tuple" = none
  dict : mg "dict" = none
  sum : mg "sum" = none
  all : mg "all" = none
  any : mg "any" = none
  max : mg "max" = none
  min : mg "min" = none
  sorted : mg "sorted" = none
  repr : mg "repr" = none
  isinstance : mg "isinstance" = none
  enumerate : mg "enumerate" = none
  zip : mg "zip" = none
section
variable {X : Cx} {tg e : Expr} {te : TE}
theorem PI.or {u1 u2 : TI} (h1 : PI X tg e u1) (h2 : PI X tg e u2) : PI X tg e (fun σ H R => u1 σ H R ∨ u2 σ H R) := by
  constructor
  intro pins s σ H R I h
  rcases h with h | h
  · exact h1.run pins s σ H R I h
  · exact h2.run pins s σ H R I h
/-- over a list or a tuple -/
def iSeq (K : PySem.W.Frag) (tl : TE) : TI := fun σ H R => iList K tl σ H R ∨ iTup K tl σ H R
theorem pi_seq (h : PE X e te) : PI X tg e (iSeq X.K te) := PI.or (pi_list h) (pi_tup h)
end
/-! the box that draws: what is left of the great number, whether there is one, the seed, how often it drew; n: how often it may draw yet -/
def Box (n : Nat) (xs : List V) : Prop := ∃ (m k c : Int) (f : Bool), xs = [.int m, .bl f, .int k, .int c] ∧ 0 ≤ m ∧ 0 ≤ k ∧ k < 2147483629 ∧ 0 ≤ c ∧ c + n ≤ 1000000000
theorem Box.le {n m : Nat} {xs : List V} (h : Box n xs) (l : m ≤ n) : Box m xs := by
  obtain ⟨a, b, c, f, e, h1, h2, h3, h4, h5⟩ := h
  exact ⟨a, b, c, f, e, h1, h2, h3, h4, by omega⟩
end G
set_option maxHeartbeats 4000000
/-! Part D: comprehensions and loops over what is owned. -/
namespace G
open PySem PySem.Spec PyProof.Rows L2
section
variable {X : Cx} {tg e : Expr} {te : TE} {pins : List (Addr × Obj)} {σ : L2.St} {H : Hp} {s : Shared} {R : It → Hp → Prop} {E : Value → Shared → Prop}
theorem Inv.pushed (I : Inv X pins σ H s) (o : Obj) : Inv X pins σ H { s with heap := s.heap.push o } := I.kept (t' := s.toks) fun b u z => Heap.get?_push_of_some _ z
theorem piL (I : Inv X pins σ H s) {a : Addr} {xs : List V} (hq : SqL X.K H a xs) (q : R (Itl X.K a) H) : wpAny (model X.prog X.w) X.A (pyIter (.ref a)) (PIE X pins σ tg R) E s := by
  obtain ⟨its, _, p, _⟩ := I.list hq
  refine wpAny_pyIter_list p.isList ?_
  refine ⟨s.heap.objs.size, [s.heap.objs.size], _, _, H, rfl, Inv.pushed I _, turn_list a _, ⟨_, Heap.get?_push_size _ rfl, rfl, rfl⟩, ?_, q⟩
  intro b hb
  obtain rfl : b = s.heap.objs.size := by simpa using hb
  exact I.fpOk (Nat.le_refl _) (I.hok.fresh (Nat.le_refl _))
theorem piT (I : Inv X pins σ H s) {a : Addr} {xs : List V} (hq : SqT X.K H a xs) (q : R (Itt X.K a) H) : wpAny (model X.prog X.w) X.A (pyIter (.ref a)) (PIE X pins σ tg R) E s := by
  obtain ⟨its, _, p, _⟩ := I.tuple hq
  refine wpAny_pyIter_tuple (show s.heap.IsTuple a its.toArray from p) ?_
  refine ⟨s.heap.objs.size, [s.heap.objs.size], _, _, H, rfl, Inv.pushed I _, turn_tuple a _, ⟨_, Heap.get?_push_size _ rfl, rfl, rfl⟩, ?_, q⟩
  intro b hb
  obtain rfl : b = s.heap.objs.size := by simpa using hb
  exact I.fpOk (Nat.le_refl _) (I.hok.fresh (Nat.le_refl _))
/-- over a list or a tuple -/
def iSq (K : PySem.W.Frag) (tl : TE) : TI := fun σ H R => tl σ H fun x H1 => ∃ a xs, x = .ref a ∧ ((SqL K H1 a xs ∧ R (Itl K a) H1) ∨ (SqT K H1 a xs ∧ R (Itt K a) H1))
theorem pi_sq (he : PE X e te) : PI X tg e (iSq X.K te) := by
  constructor
  intro pins s σ H R I h
  refine thn (he.run pins s σ H _ I h) ?_
  rintro v s1 ⟨x, H1, I1, r1, a, xs, rfl, z⟩
  cases r1
  rcases z with ⟨z, q⟩ | ⟨z, q⟩
  · exact piL I1 z q
  · exact piT I1 z q
end
/-- a walk that has come -/
abbrev iAt (J : It) : TI := fun _ H R => R J H
section
variable {σ : L2.St} {H : Hp} {Q : VK} {K : PySem.W.Frag} {g : TG} {tt : TT} {te : TE} {vs : List Nat} {ta : TA} {tl : TE}
theorem x_lcR (h : ta σ H fun zs H1 => ∃ n : Int, zs = [.int n] ∧ -(2 ^ 62) ≤ n ∧ n < 2 ^ 62 ∧ tLc (iAt (Itr 0 n.toNat)) g tt te vs σ H1 Q) : tLc (iRng1 ta) g tt te vs σ H Q := h
theorem x_lcR2 (h : ta σ H fun zs H1 => ∃ i j : Int, zs = [.int i, .int j] ∧ (-(2 ^ 62) ≤ i ∧ i < 2 ^ 62 ∧ -(2 ^ 62) ≤ j ∧ j < 2 ^ 62) ∧ tLc (iAt (Itr i (j - i).toNat)) g tt te vs σ H1 Q) : tLc (iRng2 ta) g tt te vs σ H Q := h
theorem x_lcS (h : tl σ H fun x H1 => ∃ a xs, x = .ref a ∧ ((SqL K H1 a xs ∧ tLc (iAt (Itl K a)) g tt te vs σ H1 Q) ∨ (SqT K H1 a xs ∧ tLc (iAt (Itt K a)) g tt te vs σ H1 Q))) : tLc (iSq K tl) g tt te vs σ H Q := h
theorem x_lcI (h : tl σ H fun x H1 => ∃ z, x = .str z ∧ tLc (iAt (Its z)) g tt te vs σ H1 Q) : tLc (iStr tl) g tt te vs σ H Q := h
theorem x_sqL {p : Addr} {xs : List V} {S1 : Addr → Prop} {S2 : Addr → List V → Prop} (h : SqL K H p xs) (q : S1 p) : ∃ a xs, V.ref p = .ref a ∧ ((SqL K H a xs ∧ S1 a) ∨ S2 a xs) := ⟨p, xs, rfl, .inl ⟨h, q⟩⟩
theorem x_sqT {p : Addr} {xs : List V} {S1 : Addr → Prop} {S2 : Addr → List V → Prop} (h : SqT K H p xs) (q : S1 p) : ∃ a xs, V.ref p = .ref a ∧ (S2 a xs ∨ (SqT K H a xs ∧ S1 a)) := ⟨p, xs, rfl, .inr ⟨h, q⟩⟩
theorem x_rg {n : Int} {S : Int → Prop} (h0 : -(2 ^ 62) ≤ n) (h1 : n < 2 ^ 62) (q : S n) : ∃ n' : Int, [V.int n] = [.int n'] ∧ -(2 ^ 62) ≤ n' ∧ n' < 2 ^ 62 ∧ S n' := ⟨n, rfl, h0, h1, q⟩
theorem x_yes {T : Bool → Hp → Prop} (h : T true H) : tYes σ H T := h
section
variable {J : It} {n : Nat} {Gd : Hp → Prop} {Y : Nat → Hp → V → Hp → Prop} {G : Hp} {L : List (Addr × HO)}
/-- what holds between two turns: D the new list, what it has so far -/
def PvH (G : Hp) (Pv : Nat → Hp → List (Addr × HO) → List V → Prop) (D : Addr) (i : Nat) (H : Hp) : Prop := ∃ G' L' acc, Same G G' ∧ Own G' H ((D, .lst acc) :: L') ∧ Pv i G' L' acc
/-- what an element's value is to bring -/
def LcN (G : Hp) (Pv : Nat → Hp → List (Addr × HO) → List V → Prop) (D : Addr) (i : Nat) : VK := fun y H4 => ∃ acc, H4 D = some (.lst acc) ∧ acc.length < sizeLine ∧ PvH G Pv D (i + 1) (upd H4 D (.lst (acc ++ [y])))
theorem lcn {Pv : Nat → Hp → List (Addr × HO) → List V → Prop} {D : Addr} {i : Nat} {y : V} {G4 H4 : Hp} {L4 : List (Addr × HO)} {acc : List V} (s : Same G G4) (O : Own G4 H4 ((D, .lst acc) :: L4)) (hz : acc.length < sizeLine) (p : Pv (i + 1) G4 L4 (acc ++ [y])) : LcN G Pv D i y H4 :=
  ⟨acc, O.at0, hz, G4, L4, acc ++ [y], s, O.upd0, p⟩
/-- a comprehension by any walk; the new list is the first of what is ours -/
theorem lc_own {σw : L2.St} (hw : wipe σ vs = σw) (W : Walk J n Gd Y) (O : Own G H L) (Pv : Nat → Hp → List (Addr × HO) → List V → Prop) (h0 : Pv 0 G L [])
    (hG : ∀ (i : Nat) (G' H' : Hp) (D : Addr) (L' : List (Addr × HO)) (acc : List V), Same G G' → Own G' H' ((D, .lst acc) :: L') → Pv i G' L' acc → Gd H')
    (st : ∀ (i : Nat) (x : V) (G' H' H2 : Hp) (D : Addr) (L' : List (Addr × HO)) (acc : List V), i < n → Same G G' → Own G' H' ((D, .lst acc) :: L') → Pv i G' L' acc → Y i H' x H2 →
      g x σw H2 fun σ2 H2 => wipe σ2 vs = σw ∧ tt σ2 H2 fun k H3 => if k = true then te σ2 H3 (LcN G Pv D i) else PvH G Pv D (i + 1) H3)
    (fin : ∀ (G' H' : Hp) (D : Addr) (L' : List (Addr × HO)) (acc : List V), Same G G' → Own G' H' ((D, .lst acc) :: L') → Pv n G' L' acc → Q (.ref D) H') : tLc (iAt J) g tt te vs σ H Q := by
  subst hw
  intro D hD
  refine lc_it W (PvH G Pv D) ⟨G, L, [], Same.refl G, O.new hD, h0⟩ ?_ ?_ ?_
  · rintro i H' _ ⟨G', L', acc, s, O', p⟩
    exact hG i G' H' D L' acc s O' p
  · rintro i x H' H2 hi ⟨G', L', acc, s, O', p⟩ y
    exact st i x G' H' H2 D L' acc hi s O' p y
  · rintro H' ⟨G', L', acc, s, O', p⟩
    exact fin G' H' D L' acc s O' p
/-! for loops -/
variable {D : Ends} {tb : TS} {t2 : TS} {n1 b1 c1 : L2.St → Hp → Prop} {r1 : VK}
theorem x_forR (h : ta σ H fun zs H1 => ∃ n : Int, zs = [.int n] ∧ -(2 ^ 62) ≤ n ∧ n < 2 ^ 62 ∧ tFor (iAt (Itr 0 n.toNat)) g tb D σ H1) : tFor (iRng1 ta) g tb D σ H := h
theorem x_forS (h : tl σ H fun x H1 => ∃ a xs, x = .ref a ∧ ((SqL K H1 a xs ∧ tFor (iAt (Itl K a)) g tb D σ H1) ∨ (SqT K H1 a xs ∧ tFor (iAt (Itt K a)) g tb D σ H1))) : tFor (iSq K tl) g tb D σ H := h
def FvH (G : Hp) (Pv : Nat → L2.St → Hp → List (Addr × HO) → Prop) (i : Nat) (σ : L2.St) (H : Hp) : Prop := ∃ G' L', Same G G' ∧ Own G' H L' ∧ Pv i σ G' L'
theorem fvh {Pv : Nat → L2.St → Hp → List (Addr × HO) → Prop} {i : Nat} {σ : L2.St} {G' H' : Hp} {L' : List (Addr × HO)} (s : Same G G') (O : Own G' H' L') (p : Pv i σ G' L') : FvH G Pv i σ H' := ⟨G', L', s, O, p⟩
theorem for_own (W : Walk J n Gd Y) (O : Own G H L) (Pv : Nat → L2.St → Hp → List (Addr × HO) → Prop) (h0 : Pv 0 σ G L)
    (hG : ∀ (i : Nat) (σ : L2.St) (G' H' : Hp) (L' : List (Addr × HO)), Same G G' → Own G' H' L' → Pv i σ G' L' → Gd H')
    (st : ∀ (i : Nat) (x : V) (σ : L2.St) (G' H' H2 : Hp) (L' : List (Addr × HO)), i < n → Same G G' → Own G' H' L' → Pv i σ G' L' → Y i H' x H2 →
      g x σ H2 fun σ2 H2 => tb ⟨FvH G Pv (i + 1), r1, n1, FvH G Pv (i + 1)⟩ σ2 H2)
    (fin : ∀ (σ : L2.St) (G' H' : Hp) (L' : List (Addr × HO)), Same G G' → Own G' H' L' → Pv n σ G' L' → n1 σ H') : tFor (iAt J) g tb ⟨n1, r1, b1, c1⟩ σ H := by
  refine for_it W (FvH G Pv) ⟨G, L, Same.refl G, O, h0⟩ ?_ ?_ ?_
  · rintro i σ' H' _ ⟨G', L', s, O', p⟩
    exact hG i σ' G' H' L' s O' p
  · rintro i x σ' H' H2 hi ⟨G', L', s, O', p⟩ y
    exact st i x σ' G' H' H2 L' hi s O' p y
  · rintro σ' H' ⟨G', L', s, O', p⟩
    exact fin σ' G' H' L' s O' p
/-- while: a measure of the state -/
def WH (G : Hp) (Pv : Nat → L2.St → Hp → List (Addr × HO) → Prop) (m : Nat) (σ : L2.St) (H : Hp) : Prop := ∃ G' L', Same G G' ∧ Own G' H L' ∧ Pv m σ G' L'
def WvH (G : Hp) (Pv : Nat → L2.St → Hp → List (Addr × HO) → Prop) (m : Nat) (σ : L2.St) (H : Hp) : Prop := ∃ m', m' < m ∧ WH G Pv m' σ H
theorem wvh {Pv : Nat → L2.St → Hp → List (Addr × HO) → Prop} {m m' : Nat} {σ : L2.St} {G' H' : Hp} {L' : List (Addr × HO)} (l : m' < m) (s : Same G G') (O : Own G' H' L') (p : Pv m' σ G' L') : WvH G Pv m σ H' := ⟨m', l, G', L', s, O, p⟩
theorem w_yes {Pv : Nat → L2.St → Hp → List (Addr × HO) → Prop} {m : Nat} {σ : L2.St} {H1 : Hp} (h : tb ⟨WvH G Pv m, r1, n1, WvH G Pv m⟩ σ H1) :
    ∃ N : L2.St → Hp → Prop, (∀ σ' H', N σ' H' → ∃ m', m' < m ∧ WH G Pv m' σ' H') ∧ tb ⟨N, r1, n1, N⟩ σ H1 := ⟨WvH G Pv m, fun _ _ z => z, h⟩
theorem while_own {c : TT} {m : Nat} (O : Own G H L) (Pv : Nat → L2.St → Hp → List (Addr × HO) → Prop) (h0 : Pv m σ G L)
    (st : ∀ (m : Nat) (σ : L2.St) (G' H' : Hp) (L' : List (Addr × HO)), Same G G' → Own G' H' L' → Pv m σ G' L' →
      c σ H' fun k H1 => if k = true then ∃ N : L2.St → Hp → Prop, (∀ σ' H', N σ' H' → ∃ m', m' < m ∧ WH G Pv m' σ' H') ∧ tb ⟨N, r1, n1, N⟩ σ H1 else n1 σ H1) : tWhile c tb ⟨n1, r1, b1, c1⟩ σ H := by
  refine ⟨WH G Pv, ⟨m, G, L, Same.refl G, O, h0⟩, ?_⟩
  rintro m σ H ⟨G', L', s, O', p⟩
  exact st m σ G' H L' s O' p
end
end
end G
set_option maxHeartbeats 4000000
/-! Part E: bounds of data; expressions that bring bounded data. -/
namespace G
open PySem PySem.Spec PyProof.Rows L2
/-! ### texts of ASCII signs, short -/
def asc (x : Str) : Bool := x.cps.toList.all fun c => decide (c < 128)
/-- a text of at most n ASCII signs -/
def St (n : Nat) (x : Str) : Prop := asc x = true ∧ x.length ≤ n
theorem len_l (x : Str) : x.length = x.cps.toList.length := by simp [Str.length]
theorem asc_all {x : Str} : asc x = true ↔ ∀ c ∈ x.cps.toList, c < 128 := by
  unfold asc
  rw [List.all_eq_true]
  exact ⟨fun h c hc => of_decide_eq_true (h c hc), fun h c hc => decide_eq_true (h c hc)⟩
theorem tl_app (a b : Str) : (a ++ b).cps.toList = a.cps.toList ++ b.cps.toList := by
  show (a.cps ++ b.cps).toList = _
  exact Array.toList_append
theorem St.mono {m n : Nat} {x : Str} (s : St m x) (h : m ≤ n) : St n x := ⟨s.1, Nat.le_trans s.2 h⟩
theorem St.app {m n : Nat} {a b : Str} (s : St m a) (t : St n b) : St (m + n) (a ++ b) := by
  refine ⟨asc_all.mpr fun c hc => ?_, ?_⟩
  · rw [tl_app] at hc
    rcases List.mem_append.mp hc with hc | hc
    · exact asc_all.mp s.1 c hc
    · exact asc_all.mp t.1 c hc
  · rw [len_l, tl_app, List.length_append, ← len_l, ← len_l]
    have := s.2
    have := t.2
    omega
theorem St.cut {n : Nat} {a : Str} (s : St n a) (lo hi : Option Int) : St n (cutS a lo hi) := by
  refine ⟨asc_all.mpr fun c hc => asc_all.mp s.1 c ?_, Nat.le_trans (cutS_length a lo hi) s.2⟩
  exact List.mem_of_mem_drop (List.mem_of_mem_take (by simpa [cutS] using hc))
theorem St.up {n : Nat} {a : Str} (s : St n a) : St n (Txt.upper a) := by
  have ha := asc_all.mp s.1
  rw [upper_ascii ha]
  refine ⟨asc_all.mpr fun c hc => ?_, ?_⟩
  · rw [Array.toList_map] at hc
    obtain ⟨d, hd, rfl⟩ := List.mem_map.mp hc
    have z := ha d hd
    unfold up1
    split <;> omega
  · have := s.2
    rw [len_l] at this ⊢
    simpa using this
theorem St.join {n : Nat} : ∀ {ys : List Str}, (∀ y ∈ ys, St n y) → St (n * ys.length) (Txt.join (Str.ofString "") ys) := by
  intro ys h
  rw [show Txt.join (Str.ofString "") ys = Str.join (Str.ofString "") ys from TL.join_eq _ ys]
  induction ys with
  | nil => exact ⟨rfl, Nat.zero_le _⟩
  | cons x r ih =>
    have hx := h x List.mem_cons_self
    have hr := ih fun y hy => h y (List.mem_cons_of_mem _ hy)
    cases r with
    | nil => exact hx.mono (by simp)
    | cons z r =>
      show St _ (x ++ Str.ofString "" ++ Str.join (Str.ofString "") (z :: r))
      refine ((hx.app (n := 0) (show St 0 (Str.ofString "") from ⟨rfl, Nat.le_refl _⟩)).app hr).mono ?_
      have e : n * (x :: z :: r).length = n * (z :: r).length + n := Nat.mul_succ _ _
      rw [e]
      omega
/-! ### data of ASCII texts, small ints, empty dicts -/
mutual
def okD : PyData → Bool
  | .none => true
  | .bool _ => true
  | .int i => decide (i.natAbs < 1000)
  | .str x => asc x
  | .list ds => okDL ds
  | .tuple ds => okDL ds
  | .dict ps => ps.isEmpty
def okDL : List PyData → Bool
  | [] => true
  | d :: ds => okD d && okDL ds
end
mutual
theorem okD_short : ∀ d : PyData, okD d = true → d.leavesShort 13 = true
  | .none, _ => rfl
  | .bool _, _ => rfl
  | .int i, h => by
    simp only [okD, decide_eq_true_eq] at h
    simp only [PyData.leavesShort, decide_eq_true_eq]
    exact PyData.shown_int_le (by omega)
  | .str x, h => by
    simp only [okD] at h
    have := asc_all.mp h
    simp only [PyData.leavesShort, List.all_eq_true, decide_eq_true_eq]
    intro c hc
    exact Nat.lt_trans (this c hc) (by decide)
  | .list ds, h => by
    simp only [okD] at h
    simp only [PyData.leavesShort]
    exact okDL_short ds h
  | .tuple ds, h => by
    simp only [okD] at h
    simp only [PyData.leavesShort]
    exact okDL_short ds h
  | .dict ps, h => by
    simp only [okD, List.isEmpty_iff] at h
    subst h
    rfl
theorem okDL_short : ∀ ds : List PyData, okDL ds = true → PyData.leavesShortAll 13 ds = true
  | [], _ => rfl
  | d :: ds, h => by
    simp only [okDL, Bool.and_eq_true] at h
    simp only [PyData.leavesShortAll, Bool.and_eq_true]
    exact ⟨okD_short d h.1, okDL_short ds h.2⟩
end
theorem len_wt {ds : List PyData} : ds.length ≤ PyData.weightAll ds := by
  induction ds with
  | nil => exact Nat.zero_le _
  | cons d ds ih =>
    simp only [List.length_cons, PyData.weightAll]
    omega
theorem small_log {i : Int} (h : i.natAbs < 1000) : i.natAbs.log2 < 1920 := by
  by_cases z : i.natAbs = 0
  · rw [z]; decide
  · have := Nat.log2_self_le z
    have h2 : i.natAbs.log2 < 10 := by
      rcases Nat.lt_or_ge i.natAbs.log2 10 with a | a
      · exact a
      · have := Nat.pow_le_pow_right (show 0 < 2 by decide) a
        omega
    omega
mutual
theorem okD_fits : ∀ d : PyData, okD d = true → d.weight ≤ 2 ^ 20 → fits d = true
  | .none, _, _ => rfl
  | .bool _, _, _ => rfl
  | .int i, h, _ => by
    simp only [okD, decide_eq_true_eq] at h
    simp only [fits, decide_eq_true_eq]
    exact small_log h
  | .str x, h, w => by
    have := PyData.shown_fits (B := 13) (by decide) (by decide) (okD_short (.str x) h) w
    simp only [fits, decide_eq_true_eq]
    simpa [PyData.shown] using this
  | .list ds, h, w => by
    simp only [okD] at h
    simp only [PyData.weight] at w
    simp only [fits]
    exact okDL_fits ds h w
  | .tuple ds, h, w => by
    simp only [okD] at h
    simp only [PyData.weight] at w
    simp only [fits]
    exact okDL_fits ds h w
  | .dict ps, h, _ => by
    simp only [okD, List.isEmpty_iff] at h
    subst h
    rfl
theorem okDL_fits : ∀ ds : List PyData, okDL ds = true → PyData.weightAll ds ≤ 2 ^ 20 → fitsL ds = true
  | [], _, _ => rfl
  | d :: ds, h, w => by
    simp only [okDL, Bool.and_eq_true] at h
    simp only [PyData.weightAll] at w
    simp only [fitsL, Bool.and_eq_true]
    exact ⟨okD_fits d h.1 (by omega), okDL_fits ds h.2 (by omega)⟩
end
/-- d lies in these bounds -/
structure Bd (m n : Nat) (d : PyData) : Prop where
  ok : okD d = true
  dep : d.depth ≤ m
  wt : d.weight ≤ n
structure BdL (m n : Nat) (ds : List PyData) : Prop where
  ok : okDL ds = true
  dep : PyData.depthAll ds ≤ m
  wt : PyData.weightAll ds ≤ n
section
variable {m n m1 m2 n1 n2 : Nat} {d : PyData} {ds : List PyData} {K : PySem.W.Frag} {G G' H H' : Hp} {v : V} {vs : List V} {a : Addr} {x : Str}
theorem Bd.mono (b : Bd m n d) (h1 : m ≤ m1) (h2 : n ≤ n1) : Bd m1 n1 d := ⟨b.ok, Nat.le_trans b.dep h1, Nat.le_trans b.wt h2⟩
theorem BdL.nil : BdL 0 0 [] := ⟨rfl, Nat.le_refl _, Nat.le_refl _⟩
theorem BdL.cons (b : Bd m1 n1 d) (c : BdL m2 n2 ds) : BdL (max m1 m2) (n1 + 1 + n2) (d :: ds) := by
  refine ⟨by simp only [okDL, b.ok, c.ok, Bool.and_true], ?_, ?_⟩
  · simp only [PyData.depthAll]
    have := b.dep
    have := c.dep
    omega
  · simp only [PyData.weightAll]
    have := b.wt
    have := c.wt
    omega
theorem BdL.tup (b : BdL m n ds) : Bd (m + 1) n (.tuple ds) := ⟨by simp only [okD]; exact b.ok, by simp only [PyData.depth]; have := b.dep; omega, by simp only [PyData.weight]; exact b.wt⟩
theorem BdL.lst (b : BdL m n ds) : Bd (m + 1) n (.list ds) := ⟨by simp only [okD]; exact b.ok, by simp only [PyData.depth]; have := b.dep; omega, by simp only [PyData.weight]; exact b.wt⟩
theorem Bd.untup (b : Bd m n (.tuple ds)) : BdL (m - 1) n ds := ⟨by have := b.ok; simpa only [okD] using this, by have := b.dep; simp only [PyData.depth] at this; omega, by have := b.wt; simpa only [PyData.weight] using this⟩
theorem Bd.unlst (b : Bd m n (.list ds)) : BdL (m - 1) n ds := ⟨by have := b.ok; simpa only [okD] using this, by have := b.dep; simp only [PyData.depth] at this; omega, by have := b.wt; simpa only [PyData.weight] using this⟩
theorem BdL.mem : ∀ {ds : List PyData}, BdL m n ds → ∀ d ∈ ds, Bd m n d
  | [], _, _, h => nomatch h
  | e :: ds, b, d, h => by
    have h1 := b.ok
    have h2 := b.dep
    have h3 := b.wt
    simp only [okDL, Bool.and_eq_true] at h1
    simp only [PyData.depthAll] at h2
    simp only [PyData.weightAll] at h3
    rcases List.mem_cons.mp h with rfl | h
    · exact ⟨h1.1, by omega, by omega⟩
    · exact BdL.mem (ds := ds) ⟨h1.2, by omega, by omega⟩ d h
theorem Bd.str (s : St n x) : Bd 0 n (.str x) := ⟨by simp only [okD]; exact s.1, by simp only [PyData.depth]; omega, by simp only [PyData.weight]; exact s.2⟩
theorem Bd.unstr (b : Bd m n (.str x)) : St n x := ⟨by have := b.ok; simpa only [okD] using this, by have := b.wt; simp only [PyData.weight] at this; exact this⟩
/-- v is data in these bounds -/
def Fn (K : PySem.W.Frag) (G : Hp) (m n : Nat) (v : V) : Prop := ∃ d, Dt K G v d ∧ Bd m n d
def FnL (K : PySem.W.Frag) (G : Hp) (m n : Nat) (vs : List V) : Prop := ∃ ds, DtL K G vs ds ∧ BdL m n ds
theorem Fn.mono (f : Fn K G m1 n1 v) (h1 : m1 ≤ m) (h2 : n1 ≤ n) : Fn K G m n v := let ⟨d, a, b⟩ := f; ⟨d, a, b.mono h1 h2⟩
theorem Fn.same (f : Fn K G m n v) (s : Same G G') : Fn K G' m n v := let ⟨d, a, b⟩ := f; ⟨d, a.mono s, b⟩
theorem FnL.same (f : FnL K G m n vs) (s : Same G G') : FnL K G' m n vs := let ⟨d, a, b⟩ := f; ⟨d, a.mono s, b⟩
theorem FnL.mono (f : FnL K G m1 n1 vs) (h1 : m1 ≤ m) (h2 : n1 ≤ n) : FnL K G m n vs := let ⟨d, a, b⟩ := f; ⟨d, a, b.ok, Nat.le_trans b.dep h1, Nat.le_trans b.wt h2⟩
theorem Fn.str (s : St n x) : Fn K G 0 n (.str x) := ⟨_, .str x, Bd.str s⟩
theorem Fn.non : Fn K G 0 0 .non := ⟨_, .non, rfl, Nat.le_refl _, Nat.le_refl _⟩
theorem Fn.bl {c : Bool} : Fn K G 0 0 (.bl c) := ⟨_, .bl c, rfl, Nat.le_refl _, Nat.le_refl _⟩
theorem Fn.int {i : Int} (h : i.natAbs < 1000) : Fn K G 0 10 (.int i) := ⟨_, .int i, by simp only [okD, h, decide_true], by simp only [PyData.depth]; omega, by
  simp only [PyData.weight]
  split
  · omega
  · rename_i z
    have z2 : i.natAbs ≠ 0 := fun e => z (by rw [Int.natAbs_eq_zero.mp e]; rfl)
    rcases Nat.lt_or_ge i.natAbs.log2 10 with a | a
    · exact a
    · have := Nat.pow_le_pow_right (show 0 < 2 by decide) a
      have := Nat.log2_self_le z2
      omega⟩
theorem FnL.nil : FnL K G 0 0 [] := ⟨_, .nil, BdL.nil⟩
theorem FnL.cons (f : Fn K G m1 n1 v) (g : FnL K G m2 n2 vs) : FnL K G (max m1 m2) (n1 + 1 + n2) (v :: vs) := let ⟨_, a, b⟩ := f; let ⟨_, c, e⟩ := g; ⟨_, .cons a c, BdL.cons b e⟩
theorem FnL.tup (f : FnL K G m n vs) (h : SqT K G a vs) : Fn K G (m + 1) n (.ref a) := let ⟨_, a, b⟩ := f; ⟨_, .tup h a, b.tup⟩
theorem FnL.lst (f : FnL K G m n vs) (h : SqL K G a vs) : Fn K G (m + 1) n (.ref a) := let ⟨_, a, b⟩ := f; ⟨_, .lst h a, b.lst⟩
theorem FnL.len (f : FnL K G m n vs) : vs.length ≤ n := by
  obtain ⟨ds, a, b⟩ := f
  rw [a.length]
  exact Nat.le_trans len_wt b.wt
theorem DtL.mem : ∀ {vs : List V} {ds : List PyData}, DtL K G vs ds → ∀ v ∈ vs, ∃ d ∈ ds, Dt K G v d
  | _, _, .nil, _, h => nomatch h
  | _, _, .cons h t, v, hv => by
    rcases List.mem_cons.mp hv with rfl | hv
    · exact ⟨_, List.mem_cons_self, h⟩
    · obtain ⟨d, hd, q⟩ := t.mem v hv
      exact ⟨d, List.mem_cons_of_mem _ hd, q⟩
theorem FnL.mem (f : FnL K G m n vs) : ∀ v ∈ vs, Fn K G m n v := by
  obtain ⟨ds, a, b⟩ := f
  intro v hv
  obtain ⟨d, hd, q⟩ := a.mem v hv
  exact ⟨d, q, b.mem d hd⟩
/-- of items, each within bounds -/
theorem FnL.all : ∀ {vs : List V}, (∀ v ∈ vs, Fn K G m n v) → FnL K G m ((n + 1) * vs.length) vs
  | [], _ => FnL.nil.mono (Nat.zero_le _) (Nat.zero_le _)
  | v :: vs, h => by
    have z := (FnL.cons (h v List.mem_cons_self) (FnL.all fun w hw => h w (List.mem_cons_of_mem _ hw)))
    refine z.mono (by omega) ?_
    rw [List.length_cons, Nat.mul_add]
    omega
theorem FnL.strs {xs : List Str} (h : ∀ x ∈ xs, St n x) : FnL K G 0 ((n + 1) * xs.length) (xs.map V.str) := by
  have z := FnL.all (K := K) (G := G) (vs := xs.map V.str) (m := 0) (n := n) (fun v hv => by
    obtain ⟨x, hx, rfl⟩ := List.mem_map.mp hv
    exact Fn.str (h x hx))
  rwa [List.length_map] at z
/-- repr of bounded data -/
theorem x_reprB {Q : VK} (h : Dt K H v d) (b : Bd m n d) (hm : m ≤ 60) (hn : n ≤ 2 ^ 20) (q : Q (.str d.shown) H) : rRepr K [v] H Q :=
  x_repr h (okD_fits d b.ok (Nat.le_trans b.wt hn)) (PyData.shown_fits (B := 13) (by decide) (by decide) (okD_short d b.ok) (Nat.le_trans b.wt hn)) (Nat.le_trans b.dep hm) q
end
/-! ### expressions that bring bounded data, whatever is ours -/
section
variable {K : PySem.W.Frag} {G0 : Hp} {σ : L2.St} {m n m1 n1 m2 n2 B B1 B2 : Nat} {te tf : TE} {t : TA} {v : V} {x : Str}
def FT (K : PySem.W.Frag) (G0 : Hp) (σ : L2.St) (m n : Nat) (te : TE) : Prop := ∀ (G H : Hp) (L : List (Addr × HO)) (Q : VK), Same G0 G → Own G H L → (∀ G' H' v, Same G G' → Own G' H' L → Fn K G' m n v → Q v H') → te σ H Q
def FA (K : PySem.W.Frag) (G0 : Hp) (σ : L2.St) (m n : Nat) (t : TA) : Prop := ∀ (G H : Hp) (L : List (Addr × HO)) (Q : List V → Hp → Prop), Same G0 G → Own G H L → (∀ G' H' vs, Same G G' → Own G' H' L → FnL K G' m n vs → Q vs H') → t σ H Q
theorem FT.mono (f : FT K G0 σ m1 n1 te) (h1 : m1 ≤ m) (h2 : n1 ≤ n) : FT K G0 σ m n te := fun G H L Q s O k => f G H L Q s O fun G' H' v s' O' q => k G' H' v s' O' (q.mono h1 h2)
theorem ft_var {i : Nat} (h : σ[i]? = some (some v)) (f : Fn K G0 m n v) : FT K G0 σ m n (tVar i) := fun G _ _ _ s O k => x_var h (k G _ v (Same.refl G) O (f.same s))
theorem ft_str (h : St n x) : FT K G0 σ 0 n (tC (.str x)) := fun G _ _ _ _ O k => x_c (k G _ _ (Same.refl G) O (Fn.str h))
theorem ft_non : FT K G0 σ 0 0 (tC .non) := fun G _ _ _ _ O k => x_c (k G _ _ (Same.refl G) O Fn.non)
theorem ft_bl {c : Bool} : FT K G0 σ 0 0 (tC (.bl c)) := fun G _ _ _ _ O k => x_c (k G _ _ (Same.refl G) O Fn.bl)
theorem ft_int {i : Int} (h : i.natAbs < 1000) : FT K G0 σ 0 10 (tC (.int i)) := fun G _ _ _ _ O k => x_c (k G _ _ (Same.refl G) O (Fn.int h))
theorem fa_nil : FA K G0 σ 0 0 tNil := fun G _ _ _ _ O k => x_anil (k G _ _ (Same.refl G) O FnL.nil)
theorem fa_cons (f : FT K G0 σ m1 n1 te) (g : FA K G0 σ m2 n2 t) : FA K G0 σ (max m1 m2) (n1 + 1 + n2) (tCons te t) := fun G H L Q s O k =>
  x_acons (f G H L _ s O fun G1 H1 v s1 O1 q1 => g G1 H1 L _ (s.trans s1) O1 fun G2 H2 vs s2 O2 q2 => k G2 H2 _ (s1.trans s2) O2 (FnL.cons (q1.same s2) q2))
theorem sz20 {a : Nat} (h : a ≤ 2 ^ 20) : a ≤ sizeLine := by rw [sizeLine_eq]; omega
theorem ft_tup (f : FA K G0 σ m n t) (hn : n ≤ 2 ^ 20) : FT K G0 σ (m + 1) n (dTup t) := fun G H L Q s O k =>
  x_tup (f G H L _ s O fun G1 H1 vs s1 O1 q1 => ⟨sz20 (Nat.le_trans q1.len hn), x_fix O1 fun p G2 H2 s2 O2 e => k G2 H2 _ (s1.trans s2) O2 ((q1.same s2).tup (SqT.of e))⟩)
theorem ft_lst (f : FA K G0 σ m n t) (hn : n ≤ 2 ^ 20) : FT K G0 σ (m + 1) n (dLst t) := fun G H L Q s O k =>
  x_lst (f G H L _ s O fun G1 H1 vs s1 O1 q1 => ⟨sz20 (Nat.le_trans q1.len hn), x_fix O1 fun p G2 H2 s2 O2 e => k G2 H2 _ (s1.trans s2) O2 ((q1.same s2).lst (SqL.of e))⟩)
theorem ft_dict : FT K G0 σ 1 0 dDict := fun G H L Q s O k => x_dict (x_fix O fun p G2 H2 s2 O2 e => k G2 H2 _ s2 O2 ⟨.dict [], .dic e .nil .nil, by simp only [okD, List.isEmpty_nil], by simp only [PyData.depth, PyData.depthKv]; omega, by simp only [PyData.weight, PyData.weightKv]; omega⟩)
/-- a list of our own making: B items, each in bounds -/
def Ls (K : PySem.W.Frag) (G : Hp) (m n B : Nat) (v : V) : Prop := ∃ p xs, v = .ref p ∧ G p = some (.lst xs) ∧ xs.length = B ∧ ∀ y ∈ xs, Fn K G m n y
theorem Ls.same {G G' : Hp} (l : Ls K G m n B v) (s : Same G G') : Ls K G' m n B v := let ⟨p, xs, e, h, z, a⟩ := l; ⟨p, xs, e, s _ _ h, z, fun y hy => (a y hy).same s⟩
def LT (K : PySem.W.Frag) (G0 : Hp) (σ : L2.St) (m n B : Nat) (te : TE) : Prop := ∀ (G H : Hp) (L : List (Addr × HO)) (Q : VK), Same G0 G → Own G H L → (∀ G' H' v, Same G G' → Own G' H' L → Ls K G' m n B v → Q v H') → te σ H Q
def LA (K : PySem.W.Frag) (G0 : Hp) (σ : L2.St) (m n B : Nat) (t : TA) : Prop := ∀ (G H : Hp) (L : List (Addr × HO)) (Q : List V → Hp → Prop), Same G0 G → Own G H L → (∀ G' H' vs, Same G G' → Own G' H' L → vs.length = B → (∀ y ∈ vs, Fn K G' m n y) → Q vs H') → t σ H Q
theorem la_nil : LA K G0 σ m n 0 tNil := fun G _ _ _ _ O k => x_anil (k G _ _ (Same.refl G) O rfl fun _ z => nomatch z)
theorem la_cons (f : FT K G0 σ m1 n1 te) (g : LA K G0 σ m n B t) (h1 : m1 ≤ m) (h2 : n1 ≤ n) : LA K G0 σ m n (B + 1) (tCons te t) := fun G H L Q s O k =>
  x_acons (f G H L _ s O fun G1 H1 v s1 O1 q1 => g G1 H1 L _ (s.trans s1) O1 fun G2 H2 vs s2 O2 z q2 => k G2 H2 _ (s1.trans s2) O2 (by rw [List.length_cons]; omega) fun y hy => by
    rcases List.mem_cons.mp hy with rfl | hy
    · exact (q1.same s2).mono h1 h2
    · exact q2 y hy)
theorem lt_lst (f : LA K G0 σ m n B t) (hn : B ≤ 2 ^ 20) : LT K G0 σ m n B (dLst t) := fun G H L Q s O k =>
  x_lst (f G H L _ s O fun G1 H1 vs s1 O1 z q1 => ⟨sz20 (Nat.le_trans (Nat.le_of_eq z) hn), x_fix O1 fun p G2 H2 s2 O2 e => k G2 H2 _ (s1.trans s2) O2 ⟨p, vs, rfl, e, z, fun y hy => (q1 y hy).same s2⟩⟩)
theorem lt_var {i : Nat} (h : σ[i]? = some (some v)) (f : Ls K G0 m n B v) : LT K G0 σ m n B (tVar i) := fun G _ _ _ s O k => x_var h (k G _ v (Same.refl G) O (f.same s))
theorem lt_add (f : LT K G0 σ m n B1 te) (g : LT K G0 σ m n B2 tf) (hn : B1 + B2 ≤ 2 ^ 20) : LT K G0 σ m n (B1 + B2) (tOp (aAdd K) te tf) := fun G H L Q s O k =>
  x_op (f G H L _ s O fun G1 H1 v s1 O1 l1 => g G1 H1 L _ (s.trans s1) O1 fun G2 H2 w s2 O2 l2 => by
    obtain ⟨p, xs, rfl, hp, z1, a1⟩ := l1.same s2
    obtain ⟨q, ys, rfl, hq, z2, a2⟩ := l2
    refine x_addl (O2.sub _ _ hp) (O2.sub _ _ hq) (sz20 (by omega)) (x_fix O2 fun r G3 H3 s3 O3 e => k G3 H3 _ ((s1.trans s2).trans s3) O3 ⟨r, _, rfl, e, by rw [List.length_append]; omega, fun y hy => ?_⟩)
    rcases List.mem_append.mp hy with hy | hy
    · exact (a1 y hy).same s3
    · exact (a2 y hy).same s3)
theorem ft_addsv {i : Nat} {a : Str} (h : σ[i]? = some (some (.str x))) (sx : St m x) (sa : St n a) (hz : n + m ≤ 2 ^ 20) : FT K G0 σ 0 (n + m) (tOp (aAdd K) (tC (.str a)) (tVar i)) := fun G _ _ _ s O k =>
  x_op (x_c (x_var h (x_adds (sz20 (by have := sx.2; have := sa.2; omega)) (k G _ _ (Same.refl G) O (Fn.str (sa.app sx))))))
end
end G
set_option maxHeartbeats 4000000
/-! Part K: the rules with the fragment named, for use within comprehensions. -/
namespace G
open PySem PySem.Spec PyProof.Rows L2
section
variable {X : Cx} {K : PySem.W.Frag} {k : Nat} {te : TE} {e tg : Expr}
theorem oAddK (h : X.K = K) : OpR X (binaryOp .Add) (aAdd K) := h ▸ oAdd
theorem oEqK (h : X.K = K) (r : Rm k X.A) : OpR X (compareOp .Eq) (aEq K) := h ▸ oEq r
theorem oNeK (h : X.K = K) (r : Rm k X.A) : OpR X (compareOp .NotEq) (aNe K) := h ▸ oNe r
theorem oInK (h : X.K = K) : OpR X (compareOp .In) (rIn K false) := h ▸ oIn
theorem oNinK (h : X.K = K) : OpR X (compareOp .NotIn) (rIn K true) := h ▸ oNin
theorem oSlK (h : X.K = K) : SlR X (aSl K) := h ▸ oSl
theorem cLenK (h : X.K = K) : CallR X (.builtin "len") (aLen K) := h ▸ cLen
theorem cListK (h : X.K = K) : CallR X (.type "list") (aList K) := h ▸ cList
theorem cTupleK (h : X.K = K) : CallR X (.type "tuple") (aTuple K) := h ▸ cTuple
theorem cIsiK (h : X.K = K) : CallR X (.builtin "isinstance") (aIsi K) := h ▸ cIsi
theorem cSortedK (h : X.K = K) : CallR X (.builtin "sorted") (aSorted K) := h ▸ cSorted
theorem cReprK (h : X.K = K) (r : Rm k X.A) : CallR X (.builtin "repr") (rRepr K) := h ▸ call_repr r
theorem cSumK (h : X.K = K) (c : X.calm = true) : CallR X (.builtin "sum") (rSum K) := h ▸ cr_sum c
theorem cAllK (h : X.K = K) (c : X.calm = true) : CallR X (.builtin "all") (rAll K) := h ▸ cr_all c
theorem cMaxK (h : X.K = K) (c : X.calm = true) : CallR X (.builtin "max") (rMax K) := h ▸ cr_max c
theorem cMinK (h : X.K = K) (c : X.calm = true) : CallR X (.builtin "min") (rMin K) := h ▸ cr_min c
theorem pg_tupK {es : List Expr} {k n : Nat} {t : TGs} {pos : Pos} (h : X.K = K) (hc : X.calm = true) (z : PGs X es t)
    (hn : (assignEach es X.env).length = n := by rfl) (hst : (assignEach es X.env).findIdx? (·.1) = none := by rfl) : PG X (.Tuple es k pos) (gTup K n t) := h ▸ pg_tup hc z hn hst
theorem mJoinK (h : X.K = K) : MtR X "str.join" (aJoin K) := h ▸ mJoin
theorem ixK (h : X.K = K) : IxR X (rIx K) := h ▸ ix_seq
theorem d_revLK {n : Nat} {p1 p2 p3 pos : Pos} (h : X.K = K) (he : PE X e te) : PE X (.Subscript e (.Slice none none (some (.UnaryOp .USub (.Constant (.int 1) n p1) p2)) p3) pos) (aRevL K te) := h ▸ d_revL he
theorem pi_sqK (h : X.K = K) (he : PE X e te) : PI X tg e (iSq K te) := h ▸ pi_sq he
theorem pt_truK (h : X.K = K) {a : Expr} {ta : TE} (ha : PE X a ta) (he : ∀ whole, isTrue a X.env whole = (do let v ← whole; standAt a.pos; holding [v] (truthy v)) := by intro _; rfl) : PT X a (tTru K ta) := h ▸ pt_tru ha he
theorem pe_bm0K' {T name : Str} {id : String} {r : V → List V → Hp → VK → Prop} {o : Expr} {to : TE} {apos cpos : Pos} {Ty : String} (h : X.K = K) (pa : PlainAttrs Ty) (slot : Slot Ty name id) (hty : typeOf (.builtin id) = pure (.type "method_descriptor")) (hm : MtR X id r) (ho : PE X o to)
    (hbase : attributeBase o name X.env (eval o X.env) = eval o X.env := by rfl) (hline : (apos.endLine == cpos.line) = true := by rfl) : PE X (.Call (.Attribute o name apos) [] [] cpos) (tBM0 K Ty r to) := h ▸ pe_bm0 pa slot hty hm ho hbase hline
theorem pe_bmK' {name : Str} {id : String} {r : V → List V → Hp → VK → Prop} {o : Expr} {es : List Expr} {to : TE} {t : TA} {apos cpos : Pos} {Ty : String} (h : X.K = K) (pa : PlainAttrs Ty) (slot : Slot Ty name id) (hty : typeOf (.builtin id) = pure (.type "method_descriptor")) (hm : MtR X id r) (ho : PE X o to) (ha : PA X (e :: es) t)
    (hbase : attributeBase o name X.env (eval o X.env) = eval o X.env := by rfl)
    (hfew : ((backTo cpos (starEach (e :: es) X.env)).all (fun x => !x.1) && (backToKw cpos (keywordEach [] X.env)).all (fun x => x.1.isSome)
      && decide ((e :: es).length + ([] : List Keyword).length + (if ([] : List Keyword).isEmpty then 0 else 1) < 30)) = true := by rfl)
    (hline : (apos.endLine == cpos.line) = true := by rfl) (hs : starEach (e :: es) X.env = (false, eval e X.env) :: starEach es X.env := by rfl) (hplain : (backTo cpos (starEach es X.env)).any (·.1) = false := by rfl) :
    PE X (.Call (.Attribute o name apos) (e :: es) [] cpos) (tBM K Ty r to t) := h ▸ pe_bm pa slot hty hm ho ha hbase hfew hline hs hplain
end
section
variable {σ : L2.St} {H : Hp} {v : V} {q : L2.St → Hp → Prop}
theorem x_gT {K : PySem.W.Frag} {n : Nat} {t : TGs} {p : Addr} {xs : List V} (h : SqT K H p xs) (hl : xs.length = n) (z : t xs σ H q) : gTup K n t (.ref p) σ H q := ⟨p, xs, rfl, h, hl, z⟩
theorem x_gC {t : TG} {u : TGs} {r : List V} (z : t v σ H fun σ' H' => u r σ' H' q) : gCons t u (v :: r) σ H q := ⟨v, r, rfl, z⟩
theorem x_gNl (z : q σ H) : gNil [] σ H q := ⟨rfl, z⟩
theorem x_gN {m : Nat} {σ' : L2.St} (hs : σ.set m (some v) = σ') (h : q σ' H) : gName m v σ H q := by
  show q (σ.set m (some v)) H
  rw [hs]
  exact h
variable {n b1 c1 : L2.St → Hp → Prop} {r1 : VK}
theorem x_start {N : List Str} {vs : List V} {t : TS} {D : Ends} {σ' : L2.St} (hs : L2.start N vs = σ') (h : t D σ' H) : t D (L2.start N vs) H := by rw [hs]; exact h
theorem x_asgN {te : TE} {m : Nat} {σ' : V → L2.St} (hs : ∀ x, σ.set m (some x) = σ' x) (h : te σ H fun x H1 => n (σ' x) H1) : tAsg te (gName m) ⟨n, r1, b1, c1⟩ σ H := by
  refine x_asg ?_
  simp only [hs]
  exact h
theorem x_parN {m l : Nat} {ta : TA} {σ' : V → V → L2.St} (hs : ∀ v w, (σ.set m (some v)).set l (some w) = σ' v w) (h : ta σ H fun vs H1 => ∃ v w, vs = [v, w] ∧ n (σ' v w) H1) : tPar m l ta ⟨n, r1, b1, c1⟩ σ H := by
  refine x_par ?_
  simp only [hs]
  exact h
theorem x_par3N {m l o : Nat} {ta : TA} {σ' : V → V → V → L2.St} (hs : ∀ u v w, ((σ.set m (some u)).set l (some v)).set o (some w) = σ' u v w) (h : ta σ H fun vs H1 => ∃ u v w, vs = [u, v, w] ∧ n (σ' u v w) H1) : tPar3 m l o ta ⟨n, r1, b1, c1⟩ σ H := by
  refine x_par3 ?_
  simp only [hs]
  exact h
end
end G
set_option maxHeartbeats 4000000
/-! Part L: comprehensions by what each element brings. -/
namespace G
open PySem PySem.Spec PyProof.Rows L2
theorem map_eras {α β : Type} (f : α → β) : ∀ (l : List α) (n : Nat), (l.eraseIdx n).map f = (l.map f).eraseIdx n
  | [], _ => rfl
  | _ :: _, 0 => rfl
  | a :: l, n + 1 => by rw [List.eraseIdx_cons_succ, List.map_cons, List.map_cons, List.eraseIdx_cons_succ, map_eras f l n]
theorem perm_eras {α : Type} : ∀ (l : List α) (n : Nat) (h : n < l.length), (l[n] :: l.eraseIdx n).Perm l
  | [], _, h => absurd h (Nat.not_lt_zero _)
  | _ :: _, 0, _ => List.Perm.refl _
  | a :: l, n + 1, h => (List.Perm.swap a _ _).trans (List.Perm.cons a (perm_eras l n (Nat.lt_of_succ_lt_succ h)))
theorem seqIndex?_nat {n m : Nat} (h : n < m) : seqIndex? (n : Int) m = some n := by
  unfold seqIndex?
  simp only [show ¬ ((n : Int) < 0) by omega, if_false]
  simp [h]
/-! a statement after which only one variable and the heap matter -/
theorem x_cutV {A : TS} {σ : L2.St} {H : Hp} {n b1 c1 : L2.St → Hp → Prop} {r1 : VK} {σ' : V → L2.St} (m : Nat) (hs : ∀ x, σ.set m (some x) = σ' x) (R : V → Hp → Prop) (h2 : ∀ n : L2.St → Hp → Prop, (∀ v H, R v H → n (σ' v) H) → A ⟨n, r1, b1, c1⟩ σ H)
    (h1 : ∀ v H, R v H → n (σ' v) H) : A ⟨n, r1, b1, c1⟩ σ H := h2 n h1
/-! lists by their items -/
theorem strs_of {P : Str → Prop} : ∀ {ys : List V}, (∀ y ∈ ys, ∃ x, y = .str x ∧ P x) → ∃ xs : List Str, ys = xs.map V.str ∧ ∀ x ∈ xs, P x
  | [], _ => ⟨[], rfl, fun _ z => nomatch z⟩
  | y :: ys, h => by
    obtain ⟨x, rfl, px⟩ := h y List.mem_cons_self
    obtain ⟨xs, rfl, q⟩ := strs_of fun z hz => h z (List.mem_cons_of_mem _ hz)
    exact ⟨x :: xs, rfl, fun z hz => by
      rcases List.mem_cons.mp hz with rfl | hz
      · exact px
      · exact q z hz⟩
theorem by_ix {α : Type} {P : α → Prop} {ys : List α} (h : ∀ (i : Nat) (y : α), ys[i]? = some y → P y) : ∀ y ∈ ys, P y := fun y hy => by
  obtain ⟨i, e⟩ := List.mem_iff_getElem?.mp hy
  exact h i y e
theorem eq_of_ix {α β : Type} {f : α → β} {xs : List α} {ys : List β} (hl : ys.length = xs.length) (h : ∀ (i : Nat) (y : β), ys[i]? = some y → ∃ x, xs[i]? = some x ∧ y = f x) : ys = xs.map f := by
  refine List.ext_getElem? fun i => ?_
  rw [List.getElem?_map]
  cases e : ys[i]? with
  | none =>
    have := List.getElem?_eq_none_iff.mp e
    rw [List.getElem?_eq_none (by omega)]
    rfl
  | some y =>
    obtain ⟨x, ex, rfl⟩ := h i y e
    rw [ex]
    rfl
theorem eq_of_rg {β : Type} {f : Nat → β} {n : Nat} {ys : List β} (hl : ys.length = n) (h : ∀ (i : Nat) (y : β), ys[i]? = some y → y = f i) : ys = (List.range n).map f := by
  refine eq_of_ix (by rw [List.length_range]; exact hl) fun i y e => ?_
  have := (List.getElem?_eq_some_iff.mp e).1
  exact ⟨i, by rw [List.getElem?_range (by omega)], h i y e⟩
section
variable {σ : L2.St} {H : Hp} {Q : VK} {K : PySem.W.Frag} {g : TG} {tt : TT} {te : TE} {vs : List Nat}
variable {J : It} {n : Nat} {Gd : Hp → Prop} {Y : Nat → Hp → V → Hp → Prop} {G : Hp} {L : List (Addr × HO)}
theorem lt_line {n : Nat} (h : n < 2 ^ 20) : n < sizeLine := by rw [sizeLine_eq]; omega
def PvM (L : List (Addr × HO)) (Rl : Hp → Nat → V → Prop) : Nat → Hp → List (Addr × HO) → List V → Prop := fun i G' L' acc => L' = L ∧ acc.length = i ∧ ∀ (j : Nat) (y : V), acc[j]? = some y → Rl G' j y
/-- no condition: what each element brings, kept -/
theorem lc_map {σw : L2.St} (hw : wipe σ vs = σw) (W : Walk J n Gd Y) (O : Own G H L) (hn : n ≤ 2 ^ 20) (Rl : Hp → Nat → V → Prop) (mono : ∀ G G' i y, Same G G' → Rl G i y → Rl G' i y)
    (hG : ∀ (G' H' : Hp) (D : Addr) (acc : List V), Same G G' → Own G' H' ((D, .lst acc) :: L) → Gd H')
    (st : ∀ (i : Nat) (x : V) (G' H' H2 : Hp) (D : Addr) (acc : List V), i < n → Same G G' → Own G' H' ((D, .lst acc) :: L) → Y i H' x H2 →
      (∀ y G4 H4, Same G' G4 → Own G4 H4 ((D, .lst acc) :: L) → Rl G4 i y → LcN G (PvM L Rl) D i y H4) → g x σw H2 fun σ2 H2 => wipe σ2 vs = σw ∧ te σ2 H2 (LcN G (PvM L Rl) D i))
    (gm : ∀ (x : V) (σ' : L2.St) (H' : Hp) (S S' : L2.St → Hp → Prop), (∀ a b, S a b → S' a b) → g x σ' H' S → g x σ' H' S')
    (fin : ∀ (G' H' : Hp) (p : Addr) (ys : List V), Same G G' → Own G' H' L → G' p = some (.lst ys) → ys.length = n → (∀ (i : Nat) (y : V), ys[i]? = some y → Rl G' i y) → Q (.ref p) H') : tLc (iAt J) g tYes te vs σ H Q := by
  subst hw
  refine lc_own rfl W O (PvM L Rl) ⟨rfl, rfl, fun j y e => by simp at e⟩ ?_ ?_ ?_
  · rintro i G' H' D L' acc s' O' ⟨rfl, _⟩
    exact hG G' H' D acc s' O'
  · rintro i x G' H' H2 D L' acc hi s' O' ⟨rfl, hl, hr⟩ y
    refine gm _ _ _ _ _ (fun a b => ?_) (st i x G' H' H2 D acc hi s' O' y ?_)
    · rintro ⟨e1, e2⟩
      exact ⟨e1, x_yes (ite_t e2)⟩
    · intro v G4 H4 s4 O4 r4
      refine lcn (s'.trans s4) O4 (lt_line (by omega)) ⟨rfl, by rw [List.length_append]; simp [hl], fun j w e => ?_⟩
      rcases Nat.lt_trichotomy j acc.length with h | h | h
      · rw [List.getElem?_append_left h] at e
        exact mono _ _ _ _ s4 (hr j w e)
      · subst h
        rw [List.getElem?_append_right (Nat.le_refl _), Nat.sub_self] at e
        cases e
        rw [hl]
        exact r4
      · rw [List.getElem?_eq_none (by rw [List.length_append]; simp; omega)] at e
        cases e
  · rintro G' H' D L' acc s' O' ⟨rfl, hl, hr⟩
    exact fin (upd G' D (.lst acc)) H' D acc (s'.trans (Same.new O'.no0)) O'.frz0 upd_same hl fun i y e => mono _ _ _ _ (Same.new O'.no0) (hr i y e)
theorem gm_name {m : Nat} : ∀ (x : V) (σ' : L2.St) (H' : Hp) (S S' : L2.St → Hp → Prop), (∀ a b, S a b → S' a b) → gName m x σ' H' S → gName m x σ' H' S' := fun _ _ _ _ _ h z => h _ _ z
def PvF (L : List (Addr × HO)) (xs : List V) (p : V → Bool) : Nat → Hp → List (Addr × HO) → List V → Prop := fun i _ L' acc => L' = L ∧ acc = (xs.take i).filter p
/-- the items of xs that p keeps -/
theorem lc_filt {σw : L2.St} (hw : wipe σ vs = σw) {xs : List V} {m : Nat} (W : Walk J xs.length Gd Y) (hY : ∀ i H x H', i < xs.length → Y i H x H' → H' = H ∧ xs[i]? = some x) (O : Own G H L) (hn : xs.length ≤ 2 ^ 20) (p : V → Bool)
    (hG : ∀ (G' H' : Hp) (D : Addr) (acc : List V), Same G G' → Own G' H' ((D, .lst acc) :: L) → Gd H')
    (st : ∀ (i : Nat) (x : V) (G' H' : Hp) (D : Addr) (acc : List V), i < xs.length → xs[i]? = some x → Same G G' → Own G' H' ((D, .lst acc) :: L) →
      (∀ G4 H4 σ4, Same G' G4 → Own G4 H4 ((D, .lst acc) :: L) → p x = true → σ4[m]? = some (some x) → tVar m σ4 H4 (LcN G (PvF L xs p) D i)) →
      (∀ G4 H4, Same G' G4 → Own G4 H4 ((D, .lst acc) :: L) → p x = false → PvH G (PvF L xs p) D (i + 1) H4) →
      g x σw H' fun σ2 H2 => wipe σ2 vs = σw ∧ tt σ2 H2 fun k H3 => if k = true then tVar m σ2 H3 (LcN G (PvF L xs p) D i) else PvH G (PvF L xs p) D (i + 1) H3)
    (fin : ∀ (G' H' : Hp) (q : Addr), Same G G' → Own G' H' L → G' q = some (.lst (xs.filter p)) → Q (.ref q) H') : tLc (iAt J) g tt (tVar m) vs σ H Q := by
  subst hw
  have tk : ∀ i x, xs[i]? = some x → xs.take (i + 1) = xs.take i ++ [x] := fun i x e => by
    rw [List.take_add_one, e]
    rfl
  refine lc_own rfl W O (PvF L xs p) ⟨rfl, rfl⟩ ?_ ?_ ?_
  · rintro i G' H' D L' acc s' O' ⟨rfl, _⟩
    exact hG G' H' D acc s' O'
  · rintro i x G' H' H2 D L' acc hi s' O' ⟨rfl, rfl⟩ yy
    obtain ⟨rfl, ex⟩ := hY _ _ _ _ hi yy
    refine st i x G' _ D _ hi ex s' O' ?_ ?_
    · intro G4 H4 σ4 s4 O4 px e4
      refine x_var e4 (lcn (s'.trans s4) O4 ?_ ⟨rfl, ?_⟩)
      · refine lt_line (Nat.lt_of_le_of_lt (List.length_filter_le _ _) ?_)
        rw [List.length_take]
        omega
      · rw [tk i x ex, List.filter_append]
        simp [px]
    · intro G4 H4 s4 O4 px
      refine ⟨G4, _, _, s'.trans s4, O4, rfl, ?_⟩
      rw [tk i x ex, List.filter_append]
      simp [px]
  · rintro G' H' D L' acc s' O' ⟨rfl, rfl⟩
    rw [List.take_length] at O'
    exact fin (upd G' D _) H' D (s'.trans (Same.new O'.no0)) O'.frz0 upd_same
end
end G
namespace G
open PySem PySem.Spec PyProof.Rows L2
/-! displays whose items all are of one kind -/
section
variable {G0 : Hp} {σ : L2.St} {m n : Nat} {te tf : TE} {t : TA} {K : PySem.W.Frag} {Pd : Hp → V → Prop}
def FP (G0 : Hp) (σ : L2.St) (Pd : Hp → V → Prop) (te : TE) : Prop := ∀ (G H : Hp) (L : List (Addr × HO)) (Q : VK), Same G0 G → Own G H L → (∀ G' H' v, Same G G' → Own G' H' L → Pd G' v → Q v H') → te σ H Q
def LP (G0 : Hp) (σ : L2.St) (Pd : Hp → V → Prop) (n : Nat) (t : TA) : Prop := ∀ (G H : Hp) (L : List (Addr × HO)) (Q : List V → Hp → Prop), Same G0 G → Own G H L → (∀ G' H' vs, Same G G' → Own G' H' L → vs.length = n → (∀ y ∈ vs, Pd G' y) → Q vs H') → t σ H Q
theorem lp_nil : LP G0 σ Pd 0 tNil := fun G _ _ _ _ O k => x_anil (k G _ _ (Same.refl G) O rfl fun _ z => nomatch z)
theorem lp_cons (mono : ∀ G G' v, Same G G' → Pd G v → Pd G' v) (f : FP G0 σ Pd te) (g : LP G0 σ Pd n t) : LP G0 σ Pd (n + 1) (tCons te t) := fun G H L Q s O k =>
  x_acons (f G H L _ s O fun G1 H1 v s1 O1 q1 => g G1 H1 L _ (s.trans s1) O1 fun G2 H2 vs s2 O2 z q2 => k G2 H2 _ (s1.trans s2) O2 (by rw [List.length_cons]; omega) fun y hy => by
    rcases List.mem_cons.mp hy with rfl | hy
    · exact mono _ _ _ s2 q1
    · exact q2 y hy)
def Lp (Pd : Hp → V → Prop) (n : Nat) (G : Hp) (v : V) : Prop := ∃ p xs, v = .ref p ∧ G p = some (.lst xs) ∧ xs.length = n ∧ ∀ y ∈ xs, Pd G y
theorem lp_lst (mono : ∀ G G' v, Same G G' → Pd G v → Pd G' v) (f : LP G0 σ Pd n t) (hn : n ≤ 2 ^ 20) : FP G0 σ (Lp Pd n) (dLst t) := fun G H L Q s O k =>
  x_lst (f G H L _ s O fun G1 H1 vs s1 O1 z q1 => ⟨sz20 (Nat.le_trans (Nat.le_of_eq z) hn), x_fix O1 fun p G2 H2 s2 O2 e => k G2 H2 _ (s1.trans s2) O2 ⟨p, vs, rfl, e, z, fun y hy => mono _ _ _ s2 (q1 y hy)⟩⟩)
end
end G
set_option maxHeartbeats 4000000
/-! Part M: types of data; sorted texts; lists with one item changed. -/
namespace G
open PySem PySem.Spec PyProof.Rows L2
def tyN : PyData → String
  | .none => "NoneType"
  | .bool _ => "bool"
  | .int _ => "int"
  | .str _ => "str"
  | .list _ => "list"
  | .tuple _ => "tuple"
  | .dict _ => "dict"
section
variable {K : PySem.W.Frag} {G H : Hp} {v : V} {d e : PyData} {ds : List PyData} {vs : List V} {Q : VK}
theorem ty_lst {a : Addr} {xs : List V} (h : SqL K H a xs) : TyX K H (.ref a) (.type "list") := by
  rcases h with (h | ⟨o, h⟩) | ⟨o, _, _, h, c, _⟩
  · exact .base (.lst h)
  · exact .base (.frz h)
  · exact .kList h c
theorem ty_tup {a : Addr} {xs : List V} (h : SqT K H a xs) : TyX K H (.ref a) (.type "tuple") := by
  rcases h with (h | ⟨o, h⟩) | ⟨o, _, _, h, c, _⟩
  · exact .base (.tup h)
  · exact .fTuple h
  · exact .kTuple h c
theorem Dt.ty (h : Dt K H v d) : TyX K H v (.type (tyN d)) := by
  cases h with
  | non => exact .base .non
  | bl b => exact .base (.bl b)
  | int i => exact .base (.int i)
  | str x => exact .base (.str x)
  | lst h _ => exact ty_lst h
  | tup h _ => exact ty_tup h
  | dic h _ _ => exact .base (.dK h)
theorem k1_tuple (d : PyData) : PySem.W.kitOne K (.type (tyN d)) (.type "tuple") = some (tyN d == "tuple") := by cases d <;> rfl
theorem k1_str (d : PyData) : PySem.W.kitOne K (.type (tyN d)) (.type "str") = some (tyN d == "str") := by cases d <;> rfl
theorem k1_list (d : PyData) : PySem.W.kitOne K (.type (tyN d)) (.type "list") = some (tyN d == "list") := by cases d <;> rfl
theorem x_isiT (h : Dt K H v d) (q : Q (.bl (tyN d == "tuple")) H) : aIsi K [v, .ty "tuple"] H Q := .inl ⟨v, _, _, _, _, rfl, .ty _, h.ty, k1_tuple d, q⟩
theorem x_isiS (h : Dt K H v d) (q : Q (.bl (tyN d == "str")) H) : aIsi K [v, .ty "str"] H Q := .inl ⟨v, _, _, _, _, rfl, .ty _, h.ty, k1_str d, q⟩
theorem x_isiLT {p : Addr} (h : Dt K H v d) (hp : H p = some (.tup [.ty "list", .ty "tuple"])) (q : Q (.bl (tyN d == "list" || tyN d == "tuple")) H) : aIsi K [v, .ref p] H Q :=
  .inr ⟨v, p, _, _, [.type "list", .type "tuple"], _, rfl, hp, .cons (.ty _) (.cons (.ty _) .nil), h.ty, by
    unfold PySem.W.kitAny PySem.W.kitAny
    rw [k1_list, k1_tuple]
    cases tyN d == "list" <;> cases tyN d == "tuple" <;> rfl, q⟩
theorem ixN_nat {n j : Nat} (h : j < n) : ixN n (j : Int) = some j := by
  unfold ixN
  simp [h]
theorem x_sortedS {a : Addr} {xs : List Str} (h : SqL K H a (xs.map V.str)) (hl : xs.length < 64) (k : ∀ ys, ys.Perm xs → sortedS ys = true → nw (.lst (ys.map V.str)) H Q) : aSorted K [.ref a] H Q := .inr ⟨a, xs, rfl, h, hl, fun ys p hp hs hn => k ys hp hs p hn⟩
theorem DtL.set : ∀ {vs : List V} {ds : List PyData} (i : Nat), DtL K H vs ds → Dt K H v e → DtL K H (vs.set i v) (ds.set i e)
  | _, _, _, .nil, _ => .nil
  | _, _, 0, .cons _ t, g => .cons g t
  | _, _, i + 1, .cons h t, g => .cons h (t.set i g)
theorem DtL.get : ∀ {vs : List V} {ds : List PyData} (i : Nat) {d : PyData}, DtL K H vs ds → ds[i]? = some d → ∃ v, vs[i]? = some v ∧ Dt K H v d
  | _, _, _, _, .nil, e => by simp at e
  | _, _, 0, _, .cons h _, e => by
    rw [List.getElem?_cons_zero] at e
    cases e
    exact ⟨_, rfl, h⟩
  | _, _, i + 1, _, .cons _ t, e => by
    rw [List.getElem?_cons_succ] at e
    obtain ⟨v, ev, hv⟩ := t.get i e
    exact ⟨v, by rw [List.getElem?_cons_succ]; exact ev, hv⟩
theorem okDL_get : ∀ {ds : List PyData} (i : Nat) {d : PyData}, okDL ds = true → ds[i]? = some d → okD d = true
  | [], _, _, _, e => by simp at e
  | d :: ds, 0, _, h, e => by
    simp only [okDL, Bool.and_eq_true] at h
    rw [List.getElem?_cons_zero] at e
    cases e
    exact h.1
  | d :: ds, i + 1, _, h, e => by
    simp only [okDL, Bool.and_eq_true] at h
    rw [List.getElem?_cons_succ] at e
    exact okDL_get i h.2 e
theorem okDL_set : ∀ {ds : List PyData} (i : Nat), okDL ds = true → okD e = true → okDL (ds.set i e) = true
  | [], _, _, _ => rfl
  | d :: ds, 0, h, g => by
    simp only [okDL, Bool.and_eq_true] at h
    simp only [List.set, okDL, g, h.2, Bool.and_true]
  | d :: ds, i + 1, h, g => by
    simp only [okDL, Bool.and_eq_true] at h
    simp only [List.set, okDL, h.1, okDL_set i h.2 g, Bool.and_true]
theorem dep_get : ∀ {ds : List PyData} (i : Nat) {d : PyData}, ds[i]? = some d → d.depth ≤ PyData.depthAll ds
  | [], _, _, e => by simp at e
  | d :: ds, 0, _, e => by
    rw [List.getElem?_cons_zero] at e
    cases e
    simp only [PyData.depthAll]
    omega
  | d :: ds, i + 1, _, e => by
    rw [List.getElem?_cons_succ] at e
    have := dep_get i e
    simp only [PyData.depthAll]
    omega
theorem dep_set : ∀ {ds : List PyData} (i : Nat), PyData.depthAll (ds.set i e) ≤ max (PyData.depthAll ds) e.depth
  | [], _ => Nat.le_max_left _ _
  | d :: ds, 0 => by
    simp only [List.set, PyData.depthAll]
    omega
  | d :: ds, i + 1 => by
    have := dep_set (ds := ds) i
    simp only [List.set, PyData.depthAll]
    omega
theorem wt_set : ∀ {ds : List PyData} (i : Nat) {d : PyData}, ds[i]? = some d → PyData.weightAll (ds.set i e) + d.weight = PyData.weightAll ds + e.weight
  | [], _, _, h => by simp at h
  | d :: ds, 0, _, h => by
    rw [List.getElem?_cons_zero] at h
    cases h
    simp only [List.set, PyData.weightAll]
    omega
  | d :: ds, i + 1, _, h => by
    rw [List.getElem?_cons_succ] at h
    have := wt_set (ds := ds) i h
    simp only [List.set, PyData.weightAll]
    omega
theorem cut1 {a : V} {xs : List V} : cutV (a :: xs) (some 1) none = xs := by
  have h : HT.sIx (a :: xs).length 0 (some 1) = 1 := by
    have := HT.sIx_nat (a :: xs).length 0 1
    rw [List.length_cons] at this ⊢
    exact this.trans (by omega)
  unfold cutV
  rw [h]
  show (List.drop 1 (a :: xs)).take ((a :: xs).length - 1) = xs
  simp
/-- a place in data -/
def okP : List Nat → PyData → Prop
  | [], _ => True
  | i :: r, .list ds => ∃ d, ds[i]? = some d ∧ okP r d
  | i :: r, .tuple ds => ∃ d, ds[i]? = some d ∧ okP r d
  | _ :: _, _ => False
end
end G
set_option maxHeartbeats 4000000
/-! Part T: a tuple read backwards, t[::-1]. -/
namespace G
open PySem PySem.Spec PyProof.Rows L2 HT
theorem fm_congr {α β : Type} {f g : α → Option β} : ∀ {l : List α}, (∀ a ∈ l, f a = g a) → l.filterMap f = l.filterMap g
  | [], _ => rfl
  | a :: l, h => by
    rw [List.filterMap_cons, List.filterMap_cons, h a List.mem_cons_self, fm_congr fun b hb => h b (List.mem_cons_of_mem _ hb)]
theorem back_pick (xs : Array Value) : ((List.range xs.size).filterMap fun (m : Nat) => xs[(((xs.size : Int) - 1) + (m : Int) * -1).toNat]?).toArray = xs.toList.reverse.toArray := by
  congr 1
  have e : ∀ m ∈ List.range xs.size, xs[(((xs.size : Int) - 1) + (m : Int) * -1).toNat]? = some (xs.toList.reverse.getD m .none) := by
    intro m hm
    have h := List.mem_range.mp hm
    have i : (((xs.size : Int) - 1) + (m : Int) * -1).toNat = xs.size - 1 - m := by omega
    have i2 : xs.size - 1 - m < xs.size := by omega
    rw [i, Array.getElem?_eq_getElem i2, List.getD_eq_getElem?_getD, List.getElem?_reverse (by simpa using h), List.getElem?_eq_getElem (by simp; omega)]
    simp
  have e2 : (List.range xs.size).filterMap (fun (m : Nat) => xs[(((xs.size : Int) - 1) + (m : Int) * -1).toNat]?) = (List.range xs.size).filterMap (fun m => some (xs.toList.reverse.getD m .none)) := fm_congr e
  rw [e2]
  show List.filterMap (some ∘ fun m => xs.toList.reverse.getD m .none) _ = _
  rw [List.filterMap_eq_map]
  refine List.ext_getElem? fun j => ?_
  rw [List.getElem?_map]
  by_cases h : j < xs.size
  · rw [List.getElem?_range h, Option.map_some, List.getD_eq_getElem?_getD, List.getElem?_eq_getElem (by simpa using h)]
    rfl
  · rw [List.getElem?_eq_none (by simpa using h), List.getElem?_eq_none (by simpa using h)]
    rfl
section
variable {P : Program} {w : World} {A : Around} {E : Value → Shared → Prop} {z : Shared}
theorem back_tuple {p q : Addr} {xs : Array Value} {a b c : Value} {Q : Value → Shared → Prop} (tp : IsTup z.heap p xs) (sl : z.heap.IsSliceOf q a b c) (pa : IsPart a none) (pb : IsPart b none) (pc : IsPart c (some (-1))) (few : xs.size ≤ sizeLine)
    (k : Q (.ref z.heap.objs.size) { z with heap := z.heap.push { cls := .type "tuple", data := .seq xs.toList.reverse.toArray } }) : wpAny (model P w) A (getItem (.ref p) (.ref q)) Q E z := by
  have room : sizeOk (.seq xs.toList.reverse.toArray) := by
    show (xs.toList.reverse.toArray).size ≤ sizeLine
    simpa using few
  obtain ⟨o, at_, cl, fl⟩ := id sl
  have tq : z.TypeIs (.ref q) "slice" := ⟨o, at_, cl⟩
  unfold getItem
  try with_reducible refine wpAny_holding ?_
  first
    | refine wpAny_bind (wpAny_pure ?_)
    | skip
  refine wpAny_bind (wpAny_sequenceKey tp.typeIs (by decide) ?_)
  refine wpAny_bind (wpAny_callSpecial?_slot (name := ("__getitem__" : Str)) tp.typeIs PyProof.Rows.slot_tuple_getitem (wpAny_call_entry PyProof.Rows.slot_tuple_getitem tp.typeIs entry_tuple_getitem ?_ (args_tuple_getitem _ _)))
  show wpAny _ _ (Builtin.Tuple.tupleItemsOf (.ref p) >>= _) _ _ z
  refine wpAny_bind (tupleItemsOf_ tp (wpAny_bind (wpAny_typeOf tq ?_)))
  rw [if_pos (show (Value.type "slice" == Value.type "slice") = true by decide)]
  refine wpAny_bind ?_
  unfold Builtin.Slice.sliceApplied Builtin.Slice.sliceFields
  refine wpAny_bind (wpAny_bind (wpAny_field at_ fl (x := a) rfl (wpAny_bind (wpAny_field at_ fl (x := b) rfl (wpAny_bind (wpAny_field at_ fl (x := c) rfl (wpAny_pure ?_)))))))
  refine wpAny_bind (slicePart_ pc ?_)
  show wpAny _ _ (if ((-1 : Int) == 0) = true then _ else _) _ _ z
  rw [if_neg (show ¬ ((-1 : Int) == 0) = true by decide)]
  refine wpAny_bind (slicePart_ pa (wpAny_bind (slicePart_ pb (wpAny_bind (wpAny_pure (wpAny_pure ?_))))))
  have places : Builtin.Slice.slicePlaces ((xs.size : Int) - 1) (-1) (-1) = xs.size := by
    unfold Builtin.Slice.slicePlaces
    rw [if_neg (show ¬ (-1 : Int) > 0 by decide)]
    split
    · show (((xs.size : Int) - 1 - -1 - 1) / 1 + 1).toNat = xs.size
      rw [Int.ediv_one]
      omega
    · show (0 : Int).toNat = xs.size
      omega
  show wpAny _ _ (if (((xs.size : Int) - 1) == 0 && (-1 : Int) == 1 && Builtin.Slice.slicePlaces ((xs.size : Int) - 1) (-1) (-1) == xs.size) = true then _ else _) _ _ z
  rw [if_neg (by rw [show ((-1 : Int) == 1) = false by decide, Bool.and_false, Bool.false_and]; exact Bool.false_ne_true)]
  show wpAny _ _ (Builtin.Tuple.tupleExact ((List.range (Builtin.Slice.slicePlaces ((xs.size : Int) - 1) (-1) (-1))).filterMap fun (m : Nat) => xs[(((xs.size : Int) - 1) + (m : Int) * -1).toNat]?).toArray >>= _) _ _ z
  rw [places, back_pick]
  first
    | exact wpAny_bind (m := Builtin.Tuple.tupleExact _) (wpAny_newObj_type (wpAny_pure ⟨_, rfl, wpAny_pure k⟩) room)
    | exact wpAny_bind (m := Builtin.Tuple.tupleExact _) (wpAny_newObj_type (wpAny_bind (wpAny_pure (wpAny_pure ⟨_, rfl, wpAny_pure k⟩))) room)
    | exact wpAny_bind (wpAny_bind (m := Builtin.Tuple.tupleExact _) (wpAny_newObj_type (wpAny_pure (wpAny_pure ⟨_, rfl, wpAny_pure k⟩)) room))
    | exact wpAny_bind (wpAny_bind (m := Builtin.Tuple.tupleExact _) (wpAny_newObj_type (wpAny_pure ⟨_, rfl, wpAny_pure k⟩) room))
end
/-- t[::-1], t a tuple -/
def aRevT (K : PySem.W.Frag) (te : TE) : TE := fun σ H Q => te σ H fun x H1 => ∃ a xs, x = .ref a ∧ SqT K H1 a xs ∧ nw (.tup xs.reverse) H1 Q
section
variable {X : Cx} {K : PySem.W.Frag}
theorem d_revT {e : Expr} {te : TE} {j : Nat} {p1 p2 p3 pos : Pos} (he : PE X e te) : PE X (.Subscript e (.Slice none none (some (.UnaryOp .USub (.Constant (.int 1) j p1) p2)) p3) pos) (aRevT X.K te) := by
  refine ⟨fun pins s σ H Q I h => ?_⟩
  refine Subscript_ (thn (he.run pins s σ H _ I h) fun v s1 ⟨x, H1, I1, rx, wish⟩ => ?_)
  obtain ⟨t, xs, rfl, tup, wish⟩ := wish
  cases rx
  have back : PO X (some (.UnaryOp .USub (.Constant (.int 1) j p1) p2)) (tPart (tUn (rU fun i => .int (-i)) (tC (.int 1)))) := po_some (pe_un un_neg pe_int)
  refine wpAny_Slice (thn (po_none.run pins s1 σ H1 (fun o G => o = none ∧ G = H1) I1 ⟨rfl, rfl⟩) fun va s2 ⟨_, _, I2, pa, rfl, rfl⟩ => ?_)
  refine thn (po_none.run pins s2 σ _ (fun o G => o = none ∧ G = H1) I2 ⟨rfl, rfl⟩) fun vb s3 ⟨_, _, I3, pb, rfl, rfl⟩ => ?_
  refine thn (back.run pins s3 σ _ (fun o G => o = some (-1) ∧ G = H1) I3 ⟨1, rfl, -1, rfl, rfl, rfl⟩) fun vc s4 ⟨_, _, I4, pc, rfl, rfl⟩ => ?_
  have I5 := Inv.pushed I4 { cls := .type "slice", data := .fields #[va, vb, vc] }
  obtain ⟨its, rel, tp, few⟩ := I5.tuple tup
  have len := rel.length
  refine tail_any (ops := [.ref t, .ref s4.heap.objs.size]) tp.typeIs PyProof.Rows.slot_tuple_getitem.lookup ?_ (by with_unfolding_all rfl)
  refine back_tuple tp (Heap.IsSliceOf.new _ va vb vc) pa pb pc (by rw [List.size_toArray]; omega) ?_
  refine ⟨.ref _, _, I5.laid (t' := s4.toks) (o := .tup xs.reverse) (fun _ _ y => Heap.get?_push_of_some _ y) (Nat.le_refl _) ?_, rfl, wish _ (I5.hok.fresh (Nat.le_refl _))⟩
  exact ⟨by rw [List.length_reverse]; exact few, _, rel.reverse, IsTup.new _ _⟩
theorem pe_bm0Q {name : Str} {id : String} {r : V → List V → Hp → VK → Prop} {o : Expr} {to : TE} {apos cpos : Pos} {Ty : String} (h : X.K = K) (pa : PlainAttrs Ty) (slot : Slot Ty name id) (hty : typeOf (.builtin id) = pure (.type "method_descriptor")) (hm : MtR X id r) (ho : PE X o to)
    (hbase : attributeBase o name X.env (eval o X.env) = eval o X.env := by rfl) (hline : (apos.endLine == cpos.line) = true := by rfl) : PE X (.Call (.Attribute o name apos) [] [] cpos) (tBM0 K Ty r to) := h ▸ pe_bm0 pa slot hty hm ho hbase hline
theorem d_revTK {e : Expr} {te : TE} {j : Nat} {p1 p2 p3 pos : Pos} (h : X.K = K) (he : PE X e te) : PE X (.Subscript e (.Slice none none (some (.UnaryOp .USub (.Constant (.int 1) j p1) p2)) p3) pos) (aRevT K te) := h ▸ d_revT he
end
end G
set_option maxHeartbeats 4000000
/-! Part Z: the law's promise, at the heap behind the top; where nothing is being shown. -/
namespace G
open PySem PySem.Spec PyProof.Rows L2
theorem law_go {P : Program} {w : World} {K : PySem.W.Frag} {mg nb : Str → Option Value} {n : Nat} {fa p : Addr} {fd : FuncData} {arg : Str} {sp : Sp} {z : Shared} {us : List Value} {is : List Int}
    (kin : K.In z.heap) (glob : z.heap.Ns mainGlobals mg) (blt : z.heap.Ns builtinsNs nb) (boot : ∀ y : Str, y ≠ "__name__" → nb y = bootBuiltins y) (free : z.heap.NoLimit) (calm : z.gens = #[])
    (at_ : z.heap.get? p = some { cls := .type "list", data := .seq us.toArray }) (whole : IntsAre us is) (few : is.length ≤ sizeLine) (room : Room n callerA)
    (law : ∀ low : Heap, K.In low → low.Ns mainGlobals mg → FnG P w K mg low n fa fd [arg] sp) (binds : ∀ (t : Shared) (u : Value), BindsTo t fd ⟨[u], []⟩ [(arg, u)])
    (keep : ∀ H : Hp, Only H → SqL K H p (is.map V.int) → sp [.ref p] H (fun v _ => v = .bl true) fun _ _ _ => False) :
    codeAny (model P w) callerA (.call (.ref fa) ⟨[.ref p], []⟩) (fun r t => r = .ok (.ret (.bool true)) ∧ OldK z.heap t.heap ∧ t.os = z.os ∧ AllBare t.gens) z := by
  have rel := vals_ints whole
  have len := whole.length
  have core : ∀ H : Hp, Only H → SqL K H p (is.map V.int) → HOk P w H z.heap → (∀ c, H c ≠ none → c = p ∧ K.lookup c = none) →
      codeAny (model P w) callerA (.call (.ref fa) ⟨[.ref p], []⟩) (fun r t => r = .ok (.ret (.bool true)) ∧ OldK z.heap t.heap ∧ t.os = z.os ∧ AllBare t.gens) z := by
    intro H only seq ok one
    have hid : ∀ {c : Addr} {o : Obj}, z.heap.get? c = some o → H c = none → (hidT z.heap H).get? c = some o := fun e q => hidT_get e q
    have dicts : ∀ {c : Addr} {o : Obj} {es : Array DictEntry} {j : Nat}, z.heap.get? c = some o → o.data = .dict es j → H c = none := by
      intro c o es j e dd
      refine Classical.byContradiction fun q => ?_
      obtain ⟨rfl, _⟩ := one c q
      rw [at_] at e
      cases e
      exact nomatch (dd : Data.seq us.toArray _ = Data.dict es j)
    have spaces : ∀ {c : Addr} {m : Str → Option Value}, z.heap.Ns c m → (hidT z.heap H).Ns c m := by
      rintro c m ⟨o, es, j, e, dd, rest⟩
      exact ⟨o, es, j, hid e (dicts e dd), dd, rest⟩
    have kin' : K.In (hidT z.heap H) := by
      intro c o e
      refine hid (kin c o e) (Classical.byContradiction fun q => ?_)
      have := (one c q).2
      rw [e] at this
      cases this
    obtain ⟨lim, f1, f2⟩ := free
    have env : Env0 P w K mg (hidT z.heap H) callerA [] z H := ⟨rfl, ⟨kin', spaces glob, ⟨nb, spaces blt, boot⟩, lim, spaces f1, f2⟩, fun c o e => of_hidT e, Nat.le_of_eq (hidT_size _ _), trivial, fun c m => (List.not_mem_nil m).elim, ok, .of_eq calm⟩
    have run := (law _ kin' (spaces glob)).go callerA [] z H ⟨[.ref p], []⟩ [.ref p] [.ref p] _ _ ⟨room, rfl⟩ env (binds z (.ref p)) (.cons rfl .nil) (keep H only seq)
    refine codeAny_mono run fun r t h => ?_
    match r, h with
    | .error e, h =>
      obtain ⟨_, _, _, _, _, _, _, _, _, _, _, _, bad⟩ := (show L2.CX P w [] H z (fun _ _ _ => False) e t from h)
      exact bad.elim
    | .ok .next, h => exact h.elim
    | .ok .brk, h => exact h.elim
    | .ok .cont, h => exact h.elim
    | .ok (.ret u), ⟨v, H', os, bare, un, ok', rv, q⟩ =>
      obtain rfl : v = .bl true := q
      obtain rfl : u = Value.bool true := rv
      refine ⟨rfl, OldK.of_keep fun c o e => ?_, os, bare⟩
      rcases only c with q | ⟨ob, xs, q⟩
      · exact un.keep c o e q (fun m => (List.not_mem_nil m).elim) (fun m => (List.not_mem_nil m).elim)
      · obtain ⟨g1, _⟩ := ok c _ q
        obtain ⟨g2, _⟩ := ok' c _ (un.frzs c ob _ q)
        rw [e] at g1
        cases g1
        exact g2
  cases known : K.lookup p with
  | some o =>
    have e := kin p o known
    rw [at_] at e
    cases e
    exact core (fun _ => none) (fun _ => .inl rfl) (.inr ⟨_, us.toArray, _, known, rfl, rfl, rfl, by rw [List.size_toArray, len]; exact few, by simpa using rel⟩) (fun c u q => nomatch (q : (none : Option HO) = some u)) (fun c q => absurd rfl q)
  | none =>
    have self : (fun c => if c = p then some (HO.frz { cls := .type "list", data := .seq us.toArray } (.lst (is.map V.int))) else none : Hp) p = some (HO.frz { cls := .type "list", data := .seq us.toArray } (.lst (is.map V.int))) := if_pos rfl
    refine core (fun c => if c = p then some (HO.frz { cls := .type "list", data := .seq us.toArray } (.lst (is.map V.int))) else none) (fun c => ?_) (.inl (.inr ⟨_, self⟩)) (fun c u q => ?_) (fun c q => ?_)
    · by_cases h : c = p
      · subst h
        exact .inr ⟨_, _, self⟩
      · exact .inl (if_neg h)
    · by_cases h : c = p
      · subst h
        rw [self] at q
        cases q
        exact ⟨at_, by rw [List.length_map]; exact few, us, _, rel, at_⟩
      · exact nomatch (if_neg h).symm.trans q
    · by_cases h : c = p
      · subst h
        exact ⟨rfl, known⟩
      · exact absurd (if_neg h) q
/-- what k_head leaves -/
theorem walk {l : PySem.W.OpenLaw} {n k : Nat} {q : Program} {loose : List Str} {XP : (Str → Option Value) → Heap → Prop} {YP : World → Heap → Prop} {d : DefRec} {K : Params → PySem.W.Frag} {sp : PySem.W.Frag → Sp} {arg : Str}
    (most : l.most = some n) (few : n ≤ sizeLine) (plain : d.params.defaults = []) (room : Room k callerA)
    (kin : ∀ (w : World) (h : Heap), YP w h → (K w.params).In h)
    (F : ∀ (w : World) (mg : Str → Option Value) (fa : Addr) (h : Heap), YP w h → (K w.params).In h → h.Ns mainGlobals mg → mg d.name = some (.ref fa) →
      ∃ fd : FuncData, (∀ (t : Shared) (u : Value), BindsTo t fd ⟨[u], []⟩ [(arg, u)]) ∧ ∀ low : Heap, (K w.params).In low → low.Ns mainGlobals mg → FnG l.prog w (K w.params) mg low k fa fd [arg] (sp (K w.params)))
    (keep : ∀ (M : PySem.W.Frag) (H : Hp) (p : Addr) (is : List Int), is.length ≤ n → Only H → SqL M H p (is.map V.int) → sp M [.ref p] H (fun v _ => v = .bl true) fun _ _ _ => False) :
    PySem.W.WalkO q loose XP YP l.row.toRowW d [] (fun f vs => PySem.call f vs) := by
  refine Att.attach_call most plain fun w _ z mg nb fa o pm cd doc p us is TG Y ho hd hcd hmg hobj whole len calm => ?_
  obtain ⟨fd, hb, hF⟩ := F w mg fa _ Y (kin w _ Y) TG.T.g hmg
  exact law_go (kin w _ Y) TG.T.g TG.T.b TG.T.builtins TG.T.nolimit calm hobj whole (Nat.le_trans len few) room hF hb (fun H a b => keep _ H p is len a b)
end G
set_option maxHeartbeats 4000000
namespace M74
open PySem PySem.Spec PyProof.Rows L2 G
def top (i : Nat) : Stmt := PySem.Challenge.pw_mayforget_k74_formulas_judged.main.body.getD i (.Pass ⟨0, 0, 0, 0⟩)
local macro_rules | `(tactic| walk_at "hp") => `(tactic| first | assumption | exact Own.at0 (by assumption) | exact Own.at1 (by assumption) | exact Own.at2 (by assumption) | exact Own.at3 (by assumption) | exact Own.sub (by assumption) _ _ (by assumption) | exact upd_same)
local macro_rules | `(tactic| walk_at "hl") => `(tactic| first | assumption | exact SqL.of (by walk_at "hp") | exact Own.seq (by assumption) (by assumption) | exact Own.seq (by assumption) (SqL.of (by assumption)))
local macro_rules | `(tactic| walk_at "ht") => `(tactic| first | assumption | exact SqT.of (by walk_at "hp") | exact Own.set (by assumption) (by assumption) | exact Own.set (by assumption) (SqT.of (by assumption)))
local macro_rules | `(tactic| walk_at "n") => `(tactic| (intros; (try dsimp only [List.set, wipe, List.map, List.set_cons_succ, List.set_cons_zero]); (try exact rfl)))
local macro_rules | `(tactic| walk_at "n1") => `(tactic| with_reducible first | (refine x_asgN (σ' := ?s) ?hs ?q; (case hs => walk_at "n")) | (refine x_gN (σ' := ?s) ?hs ?q; (case hs => walk_at "n")) | (refine And.intro (show wipe _ _ = _ from (by walk_at "n")) ?_) | (refine x_parN (σ' := ?s) ?hs ?q; (case hs => walk_at "n")) | (refine x_par3N (σ' := ?s) ?hs ?q; (case hs => walk_at "n")))
local macro_rules | `(tactic| walk_at "v1") => `(tactic| ((with_reducible refine x_var (v := ?v) ?h ?q); (case h => first | exact rfl | assumption)))
local macro_rules | `(tactic| walk_at "s1") => `(tactic| with_reducible first | refine x_op ?_ | refine x_acons ?_ | refine x_c ?_ | refine x_call ?_ | refine x_anil ?_ | refine x_cb ?_ | refine x_seq ?_ | refine x_asgG ?_ | refine x_gC ?_ | refine x_gNl ?_ | refine x_ret ?_ | refine x_ifs ?_ | refine x_test ?_ | refine x_testb ?_ | refine x_and ?_ | refine x_or ?_ | refine x_andV ?_ | refine x_isB ?_ | refine x_add ?_ | refine x_lt ?_ | refine x_inti ?_ | refine x_isI ?_ | refine x_lst ?_ | refine x_tup ?_ | refine x_slice ?_ | refine x_nop ?_ | refine x_part ?_ | refine x_bm ?_ | refine x_sub ?_ | refine x_rI0 ?_ | refine x_drop ?_ | refine x_next ?_ | refine x_brk ?_ | refine x_cnt ?_ | refine x_par2 ?_ | refine x_par33 ?_ | refine x_un ?_ | refine x_rU ?_ | refine x_le ?_ | refine x_gt ?_ | refine x_ge ?_ | refine x_lts ?_ | refine x_intb ?_ | refine x_abs ?_ | refine x_tru ?_ | refine x_trub ?_ | refine x_trui ?_ | refine x_not ?_ | refine x_orV ?_ | refine x_notV ?_ | refine x_if ?_ | refine x_isN ?_ | refine x_isnN ?_ | refine x_dict ?_ | refine x_bm0 ?_ | refine x_revL ?_ | refine x_lcR ?_ | refine x_lcS ?_ | refine x_forR ?_ | refine x_forS ?_ | refine x_yes ?_ | refine ite_t ?_ | refine ite_f ?_)
local macro_rules | `(tactic| walk_at "s") => `(tactic| repeat (first | walk_at "v1" | walk_at "s1" | walk_at "n1"))
local macro_rules | `(tactic| walk_at "bd") => `(tactic| first | decide | omega | exact Nat.le_refl _)
local macro_rules | `(tactic| walk_at "ft") => `(tactic| first
  | with_reducible exact la_nil | with_reducible exact fa_nil | with_reducible exact ft_non | with_reducible exact ft_bl | with_reducible exact ft_dict | ((with_reducible refine ft_str (n := 10) (x := ?x) ?h); (case h => exact And.intro rfl (by decide))) | ((with_reducible refine ft_int (i := ?i) ?h); (case h => decide))
  | ((with_reducible refine ft_var (v := ?v) (m := ?m) (n := ?n) ?h ?f); (case h => exact rfl); (case f => assumption))
  | ((with_reducible refine fa_cons (m1 := ?a) (n1 := ?b) (m2 := ?c) (n2 := ?d) ?f ?g); (case f => walk_at "ft"); (case g => walk_at "ft"))
  | ((with_reducible refine ft_tup (m := ?m) (n := ?n) ?f ?h); (case f => walk_at "ft"); (case h => walk_at "bd"))
  | ((with_reducible refine ft_lst (m := ?m) (n := ?n) ?f ?h); (case f => walk_at "ft"); (case h => walk_at "bd"))
  | ((with_reducible refine la_cons (m1 := ?a) (n1 := ?b) (B := ?c) ?f ?g ?h ?i); (case f => walk_at "ft"); (case h => walk_at "bd"); (case i => walk_at "bd"); (case g => walk_at "ft"))
  | ((with_reducible refine lt_var (v := ?v) (m := ?m) (n := ?n) (B := ?b) ?h ?f); (case h => exact rfl); (case f => assumption))
  | ((with_reducible refine lt_add (B1 := ?a) (B2 := ?b) ?f ?g ?h); (case f => walk_at "ft"); (case g => walk_at "ft"); (case h => walk_at "bd"))
  | ((with_reducible refine ft_addsv (x := ?x) (m := ?m) (n := 10) ?h ?s ?a ?z); (case h => exact rfl); (case s => assumption); (case a => exact And.intro rfl (by decide)); (case z => decide))
  | ((with_reducible refine lt_lst ?f ?h); (case f => walk_at "ft"); (case h => walk_at "bd")))
section
variable {P : Program} {w : World} {K : PySem.W.Frag} {mg : Str → Option Value} {base : Heap} {k : Nat}
/-! ### a draw -/
abbrev s__law_take : Stmt := top 16
theorem sc__law_take : FnScope ["box", "many", "digit", "mixed"] ["box", "many"] (defScope s__law_take) := ⟨rfl, rfl, rfl, by decide +kernel, rfl, by decide +kernel, by decide +kernel⟩
def sp_take : Sp := fun vs H Q _ => ∃ (G : Hp) (R : List (Addr × HO)) (b : Addr) (n : Int) (N : Nat) (bx : List V), vs = [.ref b, .int n] ∧ Own G H ((b, .lst bx) :: R) ∧ Box (N + 1) bx ∧ 0 < n ∧ n < 1000000000 ∧
  ∀ (H' : Hp) (r : Int) bx', 0 ≤ r → r < n → Own G H' ((b, .lst bx') :: R) → Box N bx' → Q (.int r) H'
theorem ok_take {f : Addr} {fd : FuncData} (F : Fun K "_law_take" "_law_take" s__law_take f fd) (B : Bt mg) : FnG P w K mg base (k + 1) f fd ["box", "many"] sp_take := by
  refine fnG_of F sc__law_take (fun vs H Q E h => ?_) (fun cdv A outer s H vs Q E r h => ?_)
  · obtain ⟨_, _, b, n, N, bx, rfl, _⟩ := h
    rfl
  · obtain ⟨G, R, b, n, N, bx, rfl, O, ⟨m, sd, c, fl, rfl, m0, s0, s1, c0, c1⟩, n0, n1, q⟩ := h
    refine ⟨_, (pss_cons (ps_if (PW.pt (pw_and (pt_truK (K := K) rfl (pe_ix (ixK (K := K) rfl) (pv 0) pe_int (fun _ _ => rfl))) (pw_and1 (pt_cmpR oGt (pe_ix (ixK (K := K) rfl) (pv 0) pe_int (fun _ _ => rfl)) pe_int (nomark _)))))
       (pss_cons (ps_set (i := 2) sc__law_take.nd rfl (Or.inl rfl) (pe_op op_modN (pe_callTy cInt (by rfl) B.int (by decide +kernel) (pa_cons (pe_ix (ixK (K := K) rfl) (pv 0) pe_int (fun _ _ => rfl)) pa_nil)) (pv 1)))
       (pss_cons (ps_asg (pe_op op_fdivN (pe_ix (ixK (K := K) rfl) (pv 0) pe_int (fun _ _ => rfl)) (pv 1)) (pg_sub (pv 0) pe_int sSet))
       (pss_one (ps_ret (pv 2)))))
       pss_nil)
       (pss_cons (ps_asg (pe_op (oAddK (K := K) rfl) (pe_ix (ixK (K := K) rfl) (pv 0) pe_int (fun _ _ => rfl)) pe_int) (pg_sub (pv 0) pe_int sSet))
       (pss_cons (ps_set (i := 3) sc__law_take.nd rfl (Or.inl rfl) (pe_op op_modN (pe_callTy cInt (by rfl) B.int (by decide +kernel) (pa_cons (pe_op op_pow (pe_op (oAddK (K := K) rfl) (pe_op (oAddK (K := K) rfl) (pe_ix (ixK (K := K) rfl) (pv 0) pe_int (fun _ _ => rfl)) (pe_op oMul pe_int (pe_ix (ixK (K := K) rfl) (pv 0) pe_int (fun _ _ => rfl)))) pe_int) pe_int) pa_nil)) pe_int))
       (pss_one (ps_ret (pe_op op_modN (pe_op op_fdivN (pe_op op_modN (pe_callTy cInt (by rfl) B.int (by decide +kernel) (pa_cons (pe_op op_pow (pe_op (oAddK (K := K) rfl) (pe_op oMul (pv 3) pe_int) (pe_op oMul pe_int (pe_ix (ixK (K := K) rfl) (pv 0) pe_int (fun _ _ => rfl)))) pe_int) pa_nil)) pe_int) pe_int) (pv 1))))))), ?_⟩
    try dsimp only [cxOf]
    refine x_start (σ' := [some _, some _, none, none]) rfl ?_
    refine x_seq ?_
    refine x_when ?rest (fun tl => ?_)
    case rest =>
      walk_at "s"
      refine x_ixl (SqL.of O.at0) rfl ?_
      walk_at "s"
      refine x_setl O.at0 rfl (x_md0 O fun H1 O1 => ?_)
      walk_at "s"
      refine x_ixl (SqL.of O1.at0) rfl ?_
      walk_at "s"
      refine x_ixl (SqL.of O1.at0) rfl ?_
      walk_at "s"
      refine x_mul (.inl ⟨by decide, by decide⟩) ?_
      walk_at "s"
      refine x_rI ⟨by decide, by decide, by omega⟩ ?_
      walk_at "s"
      refine x_rI (by decide) ?_
      walk_at "s"
      rw [Int.fmod_eq_emod_of_nonneg _ (by decide)]
      have x0 := Int.emod_nonneg ((sd + 15485863 * (c + 1) + 179424673) ^ Int.toNat 5) (show (2147483647 : Int) ≠ 0 by decide)
      have x1 := Int.emod_lt_of_pos ((sd + 15485863 * (c + 1) + 179424673) ^ Int.toNat 5) (show (0 : Int) < 2147483647 by decide)
      generalize ((sd + 15485863 * (c + 1) + 179424673) ^ Int.toNat 5) % 2147483647 = x at x0 x1 ⊢
      refine x_mul (.inr ⟨by decide, by decide⟩) ?_
      walk_at "s"
      refine x_ixl (SqL.of O1.at0) rfl ?_
      walk_at "s"
      refine x_mul (.inl ⟨by decide, by decide⟩) ?_
      walk_at "s"
      refine x_rI ⟨by decide, by decide, by omega⟩ ?_
      walk_at "s"
      refine x_rI (by decide) ?_
      walk_at "s"
      refine x_rI ⟨by decide, by decide⟩ ?_
      walk_at "s"
      refine x_rI (by omega) ?_
      rw [Int.fmod_eq_emod_of_nonneg _ (by omega)]
      exact q _ _ _ (Int.emod_nonneg _ (by omega)) (Int.emod_lt_of_pos _ n0) O1 ⟨m, sd, c + 1, fl, rfl, m0, s0, s1, by omega, by omega⟩
    walk_at "s"
    refine x_ixl (SqL.of O.at0) rfl ?_
    walk_at "s"
    refine ite_b (fun e1 => ?_) (fun e1 => tl)
    walk_at "s"
    refine x_ixl (SqL.of O.at0) rfl ?_
    walk_at "s"
    refine ite_b (fun e2 => ?_) (fun e2 => tl)
    have m1 : 0 < m := of_decide_eq_true e2
    walk_at "s"
    refine x_ixl (SqL.of O.at0) rfl ?_
    walk_at "s"
    refine x_rI (by omega) ?_
    walk_at "s"
    refine x_ixl (SqL.of O.at0) rfl ?_
    walk_at "s"
    refine x_rI ⟨by omega, by omega⟩ ?_
    walk_at "s"
    refine x_setl O.at0 rfl (x_md0 O fun H1 O1 => ?_)
    walk_at "s"
    rw [Int.fmod_eq_emod_of_nonneg m (by omega)]
    refine q _ _ _ (Int.emod_nonneg _ (by omega)) (Int.emod_lt_of_pos _ n0) O1 ⟨m.fdiv n, sd, c, fl, rfl, ?_, s0, s1, c0, by omega⟩
    rw [Int.fdiv_eq_ediv_of_nonneg _ (by omega)]
    exact Int.ediv_nonneg m0 (by omega)
theorem use_take {G H : Hp} {R : List (Addr × HO)} {b : Addr} {n : Int} {N : Nat} {bx : List V} {Q : VK} {E : XK} (O : Own G H ((b, .lst bx) :: R)) (B : Box (N + 1) bx) (n0 : 0 < n) (n1 : n < 1000000000)
    (k : ∀ (H' : Hp) (r : Int) bx', 0 ≤ r → r < n → Own G H' ((b, .lst bx') :: R) → Box N bx' → Q (.int r) H') : sp_take [.ref b, .int n] H Q E := ⟨G, R, b, n, N, bx, rfl, O, B, n0, n1, k⟩
/-! ### the cells -/
abbrev s__law_cell : Stmt := top 14
theorem sc__law_cell : FnScope ["script", "k"] ["script", "k"] (defScope s__law_cell) := ⟨rfl, rfl, rfl, by decide +kernel, rfl, by decide +kernel, by decide +kernel⟩
def sp_cell (K : PySem.W.Frag) : Sp := fun vs H Q _ => ∃ (G : Hp) (R : List (Addr × HO)) (a : Addr) (ns : List Int) (j : Nat), vs = [.ref a, .int j] ∧ Own G H R ∧ SqL K G a (ns.map V.int) ∧ ns.length ≤ 63 ∧ j < 100 ∧
  ∀ (G' H' : Hp) (i : Int), Same G G' → Own G' H' R → Q (.int i) H'
theorem ok_cell {f : Addr} {fd : FuncData} (F : Fun K "_law_cell" "_law_cell" s__law_cell f fd) (B : Bt mg) : FnG P w K mg base (k + 1) f fd ["script", "k"] (sp_cell K) := by
  refine fnG_of F sc__law_cell (fun vs H Q E h => ?_) (fun cdv A outer s H vs Q E r h => ?_)
  · obtain ⟨_, _, a, ns, j, rfl, _⟩ := h
    rfl
  · obtain ⟨G, R, a, ns, j, rfl, O, hs, hl, hj, q⟩ := h
    refine ⟨_, (pss_one (ps_ret (pe_ifExp (pt_cmpR oLt (pv 1) (pe_callB (cLenK (K := K) rfl) (by rfl) B.len (by decide +kernel) (pa_cons (pv 0) pa_nil)) (nomark _)) (pe_ix (ixK (K := K) rfl) (pv 0) (pv 1) (fun _ _ => rfl)) (pe_op (oAddK (K := K) rfl) (pe_op oMul pe_int (pv 1)) (pe_op op_modN (pe_callB (cSumK (K := K) rfl rfl) (by rfl) B.sum (by decide +kernel) (pa_cons (pe_slice (oSlK (K := K) rfl) (pv 0) po_none (po_some pe_int)) pa_nil)) pe_int))))), ?_⟩
    try dsimp only [cxOf]
    refine x_start (σ' := [some _, some _]) rfl ?_
    walk_at "s"
    refine x_lenl (O.seq hs) ?_
    walk_at "s"
    refine ite_b (fun e1 => ?_) (fun e1 => ?_)
    · have e2 := of_decide_eq_true e1
      rw [List.length_map] at e2
      have e3 : j < ns.length := by omega
      walk_at "s"
      refine x_ixl (v := .int ns[j]) (O.seq hs) (atI_nat (by simp [e3])) ?_
      exact q _ _ _ (Same.refl G) O
    · walk_at "s"
      refine x_mul (.inl ⟨by decide, by decide⟩) ?_
      walk_at "s"
      refine x_slL (O.seq hs) (x_fix O fun p G1 H1 s1 O1 h1 => ?_)
      walk_at "s"
      have ec : ∃ ms : List Int, cutV (ns.map V.int) none (some 1) = ms.map V.int := ⟨(ns.drop (HT.sIx (ns.map V.int).length 0 none)).take (HT.sIx (ns.map V.int).length (ns.map V.int).length (some 1) - HT.sIx (ns.map V.int).length 0 none), by
        unfold cutV
        rw [List.map_take, List.map_drop]⟩
      obtain ⟨ms, em⟩ := ec
      rw [em] at h1
      refine ⟨p, ms, rfl, O1.seq (SqL.of h1), ?_⟩
      walk_at "s"
      refine x_rI (by decide) ?_
      walk_at "s"
      exact q _ _ _ s1 O1
abbrev s__law_box : Stmt := top 15
theorem sc__law_box : FnScope ["great"] ["great"] (defScope s__law_box) := ⟨rfl, rfl, rfl, by decide +kernel, rfl, by decide +kernel, by decide +kernel⟩
def sp_box : Sp := fun vs H Q _ => ∃ (G : Hp) (R : List (Addr × HO)) (i : Int), vs = [.int i] ∧ Own G H R ∧
  ∀ (H' : Hp) (p : Addr) (bx : List V), Own G H' ((p, .lst bx) :: R) → Box 1000000000 bx → Q (.ref p) H'
theorem ok_box {f : Addr} {fd : FuncData} (F : Fun K "_law_box" "_law_box" s__law_box f fd) (B : Bt mg) : FnG P w K mg base (k + 1) f fd ["great"] sp_box := by
  refine fnG_of F sc__law_box (fun vs H Q E h => ?_) (fun cdv A outer s H vs Q E r h => ?_)
  · obtain ⟨_, _, i, rfl, _⟩ := h
    rfl
  · obtain ⟨G, R, i, rfl, O, q⟩ := h
    refine ⟨_, (pss_one (ps_ret (d_lst (pa_cons (pe_callB cAbs (by rfl) B.abs (by decide +kernel) (pa_cons (pv 0) pa_nil)) (pa_cons (pe_cmpR oGe (pe_callB cAbs (by rfl) B.abs (by decide +kernel) (pa_cons (pv 0) pa_nil)) (pe_op op_pow pe_int pe_int) (nomark _)) (pa_cons (pe_op op_modN (pe_callTy cInt (by rfl) B.int (by decide +kernel) (pa_cons (pe_callB cAbs (by rfl) B.abs (by decide +kernel) (pa_cons (pv 0) pa_nil)) pa_nil)) pe_int) (pa_cons pe_int pa_nil))))))), ?_⟩
    try dsimp only [cxOf]
    refine x_start (σ' := [some _]) rfl ?_
    walk_at "s"
    refine x_rI ⟨by decide, by decide, by decide⟩ ?_
    walk_at "s"
    refine x_rI (by decide) ?_
    walk_at "s"
    refine ⟨(show (4 : Nat) ≤ sizeLine by decide), x_new O fun p H1 O1 => ?_⟩
    rw [Int.fmod_eq_emod_of_nonneg _ (by decide)] at O1
    refine q _ _ _ O1 (show Box 1000000000 _ from ⟨_, _, 0, _, rfl, ?_, Int.emod_nonneg _ (by decide), Int.emod_lt_of_pos _ (by decide), by decide, by decide⟩)
    split <;> omega
end
end M74
set_option maxHeartbeats 4000000
namespace M74
open PySem PySem.Spec PyProof.Rows L2 G
local macro_rules | `(tactic| walk_at "hp") => `(tactic| first | assumption | exact Own.at0 (by assumption) | exact Own.at1 (by assumption) | exact Own.at2 (by assumption) | exact Own.at3 (by assumption) | exact Own.sub (by assumption) _ _ (by assumption) | exact upd_same)
local macro_rules | `(tactic| walk_at "hl") => `(tactic| first | assumption | exact SqL.of (by walk_at "hp") | exact Own.seq (by assumption) (by assumption) | exact Own.seq (by assumption) (SqL.of (by assumption)))
local macro_rules | `(tactic| walk_at "ht") => `(tactic| first | assumption | exact SqT.of (by walk_at "hp") | exact Own.set (by assumption) (by assumption) | exact Own.set (by assumption) (SqT.of (by assumption)))
local macro_rules | `(tactic| walk_at "n") => `(tactic| (intros; (try dsimp only [List.set, wipe, List.map, List.set_cons_succ, List.set_cons_zero]); (try exact rfl)))
local macro_rules | `(tactic| walk_at "n1") => `(tactic| with_reducible first | (refine x_asgN (σ' := ?s) ?hs ?q; (case hs => walk_at "n")) | (refine x_gN (σ' := ?s) ?hs ?q; (case hs => walk_at "n")) | (refine And.intro (show wipe _ _ = _ from (by walk_at "n")) ?_) | (refine x_parN (σ' := ?s) ?hs ?q; (case hs => walk_at "n")) | (refine x_par3N (σ' := ?s) ?hs ?q; (case hs => walk_at "n")))
local macro_rules | `(tactic| walk_at "v1") => `(tactic| ((with_reducible refine x_var (v := ?v) ?h ?q); (case h => first | exact rfl | assumption)))
local macro_rules | `(tactic| walk_at "s1") => `(tactic| with_reducible first | refine x_op ?_ | refine x_acons ?_ | refine x_c ?_ | refine x_call ?_ | refine x_anil ?_ | refine x_cb ?_ | refine x_seq ?_ | refine x_asgG ?_ | refine x_gC ?_ | refine x_gNl ?_ | refine x_ret ?_ | refine x_ifs ?_ | refine x_test ?_ | refine x_testb ?_ | refine x_and ?_ | refine x_or ?_ | refine x_andV ?_ | refine x_isB ?_ | refine x_add ?_ | refine x_lt ?_ | refine x_inti ?_ | refine x_isI ?_ | refine x_lst ?_ | refine x_tup ?_ | refine x_slice ?_ | refine x_nop ?_ | refine x_part ?_ | refine x_bm ?_ | refine x_sub ?_ | refine x_rI0 ?_ | refine x_drop ?_ | refine x_next ?_ | refine x_brk ?_ | refine x_cnt ?_ | refine x_par2 ?_ | refine x_par33 ?_ | refine x_un ?_ | refine x_rU ?_ | refine x_le ?_ | refine x_gt ?_ | refine x_ge ?_ | refine x_lts ?_ | refine x_intb ?_ | refine x_abs ?_ | refine x_tru ?_ | refine x_trub ?_ | refine x_trui ?_ | refine x_not ?_ | refine x_orV ?_ | refine x_notV ?_ | refine x_if ?_ | refine x_isN ?_ | refine x_isnN ?_ | refine x_dict ?_ | refine x_bm0 ?_ | refine x_revL ?_ | refine x_lcR ?_ | refine x_lcS ?_ | refine x_forR ?_ | refine x_forS ?_ | refine x_yes ?_ | refine ite_t ?_ | refine ite_f ?_)
local macro_rules | `(tactic| walk_at "s") => `(tactic| repeat (first | walk_at "v1" | walk_at "s1" | walk_at "n1"))
local macro_rules | `(tactic| walk_at "bd") => `(tactic| first | decide | omega | exact Nat.le_refl _)
local macro_rules | `(tactic| walk_at "ft") => `(tactic| first
  | with_reducible exact la_nil | with_reducible exact fa_nil | with_reducible exact ft_non | with_reducible exact ft_bl | with_reducible exact ft_dict | ((with_reducible refine ft_str (n := 10) (x := ?x) ?h); (case h => exact And.intro rfl (by decide))) | ((with_reducible refine ft_int (i := ?i) ?h); (case h => decide))
  | ((with_reducible refine ft_var (v := ?v) (m := ?m) (n := ?n) ?h ?f); (case h => exact rfl); (case f => assumption))
  | ((with_reducible refine fa_cons (m1 := ?a) (n1 := ?b) (m2 := ?c) (n2 := ?d) ?f ?g); (case f => walk_at "ft"); (case g => walk_at "ft"))
  | ((with_reducible refine ft_tup (m := ?m) (n := ?n) ?f ?h); (case f => walk_at "ft"); (case h => walk_at "bd"))
  | ((with_reducible refine ft_lst (m := ?m) (n := ?n) ?f ?h); (case f => walk_at "ft"); (case h => walk_at "bd"))
  | ((with_reducible refine la_cons (m1 := ?a) (n1 := ?b) (B := ?c) ?f ?g ?h ?i); (case f => walk_at "ft"); (case h => walk_at "bd"); (case i => walk_at "bd"); (case g => walk_at "ft"))
  | ((with_reducible refine lt_var (v := ?v) (m := ?m) (n := ?n) (B := ?b) ?h ?f); (case h => exact rfl); (case f => assumption))
  | ((with_reducible refine lt_add (B1 := ?a) (B2 := ?b) ?f ?g ?h); (case f => walk_at "ft"); (case g => walk_at "ft"); (case h => walk_at "bd"))
  | ((with_reducible refine ft_addsv (x := ?x) (m := ?m) (n := 10) ?h ?s ?a ?z); (case h => exact rfl); (case s => assumption); (case a => exact And.intro rfl (by decide)); (case z => decide))
  | ((with_reducible refine lt_lst ?f ?h); (case f => walk_at "ft"); (case h => walk_at "bd")))
section
variable {P : Program} {w : World} {K : PySem.W.Frag} {mg : Str → Option Value} {base : Heap} {k : Nat}
abbrev az : Str := Str.ofString "abcdefghijklmnopqrstuvwxyz"
theorem az_at {r : Int} (h0 : 0 ≤ r) (h1 : r < 26) : ∃ c, atI az.cps.toList r = some c ∧ St 1 ⟨#[c]⟩ := by
  obtain ⟨n, rfl⟩ := Int.eq_ofNat_of_zero_le h0
  have : ∀ n : Fin 26, ∃ c, atI az.cps.toList ((n.val : Nat) : Int) = some c ∧ c < 128 := by
    intro n
    have : ∀ n : Fin 26, (match atI az.cps.toList ((n.val : Nat) : Int) with | some c => decide (c < 128) | none => false) = true := by decide +kernel
    have z := this n
    split at z
    · exact ⟨_, by assumption, of_decide_eq_true z⟩
    · cases z
  obtain ⟨c, e, l⟩ := this ⟨n, by omega⟩
  refine ⟨c, e, ?_, Nat.le_refl _⟩
  simp [asc, l]
abbrev s__law_letters : Stmt := top 18
theorem sc__law_letters : FnScope ["box", "many", "k"] ["box", "many"] (defScope s__law_letters) := ⟨rfl, rfl, rfl, by decide +kernel, rfl, by decide +kernel, by decide +kernel⟩
def sp_letters : Sp := fun vs H Q _ => ∃ (G : Hp) (R : List (Addr × HO)) (b : Addr) (m N : Nat) (bx : List V), vs = [.ref b, .int m] ∧ Own G H ((b, .lst bx) :: R) ∧ Box (N + m) bx ∧ m ≤ 8 ∧
  ∀ (G' H' : Hp) (x : Str) bx', Same G G' → St m x → Own G' H' ((b, .lst bx') :: R) → Box N bx' → Q (.str x) H'
theorem ok_letters {f : Addr} {fd : FuncData} (F : Fun K "_law_letters" "_law_letters" s__law_letters f fd) (B : Bt mg) (C__law_take : Cal P w K mg base k "_law_take" ["box", "many"] sp_take) : FnG P w K mg base (k + 1) f fd ["box", "many"] sp_letters := by
  refine fnG_of F sc__law_letters (fun vs H Q E h => ?_) (fun cdv A outer s H vs Q E r h => ?_)
  · obtain ⟨_, _, b, m, N, bx, rfl, _⟩ := h
    rfl
  · obtain ⟨G, R, b, m, N, bx, rfl, O, bo, hm, q⟩ := h
    refine ⟨_, (pss_one (ps_ret (pe_bmK' (K := K) rfl PySem.F.plainAttrs_str PySem.F.slot_str_join PySem.F.type_str_join (mJoinK (K := K) rfl) pe_str (pa_cons (pe_lc (own := [("k", 2)]) rfl sc__law_letters.nd (pi_range1 (by rfl) B.range (pa_cons (pv 1) pa_nil)) (blkOk_by (N := ["box", "many", "k"]) (sc := defScope s__law_letters) (by decide +kernel)) (fun _ _ _ _ _ => (pg_name (i := 2) sc__law_letters.nd rfl (Or.inl rfl))) (fun _ _ _ _ _ => pts_nil) (fun _ _ _ _ _ => (pe_ix (ixK (K := K) rfl) pe_str (g_call C__law_take r (by rfl) passL (pa_cons (pv 0) (pa_cons pe_int pa_nil))) (fun _ _ => rfl)))) pa_nil)))), ?_⟩
    try dsimp only [cxOf]
    refine x_start (σ' := [some _, some _, none]) rfl ?_
    walk_at "s"
    refine ⟨ty_s, ?_⟩
    walk_at "s"
    refine x_rg (by omega) (by omega) ?_
    refine lc_own (by walk_at "n") walk_range O (fun i G' L' acc => ∃ bx' xs, L' = (b, .lst bx') :: R ∧ acc = xs.map V.str ∧ xs.length = i ∧ Box (N + (m - i)) bx' ∧ ∀ x ∈ xs, St 1 x) ⟨bx, [], rfl, rfl, rfl, bo.le (by omega), fun _ z => nomatch z⟩ (fun _ _ _ _ _ _ _ _ _ => True.intro) ?_ ?_
    · rintro i x G' H' H2 D L' acc hi s' O' ⟨bx', xs, rfl, rfl, hl, bo', hx⟩ ⟨rfl, rfl⟩
      walk_at "s"
      refine ⟨G', _, b, 26, N + (m - (i + 1)), bx', rfl, O'.swap, bo'.le (by omega), by decide, by decide, fun H3 r bx2 r0 r1 O3 b3 => ?_⟩
      obtain ⟨c, ec, sc⟩ := az_at r0 r1
      refine x_ixs (by decide) ec ?_
      refine lcn s' O3.swap (by rw [List.length_map]; exact Nat.lt_of_lt_of_le (show xs.length < 100 by omega) (by decide)) ⟨bx2, xs ++ [⟨#[c]⟩], rfl, by rw [List.map_append]; rfl, by rw [List.length_append]; simp [hl], b3, fun x h => ?_⟩
      rcases List.mem_append.mp h with h | h
      · exact hx x h
      · rw [List.mem_singleton.mp h]; exact sc
    · rintro G' H' D L' acc s' O' ⟨bx', xs, rfl, rfl, hl, bo', hx⟩
      walk_at "s"
      have el : xs.length = m := by omega
      have e1 : ∀ xs : List Str, (∀ x ∈ xs, St 1 x) → (xs.map (·.length)).sum ≤ xs.length := by
        intro xs h
        induction xs with
        | nil => exact Nat.le_refl _
        | cons x xs ih =>
          have := (h x List.mem_cons_self).2
          have := ih fun y hy => h y (List.mem_cons_of_mem _ hy)
          simp only [List.map_cons, List.sum_cons, List.length_cons]
          omega
      have e2 := e1 xs hx
      refine ⟨_, D, xs, rfl, rfl, .inl (SqL.of O'.at0), ?_, ?_⟩
      · show _ + _ * 0 ≤ _
        omega
      · refine q G' H' _ bx' s' ?_ O'.tail (bo'.le (by omega))
        have z := St.join hx
        rw [el, Nat.one_mul] at z
        exact z
/-! ### a list in another order -/
abbrev s__law_mixed : Stmt := top 17
theorem sc__law_mixed : FnScope ["box", "items", "left", "found"] ["box", "items"] (defScope s__law_mixed) := ⟨rfl, rfl, rfl, by decide +kernel, rfl, by decide +kernel, by decide +kernel⟩
def sp_mixed (K : PySem.W.Frag) : Sp := fun vs H Q _ => ∃ (G : Hp) (R : List (Addr × HO)) (b a : Addr) (xs : List Str) (N : Nat) (bx : List V), vs = [.ref b, .ref a] ∧ Own G H ((b, .lst bx) :: R) ∧ SqL K G a (xs.map V.str) ∧ Box (N + xs.length) bx ∧ (∀ x ∈ xs, asc x = true) ∧ xs.length ≤ 1000 ∧
  ∀ (G' H' : Hp) (p : Addr) (ys : List Str) bx', Same G G' → ys.Perm xs → G' p = some (.lst (ys.map V.str)) → Own G' H' ((b, .lst bx') :: R) → Box N bx' → Q (.ref p) H'
theorem ok_mixed {f : Addr} {fd : FuncData} (F : Fun K "_law_mixed" "_law_mixed" s__law_mixed f fd) (B : Bt mg) (C__law_take : Cal P w K mg base k "_law_take" ["box", "many"] sp_take) : FnG P w K mg base (k + 1) f fd ["box", "items"] (sp_mixed K) := by
  refine fnG_of F sc__law_mixed (fun vs H Q E h => ?_) (fun cdv A outer s H vs Q E r h => ?_)
  · obtain ⟨_, _, b, a, xs, N, bx, rfl, _⟩ := h
    rfl
  · obtain ⟨G, R, b, a, xs, N, bx, rfl, O, ha, bo, hx, hz, q⟩ := h
    refine ⟨_, (pss_cons (ps_par (i := 2) (j := 3) rfl sc__law_mixed.nd rfl rfl (by decide) rfl rfl (pa_cons (pe_callTy (cListK (K := K) rfl) (by rfl) B.list (by decide +kernel) (pa_cons (pv 1) pa_nil)) (pa_cons (d_lst pa_nil) pa_nil)) (by rfl))
       (pss_cons (ps_while (passes_of rfl) (pt_cmpR (oNeK (K := K) rfl r) (pv 2) (d_lst pa_nil) (nomark _))
       (pss_one (ps_expr (pe_bmK' (K := K) rfl PySem.F.plainAttrs_list PySem.F.slot_list_append PySem.F.type_list_append mApp (pv 3) (pa_cons (pe_bmK' (K := K) rfl PySem.F.plainAttrs_list PySem.F.slot_list_pop PySem.F.type_list_pop mPopA (pv 2) (pa_cons (g_call C__law_take r (by rfl) passL (pa_cons (pv 0) (pa_cons (pe_callB (cLenK (K := K) rfl) (by rfl) B.len (by decide +kernel) (pa_cons (pv 2) pa_nil)) pa_nil))) pa_nil)) pa_nil)))))
       (pss_one (ps_ret (pv 3))))), ?_⟩
    try dsimp only [cxOf]
    refine x_start (σ' := [some _, some _, none, none]) rfl ?_
    walk_at "s"
    refine x_listL (O.seq ha) (x_new O fun p H1 O1 => ?_)
    walk_at "s"
    refine ⟨by decide, x_new O1 fun p2 H2 O2 => ?_⟩
    walk_at "s"
    refine while_own (m := xs.length) O2 (fun m σ G' L' => ∃ ls fs bx', L' = (p2, .lst (fs.map V.str)) :: (p, .lst (ls.map V.str)) :: (b, .lst bx') :: R ∧ (fs ++ ls).Perm xs ∧ ls.length = m ∧ Box (N + m) bx' ∧ σ[0]? = some (some (.ref b)) ∧ σ[2]? = some (some (.ref p)) ∧ σ[3]? = some (some (.ref p2))) ⟨xs, [], bx, rfl, List.Perm.refl _, rfl, bo, rfl, rfl, rfl⟩ ?_
    rintro m σ G' H' L' s' O' ⟨ls, fs, bx', rfl, hp, hl, bo', e0, e2, e3⟩
    walk_at "s"
    refine ⟨by decide, x_new O' fun p3 H3 O3 => ?_⟩
    refine x_neN (SqL.of O3.at2) (SqL.of O3.at0) ?_
    walk_at "s"
    have O4 := O3.tail
    cases ls with
    | nil =>
      refine ite_f ?_
      walk_at "s"
      rw [List.append_nil] at hp
      refine q (upd G' p2 (.lst (fs.map V.str))) _ p2 fs bx' (fun z w e => (Same.new O4.no0) z w (s' z w e)) hp upd_same O4.frz0.tail (bo'.le (by omega))
    | cons l ls =>
      refine ite_t ?_
      refine w_yes ?_
      walk_at "s"
      refine ⟨ty_l (SqL.of O4.at0), ?_⟩
      walk_at "s"
      refine ⟨ty_l (SqL.of O4.at1), ?_⟩
      walk_at "s"
      refine x_lenl (SqL.of O4.at1) ?_
      walk_at "s"
      have hle : m ≤ 1000 := by
        have := hp.length_eq
        rw [List.length_append] at this
        omega
      rw [List.length_map, hl]
      refine ⟨G', _, b, m, N + (m - 1), bx', rfl, O4.rot3, bo'.le (by rw [List.length_cons] at hl; omega), by rw [List.length_cons] at hl; omega, by omega, fun H5 r bx2 r0 r1 O5 b5 => ?_⟩
      walk_at "s"
      have O6 := O5.rot3.rot3
      obtain ⟨n, rfl⟩ := Int.eq_ofNat_of_zero_le r0
      have hn : n < (l :: ls).length := by omega
      refine x_popA (m := n) (v := .str (l :: ls)[n]) O6.at1 (by omega) (by omega) (by rw [List.length_map, hl]; exact seqIndex?_nat (by omega)) (by rw [List.getElem?_map, List.getElem?_eq_getElem hn]; rfl) ?_
      refine x_md1 O6 fun H7 O7 => ?_
      walk_at "s"
      refine x_app O7.at0 (by rw [List.length_map]; exact Nat.lt_of_le_of_lt (show fs.length ≤ 1000 by have := hp.length_eq; rw [List.length_append] at this; omega) (by decide)) (x_md0 O7 fun H8 O8 => ?_)
      walk_at "s"
      refine wvh (m' := m - 1) (by rw [List.length_cons] at hl; omega) s' O8 ⟨(l :: ls).eraseIdx n, fs ++ [(l :: ls)[n]], bx2, by rw [List.map_append, map_eras]; rfl, ?_, by rw [List.length_eraseIdx_of_lt hn]; omega, b5, e0, e2, e3⟩
      refine List.Perm.trans ?_ hp
      rw [List.append_assoc]
      refine List.Perm.append_left fs ?_
      exact perm_eras _ n hn
end
end M74
set_option maxHeartbeats 4000000
namespace M74
open PySem PySem.Spec PyProof.Rows L2 G
local macro_rules | `(tactic| walk_at "hp") => `(tactic| first | assumption | exact Own.at0 (by assumption) | exact Own.at1 (by assumption) | exact Own.at2 (by assumption) | exact Own.at3 (by assumption) | exact Own.sub (by assumption) _ _ (by assumption) | exact upd_same)
local macro_rules | `(tactic| walk_at "hl") => `(tactic| first | assumption | exact SqL.of (by walk_at "hp") | exact Own.seq (by assumption) (by assumption) | exact Own.seq (by assumption) (SqL.of (by assumption)))
local macro_rules | `(tactic| walk_at "ht") => `(tactic| first | assumption | exact SqT.of (by walk_at "hp") | exact Own.set (by assumption) (by assumption) | exact Own.set (by assumption) (SqT.of (by assumption)))
local macro_rules | `(tactic| walk_at "n") => `(tactic| (intros; (try dsimp only [List.set, wipe, List.map, List.set_cons_succ, List.set_cons_zero]); (try exact rfl)))
local macro_rules | `(tactic| walk_at "n1") => `(tactic| with_reducible first | (refine x_asgN (σ' := ?s) ?hs ?q; (case hs => walk_at "n")) | (refine x_gN (σ' := ?s) ?hs ?q; (case hs => walk_at "n")) | (refine And.intro (show wipe _ _ = _ from (by walk_at "n")) ?_) | (refine x_parN (σ' := ?s) ?hs ?q; (case hs => walk_at "n")) | (refine x_par3N (σ' := ?s) ?hs ?q; (case hs => walk_at "n")))
local macro_rules | `(tactic| walk_at "v1") => `(tactic| ((with_reducible refine x_var (v := ?v) ?h ?q); (case h => first | exact rfl | assumption)))
local macro_rules | `(tactic| walk_at "s1") => `(tactic| with_reducible first | refine x_op ?_ | refine x_acons ?_ | refine x_c ?_ | refine x_call ?_ | refine x_anil ?_ | refine x_cb ?_ | refine x_seq ?_ | refine x_asgG ?_ | refine x_gC ?_ | refine x_gNl ?_ | refine x_ret ?_ | refine x_ifs ?_ | refine x_test ?_ | refine x_testb ?_ | refine x_and ?_ | refine x_or ?_ | refine x_andV ?_ | refine x_isB ?_ | refine x_add ?_ | refine x_lt ?_ | refine x_inti ?_ | refine x_isI ?_ | refine x_lst ?_ | refine x_tup ?_ | refine x_slice ?_ | refine x_nop ?_ | refine x_part ?_ | refine x_bm ?_ | refine x_sub ?_ | refine x_rI0 ?_ | refine x_drop ?_ | refine x_next ?_ | refine x_brk ?_ | refine x_cnt ?_ | refine x_par2 ?_ | refine x_par33 ?_ | refine x_un ?_ | refine x_rU ?_ | refine x_le ?_ | refine x_gt ?_ | refine x_ge ?_ | refine x_lts ?_ | refine x_intb ?_ | refine x_abs ?_ | refine x_tru ?_ | refine x_trub ?_ | refine x_trui ?_ | refine x_not ?_ | refine x_orV ?_ | refine x_notV ?_ | refine x_if ?_ | refine x_isN ?_ | refine x_isnN ?_ | refine x_dict ?_ | refine x_bm0 ?_ | refine x_revL ?_ | refine x_lcR ?_ | refine x_lcS ?_ | refine x_forR ?_ | refine x_forS ?_ | refine x_yes ?_ | refine ite_t ?_ | refine ite_f ?_)
local macro_rules | `(tactic| walk_at "s") => `(tactic| repeat (first | walk_at "v1" | walk_at "s1" | walk_at "n1"))
local macro_rules | `(tactic| walk_at "bd") => `(tactic| first | decide | omega | exact Nat.le_refl _)
local macro_rules | `(tactic| walk_at "ft") => `(tactic| first
  | with_reducible exact la_nil | with_reducible exact fa_nil | with_reducible exact ft_non | with_reducible exact ft_bl | with_reducible exact ft_dict | ((with_reducible refine ft_str (n := 10) (x := ?x) ?h); (case h => exact And.intro rfl (by decide))) | ((with_reducible refine ft_int (i := ?i) ?h); (case h => decide))
  | ((with_reducible refine ft_var (v := ?v) (m := ?m) (n := ?n) ?h ?f); (case h => exact rfl); (case f => assumption))
  | ((with_reducible refine fa_cons (m1 := ?a) (n1 := ?b) (m2 := ?c) (n2 := ?d) ?f ?g); (case f => walk_at "ft"); (case g => walk_at "ft"))
  | ((with_reducible refine ft_tup (m := ?m) (n := ?n) ?f ?h); (case f => walk_at "ft"); (case h => walk_at "bd"))
  | ((with_reducible refine ft_lst (m := ?m) (n := ?n) ?f ?h); (case f => walk_at "ft"); (case h => walk_at "bd"))
  | ((with_reducible refine la_cons (m1 := ?a) (n1 := ?b) (B := ?c) ?f ?g ?h ?i); (case f => walk_at "ft"); (case h => walk_at "bd"); (case i => walk_at "bd"); (case g => walk_at "ft"))
  | ((with_reducible refine lt_var (v := ?v) (m := ?m) (n := ?n) (B := ?b) ?h ?f); (case h => exact rfl); (case f => assumption))
  | ((with_reducible refine lt_add (B1 := ?a) (B2 := ?b) ?f ?g ?h); (case f => walk_at "ft"); (case g => walk_at "ft"); (case h => walk_at "bd"))
  | ((with_reducible refine ft_addsv (x := ?x) (m := ?m) (n := 10) ?h ?s ?a ?z); (case h => exact rfl); (case s => assumption); (case a => exact And.intro rfl (by decide)); (case z => decide))
  | ((with_reducible refine lt_lst ?f ?h); (case f => walk_at "ft"); (case h => walk_at "bd")))
section
variable {P : Program} {w : World} {K : PySem.W.Frag} {mg : Str → Option Value} {base : Heap} {k : Nat}
abbrev s__law_taboo : Stmt := top 19
theorem sc__law_taboo : FnScope ["words"] [] (defScope s__law_taboo) := ⟨rfl, rfl, rfl, by decide +kernel, rfl, by decide +kernel, by decide +kernel⟩
def sp_taboo : Sp := fun vs H Q _ => ∃ (G : Hp) (R : List (Addr × HO)), vs = [] ∧ Own G H R ∧
  ∀ (G' H' : Hp) (p : Addr) (ts : List Str), Same G G' → Own G' H' R → G' p = some (.lst (ts.map V.str)) → ts.length = 15 → (∀ t ∈ ts, St 8 t) → Q (.ref p) H'
theorem st_dec {n : Nat} {ts : List Str} (h : ts.all (fun t => asc t && decide (t.length ≤ n)) = true) : ∀ t ∈ ts, St n t := fun t ht => by
  have z := List.all_eq_true.mp h t ht
  simp only [Bool.and_eq_true, decide_eq_true_eq] at z
  exact z
theorem ok_taboo {f : Addr} {fd : FuncData} (F : Fun K "_law_taboo" "_law_taboo" s__law_taboo f fd) (B : Bt mg) : FnG P w K mg base (k + 1) f fd [] sp_taboo := by
  refine fnG_of F sc__law_taboo (fun vs H Q E h => ?_) (fun cdv A outer s H vs Q E r h => ?_)
  · obtain ⟨_, _, rfl, _⟩ := h
    rfl
  · obtain ⟨G, R, rfl, O, q⟩ := h
    refine ⟨_, (pss_cons (ps_set (i := 0) sc__law_taboo.nd rfl (Or.inl rfl) (d_lst (pa_cons pe_str (pa_cons pe_str (pa_cons pe_str (pa_cons pe_str (pa_cons pe_str (pa_cons pe_str (pa_cons pe_str (pa_cons pe_str (pa_cons pe_str (pa_cons pe_str (pa_cons pe_str (pa_cons pe_str (pa_cons pe_str pa_nil)))))))))))))))
       (pss_one (ps_ret (pe_op (oAddK (K := K) rfl) (pv 0) (d_lst (pa_cons pe_str (pa_cons pe_str pa_nil))))))), ?_⟩
    try dsimp only [cxOf]
    refine x_start (σ' := [none]) rfl ?_
    walk_at "s"
    refine ⟨by decide, x_fix O fun p1 G1 H1 s1 O1 e1 => ?_⟩
    walk_at "s"
    refine ⟨by decide, x_fix O1 fun p2 G2 H2 s2 O2 e2 => ?_⟩
    refine x_addl (O2.sub _ _ (s2 _ _ e1)) (O2.sub _ _ e2) (by decide) (x_fix O2 fun p3 G3 H3 s3 O3 e3 => ?_)
    refine q G3 H3 p3 ((["is", "new", "if", "say", "go", "first", "last", "stands", "seen", "odd", "just", "both", "either", "not", "none"] : List String).map Str.ofString) ((s1.trans s2).trans s3) O3 e3 rfl (st_dec (by decide +kernel))
/-- [name for name in names if name in _law_taboo()] -/
theorem taboo_filt {σ : L2.St} {G H : Hp} {L : List (Addr × HO)} {a : Addr} {zs : List Str} {Q : VK} (O : Own G H L) (ha : G a = some (.lst (zs.map V.str))) (hz : zs.length ≤ 1000)
    (fin : ∀ (G' H' : Hp) (q : Addr) (us : List V), Same G G' → Own G' H' L → G' q = some (.lst us) → Q (.ref q) H') (h11 : (σ.length == 12) = true := by rfl) :
    tLc (iAt (Itl K a)) (gName 11) (tTest (tOp (rIn K false) (tVar 11) (tCall sp_taboo [] E0 tNil))) (tVar 11) [11] σ H Q := by
  refine lc_own rfl walk_list O (fun i G' L' acc => L' = L ∧ acc.length ≤ i) ⟨rfl, Nat.le_refl _⟩ (fun i G' H' D L' acc s' O' _ => SqL.of (O'.sub _ _ (s' _ _ ha))) ?_ ?_
  · rintro i x G' H' H2 D L' acc hi s' O' ⟨rfl, hl⟩ ⟨rfl, ex⟩
    obtain ⟨z, hz', rfl⟩ := List.mem_map.mp (List.mem_of_getElem? ex)
    rw [List.length_map] at hi
    have hv : (List.set (wipe σ [11]) 11 (some (V.str z)))[11]? = some (some (V.str z)) := by
      rw [List.getElem?_set_self]
      have h12 := eq_of_beq h11; simp [wipe, h12]
    refine x_gN rfl ⟨by simp only [wipe, List.set_set], ?_⟩
    refine x_test (x_op (x_var hv (x_call (x_anil ?_))))
    refine ⟨G', _, rfl, O', fun G2 H2 p ts s2 O2 e2 _ _ => ?_⟩
    refine x_inl (SqL.of (O2.sub _ _ e2)) rfl (by rw [List.all_map]; exact List.all_eq_true.mpr fun _ _ => rfl) ?_
    refine x_testb (ite_b (fun _ => ?_) (fun _ => ?_))
    · exact x_var hv (lcn (s'.trans s2) O2 (lt_line (by omega)) ⟨rfl, by rw [List.length_append]; simp; omega⟩)
    · exact ⟨G2, _, _, s'.trans s2, O2, rfl, by omega⟩
  · rintro G' H' D L' acc s' O' ⟨rfl, hl⟩
    exact fin (upd G' D _) H' D acc (s'.trans (Same.new O'.no0)) O'.frz0 upd_same
abbrev s__law_names : Stmt := top 20
theorem sc__law_names : FnScope ["box", "many", "way", "stem", "tail", "shift", "long", "letters", "names", "k", "letter", "name"] ["box", "many"] (defScope s__law_names) := ⟨rfl, rfl, rfl, by decide +kernel, rfl, by decide +kernel, by decide +kernel⟩
def sp_names : Sp := fun vs H Q _ => ∃ (G : Hp) (R : List (Addr × HO)) (b : Addr) (m N : Nat) (bx : List V), vs = [.ref b, .int m] ∧ Own G H ((b, .lst bx) :: R) ∧ Box (N + 40) bx ∧ m ≤ 8 ∧
  ∀ (G' H' : Hp) (p : Addr) (xs : List Str) bx', Same G G' → Own G' H' ((b, .lst bx') :: R) → G' p = some (.lst (xs.map V.str)) → xs.length = m → (∀ x ∈ xs, St 10 x) → Box N bx' → Q (.ref p) H'
theorem ok_names {f : Addr} {fd : FuncData} (F : Fun K "_law_names" "_law_names" s__law_names f fd) (B : Bt mg) (C__law_take : Cal P w K mg base k "_law_take" ["box", "many"] sp_take)
    (C__law_letters : Cal P w K mg base k "_law_letters" ["box", "many"] sp_letters) (C__law_taboo : Cal P w K mg base k "_law_taboo" [] sp_taboo) (C__law_mixed : Cal P w K mg base k "_law_mixed" ["box", "items"] (sp_mixed K)) : FnG P w K mg base (k + 1) f fd ["box", "many"] sp_names := by
  refine fnG_of F sc__law_names (fun vs H Q E h => ?_) (fun cdv A outer s H vs Q E r h => ?_)
  · obtain ⟨_, _, b, m, N, bx, rfl, _⟩ := h
    rfl
  · obtain ⟨G, R, b, m, N, bx, rfl, O, bo, hm, q⟩ := h
    refine ⟨_, (pss_cons (ps_asg (d_tup (pa_cons (g_call C__law_take r (by rfl) passL (pa_cons (pv 0) (pa_cons pe_int pa_nil))) (pa_cons (g_call C__law_letters r (by rfl) passL (pa_cons (pv 0) (pa_cons (g_call C__law_take r (by rfl) passL (pa_cons (pv 0) (pa_cons pe_int pa_nil))) pa_nil))) (pa_cons (g_call C__law_letters r (by rfl) passL (pa_cons (pv 0) (pa_cons (g_call C__law_take r (by rfl) passL (pa_cons (pv 0) (pa_cons pe_int pa_nil))) pa_nil))) pa_nil)))) (pg_tupK (K := K) (n := 3) rfl rfl (pgs_cons (pg_name (i := 2) sc__law_names.nd rfl (Or.inl rfl)) (pgs_cons (pg_name (i := 3) sc__law_names.nd rfl (Or.inr rfl)) (pgs_cons (pg_name (i := 4) sc__law_names.nd rfl (Or.inr rfl)) pgs_nil)))))
       (pss_cons (ps_asg (d_tup (pa_cons (g_call C__law_take r (by rfl) passL (pa_cons (pv 0) (pa_cons pe_int pa_nil))) (pa_cons (g_call C__law_letters r (by rfl) passL (pa_cons (pv 0) (pa_cons pe_int pa_nil))) pa_nil))) (pg_tupK (K := K) (n := 2) rfl rfl (pgs_cons (pg_name (i := 5) sc__law_names.nd rfl (Or.inr rfl)) (pgs_cons (pg_name (i := 6) sc__law_names.nd rfl (Or.inr rfl)) pgs_nil))))
       (pss_cons (ps_set (i := 7) sc__law_names.nd rfl (Or.inr rfl) (pe_lc (own := [("k", 9)]) rfl sc__law_names.nd (pi_range1 (by rfl) B.range (pa_cons (pv 1) pa_nil)) (blkOk_by (N := ["box", "many", "way", "stem", "tail", "shift", "long", "letters", "names", "k", "letter", "name"]) (sc := defScope s__law_names) (by decide +kernel)) (fun _ _ _ _ _ => (pg_name (i := 9) sc__law_names.nd rfl (Or.inl rfl))) (fun _ _ _ _ _ => pts_nil) (fun _ _ _ _ _ => (pe_ix (ixK (K := K) rfl) pe_str (pe_op op_modN (pe_callTy cInt (by rfl) B.int (by decide +kernel) (pa_cons (pe_op (oAddK (K := K) rfl) (pv 5) (pe_op oMul pe_int (pv 9))) pa_nil)) pe_int) (fun _ _ => rfl)))))
       (pss_cons (ps_setLc (i := 8) (own := [("letter", 10)]) rfl sc__law_names.nd rfl rfl (sw_true rfl rfl rfl (by decide +kernel)) (pi_sqK (K := K) rfl (pv 7)) (blkOk_by (N := ["box", "many", "way", "stem", "tail", "shift", "long", "letters", "names", "k", "letter", "name"]) (sc := defScope s__law_names) (by decide +kernel)) (fun _ _ _ _ _ => (pg_name (i := 10) sc__law_names.nd rfl (Or.inl rfl))) (fun _ _ _ _ _ => pts_nil) (fun _ _ _ _ _ => (pe_op (oAddK (K := K) rfl) (pe_op (oAddK (K := K) rfl) (pv 3) (pv 10)) (pv 4))))
       (pss_cons (ps_if (PW.pt (pw_and (pt_cmpR (oEqK (K := K) rfl r) (pv 2) pe_int (nomark _)) (pw_and1 (pt_cmpR oLt (pv 1) pe_int (nomark _)))))
       (pss_cons (ps_setLc (i := 8) (own := [("k", 9)]) rfl sc__law_names.nd rfl rfl (sw_true rfl rfl rfl (by decide +kernel)) (pi_range1 (by rfl) B.range (pa_cons (pv 1) pa_nil)) (blkOk_by (N := ["box", "many", "way", "stem", "tail", "shift", "long", "letters", "names", "k", "letter", "name"]) (sc := defScope s__law_names) (by decide +kernel)) (fun _ _ _ _ _ => (pg_name (i := 9) sc__law_names.nd rfl (Or.inl rfl))) (fun _ _ _ _ _ => pts_nil) (fun _ _ _ _ _ => (pe_slice (oSlK (K := K) rfl) (pv 6) po_none (po_some (pe_op (oAddK (K := K) rfl) (pv 9) pe_int)))))
       (pss_one (ps_if (pt_cmpR (oNeK (K := K) rfl r) (pe_lc (own := [("name", 11)]) rfl sc__law_names.nd (pi_sqK (K := K) rfl (pv 8)) (blkOk_by (N := ["box", "many", "way", "stem", "tail", "shift", "long", "letters", "names", "k", "letter", "name"]) (sc := defScope s__law_names) (by decide +kernel)) (fun _ _ _ _ _ => (pg_name (i := 11) sc__law_names.nd rfl (Or.inl rfl))) (fun _ _ _ _ _ => (pts_one (pt_cmpR (oInK (K := K) rfl) (pv 11) (g_call0 C__law_taboo r (by rfl) passL) (by rfl)))) (fun _ _ _ _ _ => (pv 11))) (d_lst pa_nil) (nomark _))
       (pss_one (ps_setLc (i := 8) (own := [("k", 9)]) rfl sc__law_names.nd rfl rfl (sw_true rfl rfl rfl (by decide +kernel)) (pi_range1 (by rfl) B.range (pa_cons (pv 1) pa_nil)) (blkOk_by (N := ["box", "many", "way", "stem", "tail", "shift", "long", "letters", "names", "k", "letter", "name"]) (sc := defScope s__law_names) (by decide +kernel)) (fun _ _ _ _ _ => (pg_name (i := 9) sc__law_names.nd rfl (Or.inl rfl))) (fun _ _ _ _ _ => pts_nil) (fun _ _ _ _ _ => (pe_op (oAddK (K := K) rfl) pe_str (pe_slice (oSlK (K := K) rfl) (pv 6) (po_some pe_int) (po_some (pe_op (oAddK (K := K) rfl) (pv 9) pe_int)))))))
       pss_nil)))
       (pss_one (ps_if (pt_cmpR (oEqK (K := K) rfl r) (pv 2) pe_int (nomark _))
       (pss_one (ps_setLc (i := 8) (own := [("k", 9)]) rfl sc__law_names.nd rfl rfl (sw_true rfl rfl rfl (by decide +kernel)) (pi_range1 (by rfl) B.range (pa_cons (pv 1) pa_nil)) (blkOk_by (N := ["box", "many", "way", "stem", "tail", "shift", "long", "letters", "names", "k", "letter", "name"]) (sc := defScope s__law_names) (by decide +kernel)) (fun _ _ _ _ _ => (pg_name (i := 9) sc__law_names.nd rfl (Or.inl rfl))) (fun _ _ _ _ _ => pts_nil) (fun _ _ _ _ _ => (pe_op (oAddK (K := K) rfl) (pe_ix (ixK (K := K) rfl) (pv 7) (pv 9) (fun _ _ => rfl)) (pe_slice (oSlK (K := K) rfl) (pv 3) po_none (po_some (pe_op op_modN (pe_callTy cInt (by rfl) B.int (by decide +kernel) (pa_cons (pe_op oMul pe_int (pv 9)) pa_nil)) pe_int)))))))
       pss_nil)))
       (pss_cons (ps_if (pt_cmpR (oNeK (K := K) rfl r) (pe_lc (own := [("name", 11)]) rfl sc__law_names.nd (pi_sqK (K := K) rfl (pv 8)) (blkOk_by (N := ["box", "many", "way", "stem", "tail", "shift", "long", "letters", "names", "k", "letter", "name"]) (sc := defScope s__law_names) (by decide +kernel)) (fun _ _ _ _ _ => (pg_name (i := 11) sc__law_names.nd rfl (Or.inl rfl))) (fun _ _ _ _ _ => (pts_one (pt_cmpR (oInK (K := K) rfl) (pv 11) (g_call0 C__law_taboo r (by rfl) passL) (by rfl)))) (fun _ _ _ _ _ => (pv 11))) (d_lst pa_nil) (nomark _))
       (pss_one (ps_setLc (i := 8) (own := [("name", 11)]) rfl sc__law_names.nd rfl rfl (sw_true rfl rfl rfl (by decide +kernel)) (pi_sqK (K := K) rfl (pv 8)) (blkOk_by (N := ["box", "many", "way", "stem", "tail", "shift", "long", "letters", "names", "k", "letter", "name"]) (sc := defScope s__law_names) (by decide +kernel)) (fun _ _ _ _ _ => (pg_name (i := 11) sc__law_names.nd rfl (Or.inl rfl))) (fun _ _ _ _ _ => pts_nil) (fun _ _ _ _ _ => (pe_op (oAddK (K := K) rfl) (pv 11) pe_str))))
       pss_nil)
       (pss_one (ps_ret (g_call C__law_mixed r (by rfl) passL (pa_cons (pv 0) (pa_cons (pv 8) pa_nil))))))))))), ?_⟩
    try dsimp only [cxOf]
    refine x_start (σ' := [some _, some _, none, none, none, none, none, none, none, none, none, none]) rfl ?_
    walk_at "s"
    refine ⟨G, R, b, 3, N + 39, bx, rfl, O, bo, by decide, by decide, fun H1 way b1 w0 w1 O1 B1 => ?_⟩
    walk_at "s"
    refine ⟨G, R, b, 5, N + 38, b1, rfl, O1, B1, by decide, by decide, fun H2 r b2 r0 r1 O2 B2 => ?_⟩
    obtain ⟨n1, rfl⟩ := Int.eq_ofNat_of_zero_le r0
    refine ⟨G, R, b, n1, N + 34, b2, rfl, O2, B2.le (by omega), by omega, fun G3 H3 stem b3 s3 t3 O3 B3 => ?_⟩
    walk_at "s"
    refine ⟨G3, R, b, 3, N + 33, b3, rfl, O3, B3, by decide, by decide, fun H4 r b4 r2 r3 O4 B4 => ?_⟩
    obtain ⟨n2, rfl⟩ := Int.eq_ofNat_of_zero_le r2
    refine ⟨G3, R, b, n2, N + 31, b4, rfl, O4, B4.le (by omega), by omega, fun G5 H5 tail b5 s5 t5 O5 B5 => ?_⟩
    refine ⟨by show 3 ≤ sizeLine; decide, x_fix O5 fun p1 G6 H6 s6 O6 e6 => ?_⟩
    refine x_gT (SqT.of (O6.sub _ _ e6)) rfl ?_
    walk_at "s"
    refine ⟨G6, R, b, 26, N + 30, b5, rfl, O6, B5, by decide, by decide, fun H6 shift b6 f0 f1 O6 B6 => ?_⟩
    walk_at "s"
    refine ⟨G6, R, b, 8, N + 22, b6, rfl, O6, B6, by decide, fun G7 H7 long b7 s7 t7 O7 B7 => ?_⟩
    walk_at "s"
    refine ⟨by show 2 ≤ sizeLine; decide, x_fix O7 fun p2 G8 H8 s8 O8 e8 => ?_⟩
    refine x_gT (SqT.of (O8.sub _ _ e8)) rfl ?_
    walk_at "s"
    have s08 : Same G G8 := (((s3.trans s5).trans s6).trans s7).trans s8
    -- the letters
    refine x_rg (by omega) (by omega) ?_
    refine lc_map (by walk_at "n") walk_range O8 (by omega) (fun _ _ y => ∃ x, y = .str x ∧ St 1 x) (fun _ _ _ _ _ z => z) (fun _ _ _ _ _ _ => True.intro) ?_ gm_name ?_
    · rintro i x G' H' H2 D acc hi s' O' ⟨rfl, rfl⟩ kk
      walk_at "s"
      refine x_mul (.inl ⟨by decide, by decide⟩) ?_
      walk_at "s"
      refine x_rI (by decide) ?_
      rw [Int.fmod_eq_emod_of_nonneg _ (by decide)]
      obtain ⟨c, ec, sc⟩ := az_at (Int.emod_nonneg (shift + 5 * (0 + (i : Int))) (show (26 : Int) ≠ 0 by decide)) (Int.emod_lt_of_pos _ (by decide))
      refine x_ixs (by decide) ec ?_
      exact kk _ _ _ (Same.refl _) O' ⟨_, rfl, sc⟩
    intro G9 H9 p3 ys s9 O9 e9 l9 r9
    obtain ⟨ls, rfl, hls⟩ := strs_of (by_ix r9)
    rw [List.length_map] at l9
    walk_at "s"
    refine x_sqL (SqL.of (O9.sub _ _ e9)) ?_
    refine lc_map (by walk_at "n") walk_list O9 (by rw [List.length_map]; omega) (fun _ _ y => ∃ x, y = .str x ∧ St 9 x) (fun _ _ _ _ _ z => z) (fun G' H' D acc s' O' => SqL.of (O'.sub _ _ (s' _ _ e9))) ?_ gm_name ?_
    · rintro i x G' H' H2 D acc hi s' O' ⟨rfl, ex⟩ kk
      obtain ⟨y, hy, rfl⟩ := List.mem_map.mp (List.mem_of_getElem? ex)
      have sy := hls y hy
      walk_at "s"
      have := t3.2
      have := t5.2
      have := sy.2
      refine x_adds (sz20 (by omega)) ?_
      walk_at "s"
      have t2 := t3.app sy
      have := t2.2
      refine x_adds (sz20 (by omega)) ?_
      exact kk _ _ _ (Same.refl _) O' ⟨_, rfl, (t2.app t5).mono (by omega)⟩
    intro G10 H10 p4 ys s10 O10 e10 l10 r10
    obtain ⟨xs, rfl, hxs⟩ := strs_of (by_ix r10)
    rw [List.length_map, List.length_map] at l10
    have lx : xs.length = m := by omega
    have Lz : ∀ i x (zs : List Str), (zs.map V.str)[i]? = some x → ∃ z ∈ zs, x = V.str z := fun i x zs e => by
      obtain ⟨z, hz, rfl⟩ := List.mem_map.mp (List.mem_of_getElem? e)
      exact ⟨z, hz, rfl⟩
    refine x_seq (x_cutV 8 (by walk_at "n") (fun v H' => ∃ (Gz : Hp) (pz : Addr) (zs : List Str), v = V.ref pz ∧ Same G10 Gz ∧ Own Gz H' ((b, .lst b7) :: R) ∧ Gz pz = some (.lst (zs.map V.str)) ∧ zs.length = m ∧ ∀ z ∈ zs, St 9 z) (fun nx fin => ?_) ?_)
    · have same0 : nx _ H10 := fin (.ref p4) H10 ⟨G10, p4, xs, rfl, Same.refl _, O10, e10, lx, hxs⟩
      walk_at "s"
      refine x_eq rfl ?_
      walk_at "s"
      refine ite_b (fun c1 => ?_) (fun c1 => ?_)
      · walk_at "s"
        refine ite_b (fun c2 => ?_) (fun c2 => absurd (of_decide_eq_false c2) (by omega))
        walk_at "s"
        refine x_rg (by omega) (by omega) ?_
        refine lc_map (by walk_at "n") walk_range O10 (by omega) (fun _ _ y => ∃ x, y = .str x ∧ St 9 x) (fun _ _ _ _ _ z => z) (fun _ _ _ _ _ _ => True.intro) ?_ gm_name ?_
        · rintro i x G' H' H2 D acc hi s' O' ⟨rfl, rfl⟩ kk
          walk_at "s"
          refine x_slS (sz20 (by have := t7.2; omega)) ?_
          exact kk _ _ _ (Same.refl _) O' ⟨_, rfl, (t7.cut _ _).mono (by omega)⟩
        intro G11 H11 p5 ys s11 O11 e11 l11 r11
        obtain ⟨zs, rfl, hzs⟩ := strs_of (by_ix r11)
        rw [List.length_map] at l11
        walk_at "s"
        refine x_sqL (SqL.of (O11.sub _ _ e11)) ?_
        refine taboo_filt O11 e11 (by omega) fun G12 H12 p6 us s12 O12 e12 => ?_
        walk_at "s"
        refine ⟨by decide, x_fix O12 fun p7 G13 H13 s13 O13 e13 => ?_⟩
        refine x_neN (SqL.of (O13.sub _ _ (s13 _ _ e12))) (SqL.of (O13.sub _ _ e13)) ?_
        walk_at "s"
        refine ite_b (fun c3 => ?_) (fun c3 => ?_)
        · walk_at "s"
          refine x_rg (by omega) (by omega) ?_
          refine lc_map (by walk_at "n") walk_range O13 (by omega) (fun _ _ y => ∃ x, y = .str x ∧ St 9 x) (fun _ _ _ _ _ z => z) (fun _ _ _ _ _ _ => True.intro) ?_ gm_name ?_
          · rintro i x G' H' H2 D acc hi s' O' ⟨rfl, rfl⟩ kk
            walk_at "s"
            refine x_slS (sz20 (by have := t7.2; omega)) ?_
            have tc := t7.cut (some 1) (some (0 + (i : Int) + 1))
            refine x_adds (sz20 (by have := tc.2; show 1 + _ ≤ _; omega)) ?_
            exact kk _ _ _ (Same.refl _) O' ⟨_, rfl, ((show St 1 (Str.ofString "x") from ⟨rfl, by decide⟩).app tc).mono (by omega)⟩
          intro G14 H14 p8 ys s14 O14 e14 l14 r14
          obtain ⟨us, rfl, hus⟩ := strs_of (by_ix r14)
          rw [List.length_map] at l14
          walk_at "s"
          exact fin (.ref p8) _ ⟨G14, p8, us, rfl, ((s11.trans s12).trans s13).trans s14, O14, e14, by omega, hus⟩
        · walk_at "s"
          exact fin (.ref p5) _ ⟨G13, p5, zs, rfl, (s11.trans s12).trans s13, O13, s13 _ _ (s12 _ _ e11), by omega, hzs⟩
      · walk_at "s"
        refine x_eq rfl ?_
        walk_at "s"
        refine ite_b (fun c2 => ?_) (fun c2 => ?_)
        · walk_at "s"
          refine x_rg (by omega) (by omega) ?_
          refine lc_map (by walk_at "n") walk_range O10 (by omega) (fun _ _ y => ∃ x, y = .str x ∧ St 9 x) (fun _ _ _ _ _ z => z) (fun _ _ _ _ _ _ => True.intro) ?_ gm_name ?_
          · rintro i x G' H' H2 D acc hi s' O' ⟨rfl, rfl⟩ kk
            walk_at "s"
            have hi2 : i < ls.length := by omega
            refine x_ixl (v := .str ls[i]) (SqL.of (O'.sub _ _ (s' _ _ (s10 _ _ e9)))) (by rw [Int.zero_add]; exact atI_nat (by rw [List.getElem?_map, List.getElem?_eq_getElem hi2]; rfl)) ?_
            walk_at "s"
            refine x_mul (.inl ⟨by decide, by decide⟩) ?_
            walk_at "s"
            refine x_rI (by decide) ?_
            walk_at "s"
            refine x_slS (sz20 (by have := t3.2; omega)) ?_
            have ta := hls ls[i] (List.getElem_mem hi2)
            have tc := t3.cut none (some ((3 * (0 + (i : Int))).fmod 5))
            refine x_adds (sz20 (by have := tc.2; have := ta.2; omega)) ?_
            exact kk _ _ _ (Same.refl _) O' ⟨_, rfl, (ta.app tc).mono (by omega)⟩
          intro G14 H14 p8 ys s14 O14 e14 l14 r14
          obtain ⟨us, rfl, hus⟩ := strs_of (by_ix r14)
          rw [List.length_map] at l14
          walk_at "s"
          exact fin (.ref p8) _ ⟨G14, p8, us, rfl, s14, O14, e14, by omega, hus⟩
        · walk_at "s"
          exact same0
    · rintro v H11 ⟨G11, p5, zs, rfl, s11, O11, e11, l11, hzs⟩
      refine x_seq (x_cutV 8 (by walk_at "n") (fun v H' => ∃ (Gz : Hp) (pz : Addr) (zs : List Str), v = V.ref pz ∧ Same G11 Gz ∧ Own Gz H' ((b, .lst b7) :: R) ∧ Gz pz = some (.lst (zs.map V.str)) ∧ zs.length = m ∧ ∀ z ∈ zs, St 10 z) (fun nx fin => ?_) ?_)
      · walk_at "s"
        refine x_sqL (SqL.of (O11.sub _ _ e11)) ?_
        refine taboo_filt O11 e11 (by omega) fun G12 H12 p6 us s12 O12 e12 => ?_
        walk_at "s"
        refine ⟨by decide, x_fix O12 fun p7 G13 H13 s13 O13 e13 => ?_⟩
        refine x_neN (SqL.of (O13.sub _ _ (s13 _ _ e12))) (SqL.of (O13.sub _ _ e13)) ?_
        have e11' : G13 p5 = _ := s13 _ _ (s12 _ _ e11)
        walk_at "s"
        refine ite_b (fun c3 => ?_) (fun c3 => ?_)
        · walk_at "s"
          refine x_sqL (SqL.of (O13.sub _ _ e11')) ?_
          refine lc_map (by walk_at "n") walk_list O13 (by rw [List.length_map]; omega) (fun _ _ y => ∃ x, y = .str x ∧ St 10 x) (fun _ _ _ _ _ z => z) (fun G' H' D acc s' O' => SqL.of (O'.sub _ _ (s' _ _ e11'))) ?_ gm_name ?_
          · rintro i x G' H' H2 D acc hi s' O' ⟨rfl, ex⟩ kk
            obtain ⟨y, hy, rfl⟩ := Lz _ _ _ ex
            have sy := hzs y hy
            walk_at "s"
            refine x_adds (sz20 (by have := sy.2; show _ + 1 ≤ _; omega)) ?_
            exact kk _ _ _ (Same.refl _) O' ⟨_, rfl, (sy.app (show St 1 (Str.ofString "x") from ⟨rfl, by decide⟩)).mono (by omega)⟩
          intro G14 H14 p8 ys s14 O14 e14 l14 r14
          obtain ⟨us, rfl, hus⟩ := strs_of (by_ix r14)
          rw [List.length_map, List.length_map] at l14
          walk_at "s"
          exact fin (.ref p8) _ ⟨G14, p8, us, rfl, (s12.trans s13).trans s14, O14, e14, by omega, hus⟩
        · walk_at "s"
          exact fin (.ref p5) _ ⟨G13, p5, zs, rfl, s12.trans s13, O13, e11', by omega, fun z hz => (hzs z hz).mono (by omega)⟩
      · rintro v H12 ⟨G12, p6, us, rfl, s12, O12, e12, l12, hus⟩
        walk_at "s"
        refine ⟨G12, R, b, p6, us, N, b7, rfl, O12, SqL.of e12, B7.le (by omega), fun x hx => (hus x hx).1, by omega, fun G13 H13 p7 vs b8 s13 hp e13 O13 B13 => ?_⟩
        exact q G13 H13 p7 vs b8 (((((s08.trans s9).trans s10).trans s11).trans s12).trans s13) O13 e13 (by rw [hp.length_eq, l12]) (fun x hx => hus x (hp.mem_iff.mp hx)) B13
end
end M74
set_option maxHeartbeats 4000000
namespace M74
open PySem PySem.Spec PyProof.Rows L2 G
local macro_rules | `(tactic| walk_at "hp") => `(tactic| first | assumption | exact Own.at0 (by assumption) | exact Own.at1 (by assumption) | exact Own.at2 (by assumption) | exact Own.at3 (by assumption) | exact Own.sub (by assumption) _ _ (by assumption) | exact upd_same)
local macro_rules | `(tactic| walk_at "hl") => `(tactic| first | assumption | exact SqL.of (by walk_at "hp") | exact Own.seq (by assumption) (by assumption) | exact Own.seq (by assumption) (SqL.of (by assumption)))
local macro_rules | `(tactic| walk_at "ht") => `(tactic| first | assumption | exact SqT.of (by walk_at "hp") | exact Own.set (by assumption) (by assumption) | exact Own.set (by assumption) (SqT.of (by assumption)))
local macro_rules | `(tactic| walk_at "n") => `(tactic| (intros; (try dsimp only [List.set, wipe, List.map, List.set_cons_succ, List.set_cons_zero]); (try exact rfl)))
local macro_rules | `(tactic| walk_at "n1") => `(tactic| with_reducible first | (refine x_asgN (σ' := ?s) ?hs ?q; (case hs => walk_at "n")) | (refine x_gN (σ' := ?s) ?hs ?q; (case hs => walk_at "n")) | (refine And.intro (show wipe _ _ = _ from (by walk_at "n")) ?_) | (refine x_parN (σ' := ?s) ?hs ?q; (case hs => walk_at "n")) | (refine x_par3N (σ' := ?s) ?hs ?q; (case hs => walk_at "n")))
local macro_rules | `(tactic| walk_at "v1") => `(tactic| ((with_reducible refine x_var (v := ?v) ?h ?q); (case h => first | exact rfl | assumption)))
local macro_rules | `(tactic| walk_at "s1") => `(tactic| with_reducible first | refine x_op ?_ | refine x_acons ?_ | refine x_c ?_ | refine x_call ?_ | refine x_anil ?_ | refine x_cb ?_ | refine x_seq ?_ | refine x_asgG ?_ | refine x_gC ?_ | refine x_gNl ?_ | refine x_ret ?_ | refine x_ifs ?_ | refine x_test ?_ | refine x_testb ?_ | refine x_and ?_ | refine x_or ?_ | refine x_andV ?_ | refine x_isB ?_ | refine x_add ?_ | refine x_lt ?_ | refine x_inti ?_ | refine x_isI ?_ | refine x_lst ?_ | refine x_tup ?_ | refine x_slice ?_ | refine x_nop ?_ | refine x_part ?_ | refine x_bm ?_ | refine x_sub ?_ | refine x_rI0 ?_ | refine x_drop ?_ | refine x_next ?_ | refine x_brk ?_ | refine x_cnt ?_ | refine x_par2 ?_ | refine x_par33 ?_ | refine x_un ?_ | refine x_rU ?_ | refine x_le ?_ | refine x_gt ?_ | refine x_ge ?_ | refine x_lts ?_ | refine x_intb ?_ | refine x_abs ?_ | refine x_tru ?_ | refine x_trub ?_ | refine x_trui ?_ | refine x_not ?_ | refine x_orV ?_ | refine x_notV ?_ | refine x_if ?_ | refine x_isN ?_ | refine x_isnN ?_ | refine x_dict ?_ | refine x_bm0 ?_ | refine x_revL ?_ | refine x_lcR ?_ | refine x_lcS ?_ | refine x_forR ?_ | refine x_forS ?_ | refine x_yes ?_ | refine ite_t ?_ | refine ite_f ?_)
local macro_rules | `(tactic| walk_at "s") => `(tactic| repeat (first | walk_at "v1" | walk_at "s1" | walk_at "n1"))
local macro_rules | `(tactic| walk_at "bd") => `(tactic| first | decide | omega | exact Nat.le_refl _)
local macro_rules | `(tactic| walk_at "ft") => `(tactic| first
  | with_reducible exact la_nil | with_reducible exact fa_nil | with_reducible exact ft_non | with_reducible exact ft_bl | with_reducible exact ft_dict | ((with_reducible refine ft_str (n := 10) (x := ?x) ?h); (case h => exact And.intro rfl (by decide))) | ((with_reducible refine ft_int (i := ?i) ?h); (case h => decide))
  | ((with_reducible refine ft_var (v := ?v) (m := ?m) (n := ?n) ?h ?f); (case h => exact rfl); (case f => assumption))
  | ((with_reducible refine fa_cons (m1 := ?a) (n1 := ?b) (m2 := ?c) (n2 := ?d) ?f ?g); (case f => walk_at "ft"); (case g => walk_at "ft"))
  | ((with_reducible refine ft_tup (m := ?m) (n := ?n) ?f ?h); (case f => walk_at "ft"); (case h => walk_at "bd"))
  | ((with_reducible refine ft_lst (m := ?m) (n := ?n) ?f ?h); (case f => walk_at "ft"); (case h => walk_at "bd"))
  | ((with_reducible refine la_cons (m1 := ?a) (n1 := ?b) (B := ?c) ?f ?g ?h ?i); (case f => walk_at "ft"); (case h => walk_at "bd"); (case i => walk_at "bd"); (case g => walk_at "ft"))
  | ((with_reducible refine lt_var (v := ?v) (m := ?m) (n := ?n) (B := ?b) ?h ?f); (case h => exact rfl); (case f => assumption))
  | ((with_reducible refine lt_add (B1 := ?a) (B2 := ?b) ?f ?g ?h); (case f => walk_at "ft"); (case g => walk_at "ft"); (case h => walk_at "bd"))
  | ((with_reducible refine ft_addsv (x := ?x) (m := ?m) (n := 10) ?h ?s ?a ?z); (case h => exact rfl); (case s => assumption); (case a => exact And.intro rfl (by decide)); (case z => decide))
  | ((with_reducible refine lt_lst ?f ?h); (case f => walk_at "ft"); (case h => walk_at "bd")))
section
variable {P : Program} {w : World} {K : PySem.W.Frag} {mg : Str → Option Value} {base : Heap} {k : Nat}
def Bk (G : Hp) (v : V) : Prop := ∃ p, ∃ ns : List Int, v = .ref p ∧ G p = some (.lst (ns.map V.int)) ∧ 1 ≤ ns.length ∧ ns.length ≤ 4 ∧ ∀ n ∈ ns, 0 ≤ n ∧ n < ns.length
theorem bk_mono : ∀ (G G' : Hp) (v : V), Same G G' → Bk G v → Bk G' v := fun _ _ _ s ⟨p, ns, e, h, r⟩ => ⟨p, ns, e, s _ _ h, r⟩
theorem fp_bk {G0 : Hp} {σ : L2.St} (ns : List Int) {t : TA} (ht : ∀ (σ : L2.St) (H : Hp) (Q : List V → Hp → Prop), Q (ns.map V.int) H → t σ H Q) (hd : (1 ≤ ns.length ∧ ns.length ≤ 4) ∧ ns.all (fun n => decide (0 ≤ n ∧ n < ns.length)) = true) : FP G0 σ Bk (dLst t) := fun G H L Q s O kk =>
  x_lst (ht _ _ _ ⟨sz20 (by rw [List.length_map]; omega), x_fix O fun p G1 H1 s1 O1 e1 => kk _ _ _ s1 O1 ⟨p, ns, rfl, e1, hd.1.1, hd.1.2, fun n hn => of_decide_eq_true (List.all_eq_true.mp hd.2 n hn)⟩⟩)
abbrev s__law_ways : Stmt := top 21
theorem sc__law_ways : FnScope ["box", "menu", "backs", "names", "k"] ["box"] (defScope s__law_ways) := ⟨rfl, rfl, rfl, by decide +kernel, rfl, by decide +kernel, by decide +kernel⟩
def Wy (K : PySem.W.Frag) (G : Hp) (v : V) : Prop := ∃ (a : Addr) (x z : Str), v = .ref a ∧ SqT K G a [.str x, .str z] ∧ St 10 x ∧ St 10 z
theorem wy_mono : ∀ (G G' : Hp) (v : V), Same G G' → Wy K G v → Wy K G' v := fun _ _ _ s ⟨a, x, z, e, h, r⟩ => ⟨a, x, z, e, same_t s h, r⟩
def sp_ways (K : PySem.W.Frag) : Sp := fun vs H Q _ => ∃ (G : Hp) (R : List (Addr × HO)) (b : Addr) (N : Nat) (bx : List V), vs = [.ref b] ∧ Own G H ((b, .lst bx) :: R) ∧ Box (N + 50) bx ∧
  ∀ (G' H' : Hp) (p : Addr) (ys : List V) bx', Same G G' → Own G' H' ((b, .lst bx') :: R) → G' p = some (.lst ys) → 1 ≤ ys.length → ys.length ≤ 4 → (∀ y ∈ ys, Wy K G' y) → Box N bx' → Q (.ref p) H'
theorem ok_ways {f : Addr} {fd : FuncData} (F : Fun K "_law_ways" "_law_ways" s__law_ways f fd) (B : Bt mg) (C__law_take : Cal P w K mg base k "_law_take" ["box", "many"] sp_take)
    (C__law_names : Cal P w K mg base k "_law_names" ["box", "many"] sp_names) : FnG P w K mg base (k + 1) f fd ["box"] (sp_ways K) := by
  refine fnG_of F sc__law_ways (fun vs H Q E h => ?_) (fun cdv A outer s H vs Q E r h => ?_)
  · obtain ⟨_, _, b, N, bx, rfl, _⟩ := h
    rfl
  · obtain ⟨G, R, b, N, bx, rfl, O, bo, q⟩ := h
    refine ⟨_, (pss_cons (ps_set (i := 1) sc__law_ways.nd rfl (Or.inl rfl) (d_lst (pa_cons (d_lst (pa_cons pe_int pa_nil)) (pa_cons (d_lst (pa_cons pe_int (pa_cons pe_int pa_nil))) (pa_cons (d_lst (pa_cons pe_int (pa_cons pe_int pa_nil))) (pa_cons (d_lst (pa_cons pe_int (pa_cons pe_int (pa_cons pe_int pa_nil)))) (pa_cons (d_lst (pa_cons pe_int (pa_cons pe_int (pa_cons pe_int pa_nil)))) (pa_cons (d_lst (pa_cons pe_int (pa_cons pe_int (pa_cons pe_int pa_nil)))) (pa_cons (d_lst (pa_cons pe_int (pa_cons pe_int (pa_cons pe_int (pa_cons pe_int pa_nil))))) (pa_cons (d_lst (pa_cons pe_int (pa_cons pe_int (pa_cons pe_int (pa_cons pe_int pa_nil))))) (pa_cons (d_lst (pa_cons pe_int (pa_cons pe_int (pa_cons pe_int (pa_cons pe_int pa_nil))))) (pa_cons (d_lst (pa_cons pe_int (pa_cons pe_int (pa_cons pe_int (pa_cons pe_int pa_nil))))) pa_nil))))))))))))
       (pss_cons (ps_set (i := 2) sc__law_ways.nd rfl (Or.inr rfl) (pe_ix (ixK (K := K) rfl) (pe_op (oAddK (K := K) rfl) (pv 1) (d_lst (pa_cons (d_lst (pa_cons pe_int (pa_cons pe_int (pa_cons pe_int pa_nil)))) (pa_cons (d_lst (pa_cons pe_int (pa_cons pe_int (pa_cons pe_int (pa_cons pe_int pa_nil))))) pa_nil)))) (g_call C__law_take r (by rfl) passL (pa_cons (pv 0) (pa_cons pe_int pa_nil))) (fun _ _ => rfl)))
       (pss_cons (ps_set (i := 3) sc__law_ways.nd rfl (Or.inr rfl) (g_call C__law_names r (by rfl) passL (pa_cons (pv 0) (pa_cons (pe_callB (cLenK (K := K) rfl) (by rfl) B.len (by decide +kernel) (pa_cons (pv 2) pa_nil)) pa_nil))))
       (pss_one (ps_ret (pe_lc (own := [("k", 4)]) rfl sc__law_ways.nd (pi_range1 (by rfl) B.range (pa_cons (pe_callB (cLenK (K := K) rfl) (by rfl) B.len (by decide +kernel) (pa_cons (pv 2) pa_nil)) pa_nil)) (blkOk_by (N := ["box", "menu", "backs", "names", "k"]) (sc := defScope s__law_ways) (by decide +kernel)) (fun _ _ _ _ _ => (pg_name (i := 4) sc__law_ways.nd rfl (Or.inl rfl))) (fun _ _ _ _ _ => pts_nil) (fun _ _ _ _ _ => (d_tup (pa_cons (pe_ix (ixK (K := K) rfl) (pv 3) (pv 4) (fun _ _ => rfl)) (pa_cons (pe_ix (ixK (K := K) rfl) (pv 3) (pe_ix (ixK (K := K) rfl) (pv 2) (pv 4) (fun _ _ => rfl)) (fun _ _ => rfl)) pa_nil)))))))))), ?_⟩
    try dsimp only [cxOf]
    refine x_start (σ' := [some _, none, none, none, none]) rfl ?_
    refine x_seq (x_asgG ?_)
    refine lp_lst bk_mono (lp_cons bk_mono (fp_bk [0] (by intro σ H Q q; walk_at "s"; exact q) (by decide)) (lp_cons bk_mono (fp_bk [1, 0] (by intro σ H Q q; walk_at "s"; exact q) (by decide)) (lp_cons bk_mono (fp_bk [0, 1] (by intro σ H Q q; walk_at "s"; exact q) (by decide)) (lp_cons bk_mono (fp_bk [0, 2, 1] (by intro σ H Q q; walk_at "s"; exact q) (by decide)) (lp_cons bk_mono (fp_bk [2, 1, 0] (by intro σ H Q q; walk_at "s"; exact q) (by decide)) (lp_cons bk_mono (fp_bk [0, 1, 2] (by intro σ H Q q; walk_at "s"; exact q) (by decide)) (lp_cons bk_mono (fp_bk [1, 0, 3, 2] (by intro σ H Q q; walk_at "s"; exact q) (by decide)) (lp_cons bk_mono (fp_bk [2, 3, 0, 1] (by intro σ H Q q; walk_at "s"; exact q) (by decide)) (lp_cons bk_mono (fp_bk [0, 3, 2, 1] (by intro σ H Q q; walk_at "s"; exact q) (by decide)) (lp_cons bk_mono (fp_bk [0, 1, 2, 3] (by intro σ H Q q; walk_at "s"; exact q) (by decide)) lp_nil)))))))))) (by decide) G _ _ _ (Same.refl _) O fun G1 H1 v s1 O1 q1 => ?_
    obtain ⟨p1, ms, rfl, e1, l1, b1⟩ := q1
    walk_at "s"
    refine lp_lst bk_mono (lp_cons bk_mono (fp_bk [1, 0, 2] (by intro σ H Q q; walk_at "s"; exact q) (by decide)) (lp_cons bk_mono (fp_bk [3, 2, 1, 0] (by intro σ H Q q; walk_at "s"; exact q) (by decide)) lp_nil)) (by decide) G1 _ _ _ (Same.refl _) O1 fun G2 H2 v s2 O2 q2 => ?_
    obtain ⟨p2, ns, rfl, e2, l2, b2⟩ := q2
    refine x_addl (O2.sub _ _ (s2 _ _ e1)) (O2.sub _ _ e2) (sz20 (by omega)) (x_fix O2 fun p3 G3 H3 s3 O3 e3 => ?_)
    walk_at "s"
    refine ⟨G3, R, b, 12, N + 49, bx, rfl, O3, bo, by decide, by decide, fun H4 r bx4 r0 r1 O4 B4 => ?_⟩
    obtain ⟨n, rfl⟩ := Int.eq_ofNat_of_zero_le r0
    have hn : n < (ms ++ ns).length := by rw [List.length_append]; omega
    have hb : Bk G3 (ms ++ ns)[n] := by
      rcases List.mem_append.mp (List.getElem_mem hn) with h | h
      · exact bk_mono _ _ _ (s2.trans s3) (b1 _ h)
      · exact bk_mono _ _ _ s3 (b2 _ h)
    refine x_ixl (SqL.of (O4.sub _ _ e3)) (atI_nat (List.getElem?_eq_getElem hn)) ?_
    obtain ⟨p4, bs, e4, h4, lo, hi, hbs⟩ := hb
    rw [e4]
    walk_at "s"
    refine x_lenl (SqL.of (O4.sub _ _ h4)) ?_
    refine ⟨G3, R, b, bs.length, N + 9, bx4, by rw [List.length_map], O4, B4.le (by omega), by omega, fun G5 H5 p5 xs bx5 s5 O5 e5 lx hxs B5 => ?_⟩
    walk_at "s"
    have h4' := s5 _ _ h4
    refine x_lenl (SqL.of (O5.sub _ _ h4')) ?_
    rw [List.length_map]
    refine x_rg (by omega) (by omega) ?_
    refine lc_map (by walk_at "n") walk_range O5 (by omega) (fun G _ y => Wy K G y) (fun _ _ _ _ s z => wy_mono _ _ _ s z) (fun _ _ _ _ _ _ => True.intro) ?_ gm_name ?_
    · rintro i x G' H' H2 D acc hi' s' O' ⟨rfl, rfl⟩ kk
      walk_at "s"
      rw [Int.zero_add]
      have hi1 : i < xs.length := by omega
      have hi2 : i < bs.length := by omega
      refine x_ixl (v := .str xs[i]) (SqL.of (O'.sub _ _ (s' _ _ e5))) (atI_nat (by rw [List.getElem?_map, List.getElem?_eq_getElem hi1]; rfl)) ?_
      walk_at "s"
      try rw [Int.zero_add]
      refine x_ixl (v := .int bs[i]) (SqL.of (O'.sub _ _ (s' _ _ h4'))) (atI_nat (by rw [List.getElem?_map, List.getElem?_eq_getElem hi2]; rfl)) ?_
      obtain ⟨g0, g1⟩ := hbs bs[i] (List.getElem_mem hi2)
      obtain ⟨j, ej⟩ := Int.eq_ofNat_of_zero_le g0
      rw [ej]
      have hj : j < xs.length := by omega
      refine x_ixl (v := .str xs[j]) (SqL.of (O'.sub _ _ (s' _ _ e5))) (atI_nat (by rw [List.getElem?_map, List.getElem?_eq_getElem hj]; rfl)) ?_
      walk_at "s"
      refine ⟨by show 2 ≤ sizeLine; decide, x_fix O' fun p6 G6 H6 s6 O6 e6 => ?_⟩
      exact kk _ _ _ s6 O6 ⟨p6, _, _, rfl, SqT.of e6, hxs _ (List.getElem_mem hi1), hxs _ (List.getElem_mem hj)⟩
    intro G9 H9 p9 ys s9 O9 e9 l9 r9
    exact q G9 H9 p9 ys bx5 ((((s1.trans s2).trans s3).trans s5).trans s9) O9 e9 (by omega) (by omega) (by_ix r9) (B5.le (by omega))
abbrev s__law_marks : Stmt := top 22
theorem sc__law_marks : FnScope ["box", "names", "found"] ["box", "names"] (defScope s__law_marks) := ⟨rfl, rfl, rfl, by decide +kernel, rfl, by decide +kernel, by decide +kernel⟩
def sp_marks (K : PySem.W.Frag) : Sp := fun vs H Q _ => ∃ (G : Hp) (R : List (Addr × HO)) (b a : Addr) (xs : List Str) (N : Nat) (bx : List V), vs = [.ref b, .ref a] ∧ Own G H ((b, .lst bx) :: R) ∧ G a = some (.lst (xs.map V.str)) ∧ xs.length ≤ 8 ∧ (∀ x ∈ xs, St 10 x) ∧ Box (N + 10) bx ∧
  ∀ (G' H' : Hp) (p : Addr) (ys : List Str) bx', Same G G' → Own G' H' ((b, .lst bx') :: R) → G' p = some (.lst (ys.map V.str)) → ys.length ≤ 9 → (∀ y ∈ ys, St 10 y) → Box N bx' → Q (.ref p) H'
theorem ok_marks {f : Addr} {fd : FuncData} (F : Fun K "_law_marks" "_law_marks" s__law_marks f fd) (B : Bt mg) (C__law_take : Cal P w K mg base k "_law_take" ["box", "many"] sp_take)
    (C__law_mixed : Cal P w K mg base k "_law_mixed" ["box", "items"] (sp_mixed K)) : FnG P w K mg base (k + 1) f fd ["box", "names"] (sp_marks K) := by
  refine fnG_of F sc__law_marks (fun vs H Q E h => ?_) (fun cdv A outer s H vs Q E r h => ?_)
  · obtain ⟨_, _, b, a, xs, N, bx, rfl, _⟩ := h
    rfl
  · obtain ⟨G, R, b, a, xs, N, bx, rfl, O, ha, hl, hx, bo, q⟩ := h
    refine ⟨_, (pss_cons (ps_set (i := 2) sc__law_marks.nd rfl (Or.inl rfl) (g_call C__law_mixed r (by rfl) passL (pa_cons (pv 0) (pa_cons (pe_op (oAddK (K := K) rfl) (pv 1) (d_lst (pa_cons pe_str pa_nil))) pa_nil))))
       (pss_one (ps_ret (pe_slice (oSlK (K := K) rfl) (pv 2) po_none (po_some (pe_op (oAddK (K := K) rfl) pe_int (g_call C__law_take r (by rfl) passL (pa_cons (pv 0) (pa_cons (pe_callB (cLenK (K := K) rfl) (by rfl) B.len (by decide +kernel) (pa_cons (pv 2) pa_nil)) pa_nil))))))))), ?_⟩
    try dsimp only [cxOf]
    refine x_start (σ' := [some _, some _, none]) rfl ?_
    walk_at "s"
    refine ⟨by decide, x_fix O fun p1 G1 H1 s1 O1 e1 => ?_⟩
    refine x_addl (O1.sub _ _ (s1 _ _ ha)) (O1.sub _ _ e1) (sz20 (by rw [List.length_map]; show _ + 1 ≤ _; omega)) (x_fix O1 fun p2 G2 H2 s2 O2 e2 => ?_)
    walk_at "s"
    have hx2 : ∀ x ∈ xs ++ [Str.ofString "is"], St 10 x := fun x h => by
      rcases List.mem_append.mp h with h | h
      · exact hx x h
      · rw [List.mem_singleton.mp h]; exact ⟨rfl, by decide⟩
    have l2 : (xs ++ [Str.ofString "is"]).length = xs.length + 1 := List.length_append
    refine ⟨G2, R, b, p2, xs ++ [Str.ofString "is"], N + 1, bx, rfl, O2, SqL.of (by rw [List.map_append]; exact e2), bo.le (by omega), fun x h => (hx2 x h).1, by omega, fun G3 H3 p3 ys bx3 s3 hp e3 O3 B3 => ?_⟩
    have l3 := hp.length_eq
    walk_at "s"
    refine x_lenl (SqL.of (O3.sub _ _ e3)) ?_
    rw [List.length_map]
    refine ⟨G3, R, b, ys.length, N, bx3, rfl, O3, B3, by omega, by omega, fun H4 r bx4 r0 r1 O4 B4 => ?_⟩
    walk_at "s"
    refine x_slL (SqL.of (O4.sub _ _ e3)) (x_fix O4 fun p5 G5 H5 s5 O5 e5 => ?_)
    have ec : ∃ zs : List Str, cutV (ys.map V.str) none (some (1 + r)) = zs.map V.str ∧ zs.length ≤ ys.length ∧ ∀ z ∈ zs, z ∈ ys := by
      refine ⟨(ys.drop (HT.sIx (ys.map V.str).length 0 none)).take (HT.sIx (ys.map V.str).length (ys.map V.str).length (some (1 + r)) - HT.sIx (ys.map V.str).length 0 none), ?_, ?_, fun z hz => List.mem_of_mem_drop (List.mem_of_mem_take hz)⟩
      · unfold cutV
        rw [List.map_take, List.map_drop]
      · rw [List.length_take, List.length_drop]
        omega
    obtain ⟨zs, ez, lz, mz⟩ := ec
    rw [ez] at e5
    exact q G5 H5 p5 zs bx4 (((s1.trans s2).trans s3).trans s5) O5 e5 (by omega) (fun z hz => hx2 z (hp.mem_iff.mp (mz z hz))) B4
end
end M74
set_option maxHeartbeats 4000000
namespace M74
open PySem PySem.Spec PyProof.Rows L2 G
local macro_rules | `(tactic| walk_at "hp") => `(tactic| first | assumption | exact Own.at0 (by assumption) | exact Own.at1 (by assumption) | exact Own.at2 (by assumption) | exact Own.at3 (by assumption) | exact Own.sub (by assumption) _ _ (by assumption) | exact upd_same)
local macro_rules | `(tactic| walk_at "hl") => `(tactic| first | assumption | exact SqL.of (by walk_at "hp") | exact Own.seq (by assumption) (by assumption) | exact Own.seq (by assumption) (SqL.of (by assumption)))
local macro_rules | `(tactic| walk_at "ht") => `(tactic| first | assumption | exact SqT.of (by walk_at "hp") | exact Own.set (by assumption) (by assumption) | exact Own.set (by assumption) (SqT.of (by assumption)))
local macro_rules | `(tactic| walk_at "n") => `(tactic| (intros; (try dsimp only [List.set, wipe, List.map, List.set_cons_succ, List.set_cons_zero]); (try exact rfl)))
local macro_rules | `(tactic| walk_at "n1") => `(tactic| with_reducible first | (refine x_asgN (σ' := ?s) ?hs ?q; (case hs => walk_at "n")) | (refine x_gN (σ' := ?s) ?hs ?q; (case hs => walk_at "n")) | (refine And.intro (show wipe _ _ = _ from (by walk_at "n")) ?_) | (refine x_parN (σ' := ?s) ?hs ?q; (case hs => walk_at "n")) | (refine x_par3N (σ' := ?s) ?hs ?q; (case hs => walk_at "n")))
local macro_rules | `(tactic| walk_at "v1") => `(tactic| ((with_reducible refine x_var (v := ?v) ?h ?q); (case h => first | exact rfl | assumption)))
local macro_rules | `(tactic| walk_at "s1") => `(tactic| with_reducible first | refine x_op ?_ | refine x_acons ?_ | refine x_c ?_ | refine x_call ?_ | refine x_anil ?_ | refine x_cb ?_ | refine x_seq ?_ | refine x_asgG ?_ | refine x_gC ?_ | refine x_gNl ?_ | refine x_ret ?_ | refine x_ifs ?_ | refine x_test ?_ | refine x_testb ?_ | refine x_and ?_ | refine x_or ?_ | refine x_andV ?_ | refine x_isB ?_ | refine x_add ?_ | refine x_lt ?_ | refine x_inti ?_ | refine x_isI ?_ | refine x_lst ?_ | refine x_tup ?_ | refine x_slice ?_ | refine x_nop ?_ | refine x_part ?_ | refine x_bm ?_ | refine x_sub ?_ | refine x_rI0 ?_ | refine x_drop ?_ | refine x_next ?_ | refine x_brk ?_ | refine x_cnt ?_ | refine x_par2 ?_ | refine x_par33 ?_ | refine x_un ?_ | refine x_rU ?_ | refine x_le ?_ | refine x_gt ?_ | refine x_ge ?_ | refine x_lts ?_ | refine x_intb ?_ | refine x_abs ?_ | refine x_tru ?_ | refine x_trub ?_ | refine x_trui ?_ | refine x_not ?_ | refine x_orV ?_ | refine x_notV ?_ | refine x_if ?_ | refine x_isN ?_ | refine x_isnN ?_ | refine x_dict ?_ | refine x_bm0 ?_ | refine x_revL ?_ | refine x_lcR ?_ | refine x_lcS ?_ | refine x_forR ?_ | refine x_forS ?_ | refine x_yes ?_ | refine ite_t ?_ | refine ite_f ?_)
local macro_rules | `(tactic| walk_at "s") => `(tactic| repeat (first | walk_at "v1" | walk_at "s1" | walk_at "n1"))
local macro_rules | `(tactic| walk_at "bd") => `(tactic| first | decide | omega | exact Nat.le_refl _)
local macro_rules | `(tactic| walk_at "ft") => `(tactic| first
  | with_reducible exact la_nil | with_reducible exact fa_nil | with_reducible exact ft_non | with_reducible exact ft_bl | with_reducible exact ft_dict | ((with_reducible refine ft_str (n := 10) (x := ?x) ?h); (case h => exact And.intro rfl (by decide))) | ((with_reducible refine ft_int (i := ?i) ?h); (case h => decide))
  | ((with_reducible refine ft_var (v := ?v) (m := ?m) (n := ?n) ?h ?f); (case h => exact rfl); (case f => assumption))
  | ((with_reducible refine fa_cons (m1 := ?a) (n1 := ?b) (m2 := ?c) (n2 := ?d) ?f ?g); (case f => walk_at "ft"); (case g => walk_at "ft"))
  | ((with_reducible refine ft_tup (m := ?m) (n := ?n) ?f ?h); (case f => walk_at "ft"); (case h => walk_at "bd"))
  | ((with_reducible refine ft_lst (m := ?m) (n := ?n) ?f ?h); (case f => walk_at "ft"); (case h => walk_at "bd"))
  | ((with_reducible refine la_cons (m1 := ?a) (n1 := ?b) (B := ?c) ?f ?g ?h ?i); (case f => walk_at "ft"); (case h => walk_at "bd"); (case i => walk_at "bd"); (case g => walk_at "ft"))
  | ((with_reducible refine lt_var (v := ?v) (m := ?m) (n := ?n) (B := ?b) ?h ?f); (case h => exact rfl); (case f => assumption))
  | ((with_reducible refine lt_add (B1 := ?a) (B2 := ?b) ?f ?g ?h); (case f => walk_at "ft"); (case g => walk_at "ft"); (case h => walk_at "bd"))
  | ((with_reducible refine ft_addsv (x := ?x) (m := ?m) (n := 10) ?h ?s ?a ?z); (case h => exact rfl); (case s => assumption); (case a => exact And.intro rfl (by decide)); (case z => decide))
  | ((with_reducible refine lt_lst ?f ?h); (case f => walk_at "ft"); (case h => walk_at "bd")))
section
variable {P : Program} {w : World} {K : PySem.W.Frag} {mg : Str → Option Value} {base : Heap} {k : Nat}
abbrev s__law_part : Stmt := top 23
theorem sc__law_part : FnScope ["box", "names", "tests", "way", "test"] ["box", "names", "tests"] (defScope s__law_part) := ⟨rfl, rfl, rfl, by decide +kernel, rfl, by decide +kernel, by decide +kernel⟩
/-- a list of short texts that stands -/
def Nm (G : Hp) (a : Addr) (xs : List Str) : Prop := G a = some (.lst (xs.map V.str)) ∧ ∀ x ∈ xs, St 10 x
theorem Nm.same {G G' : Hp} {a : Addr} {xs : List Str} (h : Nm G a xs) (s : Same G G') : Nm G' a xs := ⟨s _ _ h.1, h.2⟩
theorem Nm.at {G : Hp} {a : Addr} {xs : List Str} (h : Nm G a xs) {i : Nat} (hi : i < xs.length) : atI (xs.map V.str) (i : Int) = some (.str xs[i]) ∧ St 10 xs[i] := ⟨atI_nat (by rw [List.getElem?_map, List.getElem?_eq_getElem hi]; rfl), h.2 _ (List.getElem_mem hi)⟩
def sp_part (K : PySem.W.Frag) : Sp := fun vs H Q _ => ∃ (G : Hp) (R : List (Addr × HO)) (b a t : Addr) (xs ts : List Str) (N : Nat) (bx : List V), vs = [.ref b, .ref a, .ref t] ∧ Own G H ((b, .lst bx) :: R) ∧ Nm G a xs ∧ xs.length ≤ 8 ∧ Nm G t ts ∧ 1 ≤ ts.length ∧ ts.length ≤ 100 ∧ Box (N + 12) bx ∧
  ∀ (G' H' : Hp) (v : V) bx', Same G G' → Own G' H' ((b, .lst bx') :: R) → Fn K G' 2 130 v → Box N bx' → Q v H'
theorem ok_part {f : Addr} {fd : FuncData} (F : Fun K "_law_part" "_law_part" s__law_part f fd) (B : Bt mg) (C__law_take : Cal P w K mg base k "_law_take" ["box", "many"] sp_take)
    (C__law_marks : Cal P w K mg base k "_law_marks" ["box", "names"] (sp_marks K)) : FnG P w K mg base (k + 1) f fd ["box", "names", "tests"] (sp_part K) := by
  refine fnG_of F sc__law_part (fun vs H Q E h => ?_) (fun cdv A outer s H vs Q E r h => ?_)
  · obtain ⟨_, _, b, a, t, xs, ts, N, bx, rfl, _⟩ := h
    rfl
  · obtain ⟨G, R, b, a, t, xs, ts, N, bx, rfl, O, ha, hl, ht, t0, t1, bo, q⟩ := h
    refine ⟨_, (pss_cons (ps_par (i := 3) (j := 4) rfl sc__law_part.nd rfl rfl (by decide) rfl rfl (pa_cons (g_call C__law_take r (by rfl) passL (pa_cons (pv 0) (pa_cons pe_int pa_nil))) (pa_cons (pe_ix (ixK (K := K) rfl) (pv 2) (g_call C__law_take r (by rfl) passL (pa_cons (pv 0) (pa_cons (pe_callB (cLenK (K := K) rfl) (by rfl) B.len (by decide +kernel) (pa_cons (pv 2) pa_nil)) pa_nil))) (fun _ _ => rfl)) pa_nil)) (by rfl))
       (pss_cons (ps_if (pt_cmpR oGt (pv 3) pe_int (nomark _))
       (pss_one (ps_ret (d_tup (pa_cons pe_str (pa_cons (pe_callTy (cTupleK (K := K) rfl) (by rfl) B.tuple (by decide +kernel) (pa_cons (pe_callB (cSortedK (K := K) rfl) (by rfl) B.sorted (by decide +kernel) (pa_cons (g_call C__law_marks r (by rfl) passL (pa_cons (pv 0) (pa_cons (pv 1) pa_nil))) pa_nil)) pa_nil)) (pa_cons (pe_ix (ixK (K := K) rfl) (d_lst (pa_cons pe_str (pa_cons pe_str pa_nil))) (pe_op op_sub (pv 3) pe_int) (fun _ _ => rfl)) (pa_cons (pv 4) pa_nil)))))))
       pss_nil)
       (pss_one (ps_ret (d_tup (pa_cons (pe_ix (ixK (K := K) rfl) (d_lst (pa_cons pe_str (pa_cons pe_str (pa_cons pe_str pa_nil)))) (pv 3) (fun _ _ => rfl)) (pa_cons (pv 4) pa_nil))))))), ?_⟩
    try dsimp only [cxOf]
    refine x_start (σ' := [some _, some _, some _, none, none]) rfl ?_
    walk_at "s"
    refine ⟨G, R, b, 5, N + 11, bx, rfl, O, bo, by decide, by decide, fun H1 way b1 w0 w1 O1 B1 => ?_⟩
    walk_at "s"
    refine x_lenl (SqL.of (O1.sub _ _ ht.1)) ?_
    rw [List.length_map]
    refine ⟨G, R, b, ts.length, N + 10, b1, rfl, O1, B1, by omega, by omega, fun H2 r b2 r0 r1 O2 B2 => ?_⟩
    obtain ⟨n, rfl⟩ := Int.eq_ofNat_of_zero_le r0
    have hn : n < ts.length := by omega
    obtain ⟨en, sn⟩ := ht.at hn
    refine x_ixl (SqL.of (O2.sub _ _ ht.1)) en ?_
    walk_at "s"
    refine ite_b (fun c => ?_) (fun c => ?_)
    · have c1 := of_decide_eq_true c
      walk_at "s"
      refine ⟨G, R, b, a, xs, N, b2, rfl, O2, ha.1, hl, ha.2, B2, fun G3 H3 p3 ys b3 s3 O3 e3 l3 hy B3 => ?_⟩
      walk_at "s"
      refine x_sortedS (SqL.of (O3.sub _ _ e3)) (by omega) (fun zs hp _ => x_fix O3 fun p4 G4 H4 s4 O4 e4 => ?_)
      walk_at "s"
      refine x_tupleL (SqL.of (O4.sub _ _ e4)) (x_fix O4 fun p5 G5 H5 s5 O5 e5 => ?_)
      walk_at "s"
      refine ⟨by decide, x_fix O5 fun p6 G6 H6 s6 O6 e6 => ?_⟩
      have hz : ∀ z ∈ zs, St 10 z := fun z hz => hy z (hp.mem_iff.mp hz)
      have lz : zs.length ≤ 9 := by rw [hp.length_eq]; exact l3
      have hfl : ∃ x : Str, St 5 x ∧ atI [V.str (Str.ofString "first"), V.str (Str.ofString "last")] (way - 3) = some (.str x) := by
        rcases (show way = 3 ∨ way = 4 by omega) with rfl | rfl
        · exact ⟨_, ⟨rfl, by decide⟩, rfl⟩
        · exact ⟨_, ⟨rfl, by decide⟩, rfl⟩
      obtain ⟨fl, sfl, efl⟩ := hfl
      walk_at "s"
      refine x_ixl (SqL.of (O6.sub _ _ e6)) efl ?_
      walk_at "s"
      refine ⟨by show 4 ≤ sizeLine; decide, x_fix O6 fun p7 G7 H7 s7 O7 e7 => ?_⟩
      have f1 : Fn K G7 1 99 (.ref p5) := ((FnL.strs (K := K) (G := G7) hz).mono (Nat.le_refl _) (by omega)).tup (SqT.of (s7 _ _ (s6 _ _ e5)))
      exact q G7 H7 (.ref p7) b3 ((((s3.trans s4).trans s5).trans s6).trans s7) O7 (((FnL.cons (Fn.str (n := 6) ⟨rfl, by decide⟩) (FnL.cons f1 (FnL.cons (Fn.str sfl) (FnL.cons (Fn.str sn) FnL.nil)))).tup (SqT.of e7)).mono (by decide) (by decide)) B3
    · have c1 := of_decide_eq_false c
      walk_at "s"
      refine ⟨by decide, x_fix O2 fun p6 G6 H6 s6 O6 e6 => ?_⟩
      have hfl : ∃ x : Str, St 5 x ∧ atI [V.str (Str.ofString "seen"), V.str (Str.ofString "odd"), V.str (Str.ofString "just")] way = some (.str x) := by
        rcases (show way = 0 ∨ way = 1 ∨ way = 2 by omega) with rfl | rfl | rfl
        · exact ⟨_, ⟨rfl, by decide⟩, rfl⟩
        · exact ⟨_, ⟨rfl, by decide⟩, rfl⟩
        · exact ⟨_, ⟨rfl, by decide⟩, rfl⟩
      obtain ⟨fl, sfl, efl⟩ := hfl
      walk_at "s"
      refine x_ixl (SqL.of (O6.sub _ _ e6)) efl ?_
      walk_at "s"
      refine ⟨by show 2 ≤ sizeLine; decide, x_fix O6 fun p7 G7 H7 s7 O7 e7 => ?_⟩
      exact q G7 H7 (.ref p7) b2 (s6.trans s7) O7 (((FnL.cons (Fn.str sfl) (FnL.cons (Fn.str sn) FnL.nil)).tup (SqT.of e7)).mono (by decide) (by decide)) (B2.le (by omega))
abbrev s__law_formula : Stmt := top 24
theorem sc__law_formula : FnScope ["box", "names", "tests", "deep", "full", "way", "side", "inner", "other"] ["box", "names", "tests", "deep", "full"] (defScope s__law_formula) := ⟨rfl, rfl, rfl, by decide +kernel, rfl, by decide +kernel, by decide +kernel⟩
def sp_formula (K : PySem.W.Frag) (D : Nat) : Sp := fun vs H Q _ => ∃ (G : Hp) (R : List (Addr × HO)) (b a t : Addr) (xs ts : List Str) (d : Nat) (full : Bool) (N : Nat) (bx : List V), vs = [.ref b, .ref a, .ref t, .int d, .bl full] ∧ Own G H ((b, .lst bx) :: R) ∧ Nm G a xs ∧ xs.length ≤ 8 ∧ Nm G t ts ∧ 1 ≤ ts.length ∧ ts.length ≤ 100 ∧
  1 ≤ d ∧ d ≤ D ∧ d ≤ 6 ∧ Box (N + 20 * 3 ^ d) bx ∧
  ∀ (G' H' : Hp) (v : V) bx', Same G G' → Own G' H' ((b, .lst bx') :: R) → Fn K G' (d + 1) (150 * 2 ^ d - 20) v → Box N bx' → Q v H'
theorem p2 {d e : Nat} (h : d ≤ e) : 2 ^ d ≤ 2 ^ e := Nat.pow_le_pow_right (by decide) h
theorem p3 {d e : Nat} (h : d ≤ e) : 3 ^ d ≤ 3 ^ e := Nat.pow_le_pow_right (by decide) h
theorem ok_formulaS {f : Addr} {fd : FuncData} (F : Fun K "_law_formula" "_law_formula" s__law_formula f fd) (B : Bt mg) (D : Nat)
    (C__law_formula : Cal P w K mg base k "_law_formula" ["box", "names", "tests", "deep", "full"] (sp_formula K D))
    (C__law_take : Cal P w K mg base k "_law_take" ["box", "many"] sp_take) (C__law_part : Cal P w K mg base k "_law_part" ["box", "names", "tests"] (sp_part K)) :
    FnG P w K mg base (k + 1) f fd ["box", "names", "tests", "deep", "full"] (sp_formula K (D + 1)) := by
  refine fnG_of F sc__law_formula (fun vs H Q E h => ?_) (fun cdv A outer s H vs Q E r h => ?_)
  · obtain ⟨_, _, _, _, _, _, _, d, _, _, _, rfl, _⟩ := h
    rfl
  · obtain ⟨G, R, b, a, t, xs, ts, d, full, N, bx, rfl, O, ha, hl, ht, t0, t1, d0, d1, d6, bo, q⟩ := h
    have pp := p3 d0
    have qq := p2 d0
    refine ⟨_, (pss_cons (ps_par (i := 5) (j := 6) rfl sc__law_formula.nd rfl rfl (by decide) rfl rfl (pa_cons (g_call C__law_take r (by rfl) passL (pa_cons (pv 0) (pa_cons pe_int pa_nil))) (pa_cons (g_call C__law_take r (by rfl) passL (pa_cons (pv 0) (pa_cons pe_int pa_nil))) pa_nil)) (by rfl))
       (pss_cons (ps_if (pt_cmpR (oEqK (K := K) rfl r) (pv 3) pe_int (nomark _))
       (pss_one (ps_ret (g_call C__law_part r (by rfl) passL (pa_cons (pv 0) (pa_cons (pv 1) (pa_cons (pv 2) pa_nil))))))
       pss_nil)
       (pss_cons (ps_set (i := 7) sc__law_formula.nd rfl (Or.inl rfl) (g_call C__law_formula r (by rfl) passL (pa_cons (pv 0) (pa_cons (pv 1) (pa_cons (pv 2) (pa_cons (pe_op op_sub (pv 3) pe_int) (pa_cons (pv 4) pa_nil)))))))
       (pss_cons (ps_if (PW.pt (pw_and (pt_cmpR (oEqK (K := K) rfl r) (pv 5) pe_int (nomark _)) (pw_and1 (pt_not (pt_truK (K := K) rfl (pv 4))))))
       (pss_one (ps_ret (d_tup (pa_cons pe_str (pa_cons (pv 7) pa_nil)))))
       pss_nil)
       (pss_cons (ps_set (i := 8) sc__law_formula.nd rfl (Or.inl rfl) (g_call C__law_formula r (by rfl) passL (pa_cons (pv 0) (pa_cons (pv 1) (pa_cons (pv 2) (pa_cons (pe_ifExp (pt_truK (K := K) rfl (pv 4)) (pe_op op_sub (pv 3) pe_int) (pe_op (oAddK (K := K) rfl) pe_int (g_call C__law_take r (by rfl) passL (pa_cons (pv 0) (pa_cons (pe_op op_sub (pv 3) pe_int) pa_nil))))) (pa_cons (pv 4) pa_nil)))))))
       (pss_one (ps_ret (pe_ifExp (pt_cmpR (oEqK (K := K) rfl r) (pv 6) pe_int (nomark _)) (d_tup (pa_cons (pe_ix (ixK (K := K) rfl) (d_lst (pa_cons pe_str (pa_cons pe_str pa_nil))) (pe_op op_fdivN (pv 5) pe_int) (fun _ _ => rfl)) (pa_cons (pv 7) (pa_cons (pv 8) pa_nil)))) (d_tup (pa_cons (pe_ix (ixK (K := K) rfl) (d_lst (pa_cons pe_str (pa_cons pe_str pa_nil))) (pe_op op_fdivN (pv 5) pe_int) (fun _ _ => rfl)) (pa_cons (pv 8) (pa_cons (pv 7) pa_nil)))))))))))), ?_⟩
    try dsimp only [cxOf]
    refine x_start (σ' := [some _, some _, some _, some _, some _, none, none, none, none]) rfl ?_
    walk_at "s"
    refine ⟨G, R, b, 5, N + 20 * 3 ^ d - 1, bx, rfl, O, bo.le (by omega), by decide, by decide, fun H1 way b1 w0 w1 O1 B1 => ?_⟩
    walk_at "s"
    refine ⟨G, R, b, 2, N + 20 * 3 ^ d - 2, b1, rfl, O1, B1.le (by omega), by decide, by decide, fun H2 side b2 v0 v1 O2 B2 => ?_⟩
    walk_at "s"
    refine x_eq rfl ?_
    walk_at "s"
    refine ite_b (fun c => ?_) (fun c => ?_)
    · walk_at "s"
      exact ⟨G, R, b, a, t, xs, ts, N, b2, rfl, O2, ha, hl, ht, t0, t1, B2.le (by omega), fun G3 H3 v b3 s3 O3 f3 B3 => q G3 H3 v b3 s3 O3 (f3.mono (by omega) (by omega)) B3⟩
    · have c1 : d ≠ 1 := fun z => by rw [z] at c; exact absurd rfl (of_decide_eq_false c)
      obtain ⟨e, rfl⟩ : ∃ e, d = e + 1 := ⟨d - 1, by omega⟩
      have e3 : 3 ^ (e + 1) = 3 * 3 ^ e := Nat.pow_succ'
      have pe := p3 (show 1 ≤ e by omega)
      have e2 : 2 ^ (e + 1) = 2 * 2 ^ e := Nat.pow_succ'
      have pe2 := p2 (show 1 ≤ e by omega)
      have ee : ((e + 1 : Nat) : Int) - 1 = e := by omega
      refine x_next (x_seq (x_asgN (σ' := fun v => [some (.ref b), some (.ref a), some (.ref t), some (.int ((e + 1 : Nat) : Int)), some (.bl full), some (.int way), some (.int side), some v, none]) (fun _ => rfl) ?_))
      walk_at "s"
      rw [ee]
      refine ⟨G, R, b, a, t, xs, ts, e, full, N + 20 * 3 ^ e + 1, b2, rfl, O2, ha, hl, ht, t0, t1, by omega, by omega, by omega, B2.le (by omega), fun G3 H3 v b3 s3 O3 f3 B3 => ?_⟩
      refine x_seq (x_when ?rest (fun tl => ?_))
      case rest =>
        have ha3 := ha.same s3
        have ht3 := ht.same s3
        walk_at "s"
        refine ite_b (fun c2 => ?_) (fun c2 => ?_)
        · walk_at "s"
          rw [ee]
          refine ⟨G3, R, b, a, t, xs, ts, e, full, N, b3, rfl, O3, ha3, hl, ht3, t0, t1, by omega, by omega, by omega, B3.le (by omega), fun G4 H4 v2 b4 s4 O4 f4 B4 => ?_⟩
          have hfl : ∃ x : Str, St 6 x ∧ atI [V.str (Str.ofString "both"), V.str (Str.ofString "either")] (way.fdiv 3) = some (.str x) := by
            rcases (show way = 0 ∨ way = 1 ∨ way = 2 ∨ way = 3 ∨ way = 4 by omega) with rfl | rfl | rfl | rfl | rfl <;> exact ⟨_, ⟨by decide, by decide⟩, rfl⟩
          obtain ⟨fl, sfl, efl⟩ := hfl
          have f3' := f3.same s4
          walk_at "s"
          refine x_eq rfl ?_
          walk_at "s"
          refine ite_b (fun c3 => ?_) (fun c3 => ?_)
          · walk_at "s"
            refine ⟨by decide, x_fix O4 fun p6 G6 H6 s6 O6 e6 => ?_⟩
            walk_at "s"
            refine x_rI ⟨by decide, by decide⟩ ?_
            refine x_ixl (SqL.of (O6.sub _ _ e6)) efl ?_
            walk_at "s"
            refine ⟨by show 3 ≤ sizeLine; decide, x_fix O6 fun p7 G7 H7 s7 O7 e7 => ?_⟩
            have s67 := s6.trans s7
            exact q G7 H7 (.ref p7) b4 ((s3.trans s4).trans s67) O7 (((FnL.cons (Fn.str sfl) (FnL.cons (f3'.same s67) (FnL.cons (f4.same s67) FnL.nil))).tup (SqT.of e7)).mono (by omega) (by omega)) B4
          · walk_at "s"
            refine ⟨by decide, x_fix O4 fun p6 G6 H6 s6 O6 e6 => ?_⟩
            walk_at "s"
            refine x_rI ⟨by decide, by decide⟩ ?_
            refine x_ixl (SqL.of (O6.sub _ _ e6)) efl ?_
            walk_at "s"
            refine ⟨by show 3 ≤ sizeLine; decide, x_fix O6 fun p7 G7 H7 s7 O7 e7 => ?_⟩
            have s67 := s6.trans s7
            exact q G7 H7 (.ref p7) b4 ((s3.trans s4).trans s67) O7 (((FnL.cons (Fn.str sfl) (FnL.cons (f4.same s67) (FnL.cons (f3'.same s67) FnL.nil))).tup (SqT.of e7)).mono (by omega) (by omega)) B4
        · walk_at "s"
          rw [ee]
          refine ⟨G3, R, b, e, N + 20 * 3 ^ e, b3, rfl, O3, B3, by omega, by omega, fun H4 r b4 r0 r1 O4 B4 => ?_⟩
          obtain ⟨n, rfl⟩ := Int.eq_ofNat_of_zero_le r0
          walk_at "s"
          have pn := p3 (show n + 1 ≤ e by omega)
          have pn2 := p2 (show n + 1 ≤ e by omega)
          refine ⟨G3, R, b, a, t, xs, ts, n + 1, full, N, b4, by rw [show (1 : Int) + n = ((n + 1 : Nat) : Int) by omega], O4, ha3, hl, ht3, t0, t1, by omega, by omega, by omega, B4.le (by omega), fun G4 H4 v2 b4 s4 O4 f4 B4 => ?_⟩
          replace f4 := f4.mono (show n + 1 + 1 ≤ e + 1 by omega) (show 150 * 2 ^ (n + 1) - 20 ≤ 150 * 2 ^ e - 20 by omega)
          have hfl : ∃ x : Str, St 6 x ∧ atI [V.str (Str.ofString "both"), V.str (Str.ofString "either")] (way.fdiv 3) = some (.str x) := by
            rcases (show way = 0 ∨ way = 1 ∨ way = 2 ∨ way = 3 ∨ way = 4 by omega) with rfl | rfl | rfl | rfl | rfl <;> exact ⟨_, ⟨by decide, by decide⟩, rfl⟩
          obtain ⟨fl, sfl, efl⟩ := hfl
          have f3' := f3.same s4
          walk_at "s"
          refine x_eq rfl ?_
          walk_at "s"
          refine ite_b (fun c3 => ?_) (fun c3 => ?_)
          · walk_at "s"
            refine ⟨by decide, x_fix O4 fun p6 G6 H6 s6 O6 e6 => ?_⟩
            walk_at "s"
            refine x_rI ⟨by decide, by decide⟩ ?_
            refine x_ixl (SqL.of (O6.sub _ _ e6)) efl ?_
            walk_at "s"
            refine ⟨by show 3 ≤ sizeLine; decide, x_fix O6 fun p7 G7 H7 s7 O7 e7 => ?_⟩
            have s67 := s6.trans s7
            exact q G7 H7 (.ref p7) b4 ((s3.trans s4).trans s67) O7 (((FnL.cons (Fn.str sfl) (FnL.cons (f3'.same s67) (FnL.cons (f4.same s67) FnL.nil))).tup (SqT.of e7)).mono (by omega) (by omega)) B4
          · walk_at "s"
            refine ⟨by decide, x_fix O4 fun p6 G6 H6 s6 O6 e6 => ?_⟩
            walk_at "s"
            refine x_rI ⟨by decide, by decide⟩ ?_
            refine x_ixl (SqL.of (O6.sub _ _ e6)) efl ?_
            walk_at "s"
            refine ⟨by show 3 ≤ sizeLine; decide, x_fix O6 fun p7 G7 H7 s7 O7 e7 => ?_⟩
            have s67 := s6.trans s7
            exact q G7 H7 (.ref p7) b4 ((s3.trans s4).trans s67) O7 (((FnL.cons (Fn.str sfl) (FnL.cons (f4.same s67) (FnL.cons (f3'.same s67) FnL.nil))).tup (SqT.of e7)).mono (by omega) (by omega)) B4
      walk_at "s"
      refine x_eq rfl ?_
      walk_at "s"
      refine ite_b (fun c2 => ?_) (fun c2 => ?_)
      · walk_at "s"
        refine ite_b (fun c3 => ?_) (fun c3 => ?_)
        · walk_at "s"
          refine ⟨by show 2 ≤ sizeLine; decide, x_fix O3 fun p7 G7 H7 s7 O7 e7 => ?_⟩
          exact q G7 H7 (.ref p7) b3 (s3.trans s7) O7 (((FnL.cons (Fn.str (n := 3) ⟨rfl, by decide⟩) (FnL.cons (f3.same s7) FnL.nil)).tup (SqT.of e7)).mono (by omega) (by omega)) (B3.le (by omega))
        · exact tl
      · exact ite_f tl
theorem ok_formula {f : Addr} {fd : FuncData} (F : Fun K "_law_formula" "_law_formula" s__law_formula f fd) (B : Bt mg) (hm : mg "_law_formula" = some (.ref f)) (hk : PySem.W.keepIn K (.ref f) = true) (hb : Binds K fd ["box", "names", "tests", "deep", "full"] [])
    (C__law_take : Cal P w K mg base k "_law_take" ["box", "many"] sp_take) (C__law_part : Cal P w K mg base k "_law_part" ["box", "names", "tests"] (sp_part K)) :
    ∀ D, FnG P w K mg base (k + D) f fd ["box", "names", "tests", "deep", "full"] (sp_formula K D)
  | 0 => ⟨fun vs H Q E h => by
      obtain ⟨_, _, _, _, _, _, _, d, _, _, _, _, _, _, _, _, _, _, d0, d1, _⟩ := h
      omega, fun A outer s H args us vs Q E r e b v h => by
      obtain ⟨_, _, _, _, _, _, _, d, _, _, _, _, _, _, _, _, _, _, d0, d1, _⟩ := h
      omega⟩
  | D + 1 => ok_formulaS F B D ⟨f, fd, ok_formula F B hm hk hb C__law_take C__law_part D, hm, hk, hb⟩ (C__law_take.up (Nat.le_add_right k D)) (C__law_part.up (Nat.le_add_right k D))
end
end M74
set_option maxHeartbeats 4000000
namespace M74
open PySem PySem.Spec PyProof.Rows L2 G
local macro_rules | `(tactic| walk_at "hp") => `(tactic| first | assumption | exact Own.at0 (by assumption) | exact Own.at1 (by assumption) | exact Own.at2 (by assumption) | exact Own.at3 (by assumption) | exact Own.sub (by assumption) _ _ (by assumption) | exact upd_same)
local macro_rules | `(tactic| walk_at "hl") => `(tactic| first | assumption | exact SqL.of (by walk_at "hp") | exact Own.seq (by assumption) (by assumption) | exact Own.seq (by assumption) (SqL.of (by assumption)))
local macro_rules | `(tactic| walk_at "ht") => `(tactic| first | assumption | exact SqT.of (by walk_at "hp") | exact Own.set (by assumption) (by assumption) | exact Own.set (by assumption) (SqT.of (by assumption)))
local macro_rules | `(tactic| walk_at "n") => `(tactic| (intros; (try dsimp only [List.set, wipe, List.map, List.set_cons_succ, List.set_cons_zero]); (try exact rfl)))
local macro_rules | `(tactic| walk_at "n1") => `(tactic| with_reducible first | (refine x_asgN (σ' := ?s) ?hs ?q; (case hs => walk_at "n")) | (refine x_gN (σ' := ?s) ?hs ?q; (case hs => walk_at "n")) | (refine And.intro (show wipe _ _ = _ from (by walk_at "n")) ?_) | (refine x_parN (σ' := ?s) ?hs ?q; (case hs => walk_at "n")) | (refine x_par3N (σ' := ?s) ?hs ?q; (case hs => walk_at "n")))
local macro_rules | `(tactic| walk_at "v1") => `(tactic| ((with_reducible refine x_var (v := ?v) ?h ?q); (case h => first | exact rfl | assumption)))
local macro_rules | `(tactic| walk_at "s1") => `(tactic| with_reducible first | refine x_op ?_ | refine x_acons ?_ | refine x_c ?_ | refine x_call ?_ | refine x_anil ?_ | refine x_cb ?_ | refine x_seq ?_ | refine x_asgG ?_ | refine x_gC ?_ | refine x_gNl ?_ | refine x_ret ?_ | refine x_ifs ?_ | refine x_test ?_ | refine x_testb ?_ | refine x_and ?_ | refine x_or ?_ | refine x_andV ?_ | refine x_isB ?_ | refine x_add ?_ | refine x_lt ?_ | refine x_inti ?_ | refine x_isI ?_ | refine x_lst ?_ | refine x_tup ?_ | refine x_slice ?_ | refine x_nop ?_ | refine x_part ?_ | refine x_bm ?_ | refine x_sub ?_ | refine x_rI0 ?_ | refine x_drop ?_ | refine x_next ?_ | refine x_brk ?_ | refine x_cnt ?_ | refine x_par2 ?_ | refine x_par33 ?_ | refine x_un ?_ | refine x_rU ?_ | refine x_le ?_ | refine x_gt ?_ | refine x_ge ?_ | refine x_lts ?_ | refine x_intb ?_ | refine x_abs ?_ | refine x_tru ?_ | refine x_trub ?_ | refine x_trui ?_ | refine x_not ?_ | refine x_orV ?_ | refine x_notV ?_ | refine x_if ?_ | refine x_isN ?_ | refine x_isnN ?_ | refine x_dict ?_ | refine x_bm0 ?_ | refine x_revL ?_ | refine x_lcR ?_ | refine x_lcS ?_ | refine x_forR ?_ | refine x_forS ?_ | refine x_yes ?_ | refine ite_t ?_ | refine ite_f ?_)
local macro_rules | `(tactic| walk_at "s") => `(tactic| repeat (first | walk_at "v1" | walk_at "s1" | walk_at "n1"))
local macro_rules | `(tactic| walk_at "bd") => `(tactic| first | decide | omega | exact Nat.le_refl _)
local macro_rules | `(tactic| walk_at "ft") => `(tactic| first
  | with_reducible exact la_nil | with_reducible exact fa_nil | with_reducible exact ft_non | with_reducible exact ft_bl | with_reducible exact ft_dict | ((with_reducible refine ft_str (n := 10) (x := ?x) ?h); (case h => exact And.intro rfl (by decide))) | ((with_reducible refine ft_int (i := ?i) ?h); (case h => decide))
  | ((with_reducible refine ft_var (v := ?v) (m := ?m) (n := ?n) ?h ?f); (case h => exact rfl); (case f => assumption))
  | ((with_reducible refine fa_cons (m1 := ?a) (n1 := ?b) (m2 := ?c) (n2 := ?d) ?f ?g); (case f => walk_at "ft"); (case g => walk_at "ft"))
  | ((with_reducible refine ft_tup (m := ?m) (n := ?n) ?f ?h); (case f => walk_at "ft"); (case h => walk_at "bd"))
  | ((with_reducible refine ft_lst (m := ?m) (n := ?n) ?f ?h); (case f => walk_at "ft"); (case h => walk_at "bd"))
  | ((with_reducible refine la_cons (m1 := ?a) (n1 := ?b) (B := ?c) ?f ?g ?h ?i); (case f => walk_at "ft"); (case h => walk_at "bd"); (case i => walk_at "bd"); (case g => walk_at "ft"))
  | ((with_reducible refine lt_var (v := ?v) (m := ?m) (n := ?n) (B := ?b) ?h ?f); (case h => exact rfl); (case f => assumption))
  | ((with_reducible refine lt_add (B1 := ?a) (B2 := ?b) ?f ?g ?h); (case f => walk_at "ft"); (case g => walk_at "ft"); (case h => walk_at "bd"))
  | ((with_reducible refine ft_addsv (x := ?x) (m := ?m) (n := 10) ?h ?s ?a ?z); (case h => exact rfl); (case s => assumption); (case a => exact And.intro rfl (by decide)); (case z => decide))
  | ((with_reducible refine lt_lst ?f ?h); (case f => walk_at "ft"); (case h => walk_at "bd")))
section
variable {P : Program} {w : World} {K : PySem.W.Frag} {mg : Str → Option Value} {base : Heap} {k : Nat}
abbrev s__law_with : Stmt := top 25
theorem sc__law_with : FnScope ["value", "path", "new", "items"] ["value", "path", "new"] (defScope s__law_with) := ⟨rfl, rfl, rfl, by decide +kernel, rfl, by decide +kernel, by decide +kernel⟩
theorem at_0 {α : Type} {a : α} {xs : List α} : atI (a :: xs) 0 = some a := atI_nat (j := 0) rfl
abbrev ns (is : List Nat) : List V := is.map fun (n : Nat) => V.int (n : Int)
def sp_with (K : PySem.W.Frag) (D : Nat) : Sp := fun vs H Q _ => ∃ (G : Hp) (R : List (Addr × HO)) (v nv : V) (d ne : PyData) (p : Addr) (is : List Nat), vs = [v, .ref p, nv] ∧ Own G H R ∧ Dt K G v d ∧ okD d = true ∧ SqL K G p (ns is) ∧ is.length < D ∧ okP is d ∧ Dt K G nv ne ∧ okD ne = true ∧
  ∀ (G' H' : Hp) (v' : V) (e : PyData), Same G G' → Own G' H' R → Dt K G' v' e → okD e = true → e.depth ≤ d.depth + ne.depth → e.weight ≤ d.weight + ne.weight → Q v' H'
theorem ok_withS {f : Addr} {fd : FuncData} (F : Fun K "_law_with" "_law_with" s__law_with f fd) (B : Bt mg) (D : Nat) (C__law_with : Cal P w K mg base k "_law_with" ["value", "path", "new"] (sp_with K D)) :
    FnG P w K mg base (k + 1) f fd ["value", "path", "new"] (sp_with K (D + 1)) := by
  refine fnG_of F sc__law_with (fun vs H Q E h => ?_) (fun cdv A outer s H vs Q E r h => ?_)
  · obtain ⟨_, _, v, nv, d, ne, p, is, rfl, _⟩ := h
    rfl
  · obtain ⟨G, R, v, nv, d, ne, p, is, rfl, O, hv, od, hp, hl, op, hn, on, q⟩ := h
    refine ⟨_, (pss_cons (ps_if (pt_cmpR (oEqK (K := K) rfl r) (pv 1) (d_lst pa_nil) (nomark _))
       (pss_one (ps_ret (pv 2)))
       pss_nil)
       (pss_cons (ps_set (i := 3) sc__law_with.nd rfl (Or.inl rfl) (pe_callTy (cListK (K := K) rfl) (by rfl) B.list (by decide +kernel) (pa_cons (pv 0) pa_nil)))
       (pss_cons (ps_asg (g_call C__law_with r (by rfl) passL (pa_cons (pe_ix (ixK (K := K) rfl) (pv 3) (pe_ix (ixK (K := K) rfl) (pv 1) pe_int (fun _ _ => rfl)) (fun _ _ => rfl)) (pa_cons (pe_slice (oSlK (K := K) rfl) (pv 1) (po_some pe_int) po_none) (pa_cons (pv 2) pa_nil)))) (pg_sub (pv 3) (pe_ix (ixK (K := K) rfl) (pv 1) pe_int (fun _ _ => rfl)) sSet))
       (pss_one (ps_ret (pe_ifExp (pt_truK (K := K) rfl (pe_callB (cIsiK (K := K) rfl) (by rfl) B.isinstance (by decide +kernel) (pa_cons (pv 0) (pa_cons (pe_bltn (v := .ty "tuple") (u := .type "tuple") (by rfl) B.tuple (by decide +kernel) rfl) pa_nil)))) (pe_callTy (cTupleK (K := K) rfl) (by rfl) B.tuple (by decide +kernel) (pa_cons (pv 3) pa_nil)) (pv 3))))))), ?_⟩
    try dsimp only [cxOf]
    refine x_start (σ' := [some _, some _, some _, none]) rfl ?_
    walk_at "s"
    refine ⟨by decide, x_fix O fun p1 G1 H1 s1 O1 e1 => ?_⟩
    refine x_eqN (O1.seq (s1.seq hp)) (SqL.of (O1.sub _ _ e1)) ?_
    walk_at "s"
    cases is with
    | nil =>
      refine ite_t ?_
      walk_at "s"
      exact q G1 H1 nv ne s1 O1 (hn.mono s1) on (by omega) (by omega)
    | cons i is =>
      refine ite_f ?_
      -- the items of the value
      have hx : ∃ (a : Addr) (xs : List V) (ds : List PyData) (di : PyData) (tp : Bool), v = .ref a ∧ ((SqL K G a xs ∧ tp = false ∧ d = .list ds) ∨ (SqT K G a xs ∧ tp = true ∧ d = .tuple ds)) ∧ DtL K G xs ds ∧ ds[i]? = some di ∧ okP is di := by
        cases hv with
        | lst h t =>
          obtain ⟨di, e, o⟩ := op
          exact ⟨_, _, _, di, false, rfl, .inl ⟨h, rfl, rfl⟩, t, e, o⟩
        | tup h t =>
          obtain ⟨di, e, o⟩ := op
          exact ⟨_, _, _, di, true, rfl, .inr ⟨h, rfl, rfl⟩, t, e, o⟩
        | _ => exact op.elim
      obtain ⟨a, xs, ds, di, tp, rfl, hk, hd, edi, opi⟩ := hx
      have odl : okDL ds = true := by rcases hk with ⟨_, _, rfl⟩ | ⟨_, _, rfl⟩ <;> simpa only [okD] using od
      have ddl : d.depth = PyData.depthAll ds + 1 := by rcases hk with ⟨_, _, rfl⟩ | ⟨_, _, rfl⟩ <;> simp only [PyData.depth]
      have dwl : d.weight = PyData.weightAll ds := by rcases hk with ⟨_, _, rfl⟩ | ⟨_, _, rfl⟩ <;> simp only [PyData.weight]
      obtain ⟨vi, evi, hvi⟩ := hd.get i edi
      have hi : i < xs.length := (List.getElem?_eq_some_iff.mp evi).1
      walk_at "s"
      have step : ∀ S : VK, (∀ p2 H2, Own G1 H2 ((p2, .lst xs) :: R) → S (.ref p2) H2) → aList K [.ref a] H1 S := fun S z => by
        rcases hk with ⟨h, _⟩ | ⟨h, _⟩
        · exact x_listL (O1.seq (s1.seq h)) (x_new O1 z)
        · exact x_listT (O1.set (same_t s1 h)) (x_new O1 z)
      refine step _ fun p2 H2 O2 => ?_
      walk_at "s"
      refine x_ixl (i := 0) (O2.seq (s1.seq hp)) at_0 ?_
      refine x_ixl (i := (i : Int)) (SqL.of O2.at0) (atI_nat evi) ?_
      walk_at "s"
      refine x_slL (O2.seq (s1.seq hp)) (x_fix O2 fun p3 G3 H3 s3 O3 e3 => ?_)
      rw [show cutV (ns (i :: is)) (some 1) none = ns is from cut1] at e3
      have s13 := s1.trans s3
      walk_at "s"
      refine ⟨G3, _, vi, nv, di, ne, p3, is, rfl, O3, hvi.mono s13, okDL_get i odl edi, SqL.of e3, by rw [List.length_cons] at hl; omega, opi, hn.mono s13, on, fun G4 H4 v4 e s4 O4 d4 o4 dd4 w4 => ?_⟩
      have s14 := s13.trans s4
      walk_at "s"
      refine x_ixl (i := 0) (O4.seq (s14.seq hp)) at_0 ?_
      refine x_setl O4.at0 (ixN_nat hi) (x_md0 O4 fun H5 O5 => ?_)
      have hd5 := (hd.mono s14).set i d4
      have o5 := okDL_set i odl o4
      have dd5 := dep_set (e := e) (ds := ds) i
      have w5 := wt_set (e := e) i edi
      have dg := dep_get i edi
      walk_at "s"
      rcases hk with ⟨h, rfl, rfl⟩ | ⟨h, rfl, rfl⟩
      · refine x_isiT (.lst (O5.seq (s14.seq h)) (hd.mono (s14.trans O5.sub))) ?_
        walk_at "s"
        refine ite_f ?_
        walk_at "s"
        exact q _ H5 (.ref p2) (.list (ds.set i e)) (s14.trans (Same.new O5.no0)) O5.frz0 (.lst (SqL.of upd_same) (hd5.mono (Same.new O5.no0))) (by simp only [okD]; exact o5) (by simp only [PyData.depth] at ddl ⊢; omega) (by simp only [PyData.weight]; omega)
      · refine x_isiT (.tup (O5.set (same_t s14 h)) (hd.mono (s14.trans O5.sub))) ?_
        walk_at "s"
        refine ite_t ?_
        walk_at "s"
        refine x_tupleL (SqL.of O5.at0) (x_new O5 fun p6 H6 O6 => ?_)
        have O6' := O6.swap.tail
        exact q _ H6 (.ref p6) (.tuple (ds.set i e)) (s14.trans (Same.new O6'.no0)) O6'.frz0 (.tup (SqT.of upd_same) (hd5.mono (Same.new O6'.no0))) (by simp only [okD]; exact o5) (by simp only [PyData.depth] at ddl ⊢; omega) (by simp only [PyData.weight]; omega)
theorem ok_with {f : Addr} {fd : FuncData} (F : Fun K "_law_with" "_law_with" s__law_with f fd) (B : Bt mg) (hm : mg "_law_with" = some (.ref f)) (hk : PySem.W.keepIn K (.ref f) = true) (hb : Binds K fd ["value", "path", "new"] []) :
    ∀ D, FnG P w K mg base (k + D) f fd ["value", "path", "new"] (sp_with K D)
  | 0 => ⟨fun vs H Q E h => by
      obtain ⟨_, _, _, _, _, _, _, _, _, _, _, _, _, d0, _⟩ := h
      omega, fun A outer s H args us vs Q E r e b v h => by
      obtain ⟨_, _, _, _, _, _, _, _, _, _, _, _, _, d0, _⟩ := h
      omega⟩
  | D + 1 => ok_withS F B D ⟨f, fd, ok_with F B hm hk hb D, hm, hk, hb⟩
theorem LT.go {G0 : Hp} {σ : L2.St} {m n B : Nat} {te : TE} {H : Hp} {L : List (Addr × HO)} {Q : VK} (f : LT K G0 σ m n B te) (O : Own G0 H L) (k : ∀ G' H' v, Same G0 G' → Own G' H' L → Ls K G' m n B v → Q v H') : te σ H Q := f G0 H L Q (Same.refl _) O k
abbrev s__law_within : Stmt := top 30
theorem sc__law_within : FnScope ["box", "value", "many", "test", "level", "way", "right"] ["box", "value", "many", "test"] (defScope s__law_within) := ⟨rfl, rfl, rfl, by decide +kernel, rfl, by decide +kernel, by decide +kernel⟩
def sp_within (K : PySem.W.Frag) : Sp := fun vs H Q _ => ∃ (G : Hp) (R : List (Addr × HO)) (b : Addr) (v : V) (j m n : Nat) (t : Str) (N : Nat) (bx : List V), vs = [.ref b, v, .int j, .str t] ∧ Own G H ((b, .lst bx) :: R) ∧ Fn K G m n v ∧ 1 ≤ m ∧ n ≤ 500000 ∧ St 10 t ∧ j ≤ 10 ∧ Box (N + j) bx ∧
  ∀ (G' H' : Hp) (v' : V) bx', Same G G' → Own G' H' ((b, .lst bx') :: R) → Fn K G' (m + j) (n + 40 * j) v' → Box N bx' → Q v' H'
theorem ok_within {f : Addr} {fd : FuncData} (F : Fun K "_law_within" "_law_within" s__law_within f fd) (B : Bt mg) (C__law_take : Cal P w K mg base k "_law_take" ["box", "many"] sp_take) :
    FnG P w K mg base (k + 1) f fd ["box", "value", "many", "test"] (sp_within K) := by
  refine fnG_of F sc__law_within (fun vs H Q E h => ?_) (fun cdv A outer s H vs Q E r h => ?_)
  · obtain ⟨_, _, b, v, j, m, n, t, N, bx, rfl, _⟩ := h
    rfl
  · obtain ⟨G, R, b, v, j, m, n, t, N, bx, rfl, O, fv, m1, n5, st, hj, bo, q⟩ := h
    refine ⟨_, (pss_cons (ps_for (passes_of rfl) rfl (pi_range1 (by rfl) B.range (pa_cons (pv 2) pa_nil)) (pg_name (i := 4) sc__law_within.nd rfl (Or.inl rfl))
       (pss_cons (ps_par (i := 5) (j := 6) rfl sc__law_within.nd rfl rfl (by decide) rfl rfl (pa_cons (g_call C__law_take r (by rfl) passL (pa_cons (pv 0) (pa_cons pe_int pa_nil))) (pa_cons (d_tup (pa_cons pe_str (pa_cons (pv 3) pa_nil))) pa_nil)) (by rfl))
       (pss_one (ps_set (i := 1) sc__law_within.nd rfl (Or.inl rfl) (pe_ix (ixK (K := K) rfl) (d_lst (pa_cons (d_tup (pa_cons pe_str (pa_cons (pv 1) pa_nil))) (pa_cons (d_tup (pa_cons pe_str (pa_cons (pv 6) (pa_cons (pv 1) pa_nil)))) (pa_cons (d_tup (pa_cons pe_str (pa_cons (pv 1) (pa_cons (pv 6) pa_nil)))) pa_nil)))) (pv 5) (fun _ _ => rfl))))))
       (pss_one (ps_ret (pv 1)))), ?_⟩
    try dsimp only [cxOf]
    refine x_start (σ' := [some _, some _, some _, some _, none, none, none]) rfl ?_
    walk_at "s"
    refine x_rg (by omega) (by omega) ?_
    refine for_own walk_range O (fun i σ G' L' => ∃ (v : V) (x4 x5 x6 : Option V) (bx' : List V), σ = [some (.ref b), some v, some (.int j), some (.str t), x4, x5, x6] ∧ L' = (b, .lst bx') :: R ∧ Fn K G' (m + i) (n + 40 * i) v ∧ Box (N + (j - i)) bx') ⟨v, none, none, none, bx, rfl, rfl, fv, bo⟩ (fun _ _ _ _ _ _ _ _ => True.intro) ?_ ?_
    · rintro i x σ G' H' H2 L' hi s' O' ⟨v, x4, x5, x6, bx', rfl, rfl, f', bo'⟩ ⟨rfl, rfl⟩
      walk_at "s"
      refine ⟨G', R, b, 3, N + (j - (i + 1)), bx', rfl, O', bo'.le (by omega), by decide, by decide, fun H3 way b3 w0 w1 O3 B3 => ?_⟩
      walk_at "s"
      refine ⟨by show 2 ≤ sizeLine; decide, x_fix O3 fun p4 G4 H4 s4 O4 e4 => ?_⟩
      have fr : Fn K G4 1 16 (.ref p4) := ((FnL.cons (Fn.str (n := 4) ⟨rfl, by decide⟩) (FnL.cons (Fn.str st) FnL.nil)).tup (SqT.of e4)).mono (by decide) (by decide)
      have f4 := f'.same s4
      refine x_anil (x_par2 (x_asgG ?_))
      refine x_op (LT.go (K := K) (m := m + (i + 1)) (n := n + 40 * (i + 1)) (B := 3) (G0 := G4) ?lt O4 fun G5 H5 v5 s5 O5 l5 => ?_)
      case lt =>
        walk_at "ft"
      obtain ⟨p5, xs, rfl, e5, l5, a5⟩ := l5
      walk_at "s"
      obtain ⟨nw', rfl⟩ := Int.eq_ofNat_of_zero_le w0
      have hw : nw' < xs.length := by omega
      refine x_ixl (SqL.of (O5.sub _ _ e5)) (atI_nat (List.getElem?_eq_getElem hw)) ?_
      walk_at "s"
      exact fvh ((s'.trans s4).trans s5) O5 ⟨_, _, _, _, b3, rfl, rfl, a5 _ (List.getElem_mem hw), B3⟩
    · rintro σ G' H' L' s' O' ⟨v, x4, x5, x6, bx', rfl, rfl, f', bo'⟩
      walk_at "s"
      rw [Int.toNat_natCast] at f' bo'
      exact q G' H' v bx' s' O' f' (bo'.le (by omega))
end
end M74
set_option maxHeartbeats 4000000
/-! The plain law of k74: how deep a formula is, by the law; whether it is one, by the program. -/
namespace M74
open PySem PySem.Spec PyProof.Rows L2 G
def isM (xs : List Str) : PyData → Bool
  | .str x => x == "is" || xs.contains x
  | _ => false
def isA (ts : List Str) : PyData → Bool
  | .str x => ts.contains x
  | _ => false
def stO : PyData → Str
  | .str x => x
  | _ => ""
/-- the k-th lies below the next one -/
def ltS (ys : List Str) (k : Nat) : Bool := decide ((ys.getD k "").cps.toList < (ys.getD (k + 1) "").cps.toList)
def ascS (ys : List Str) : Bool := (List.range (ys.length - 1)).all (ltS ys)
def mdB (xs : List Str) : PyData → Bool
  | .tuple ds => !ds.isEmpty && ds.all (isM xs) && ascS (ds.map stO)
  | _ => false
abbrev wAsked : List Str := ["seen", "odd", "just"]
abbrev wEnds : List Str := ["first", "last"]
def ptN (w : Str) : Nat := if w == "both" || w == "either" then 2 else if w == "not" then 1 else 0
mutual
def dp (xs ts : List Str) : PyData → Nat
  | .tuple (.str w :: ds) =>
    if ds.length = 0 then 0
    else if wAsked.contains w then (if ds.length = 1 ∧ isA ts (ds.getD 0 .none) = true then 1 else 0)
    else if w == "stands" then (if ds.length = 3 ∧ mdB xs (ds.getD 0 .none) = true ∧ isA wEnds (ds.getD 1 .none) = true ∧ isA ts (ds.getD 2 .none) = true then 1 else 0)
    else if ptN w ≠ 0 ∧ ds.length = ptN w then (if (dpL xs ts ds).all (fun n => decide (0 < n)) = true then 1 + (dpL xs ts ds).foldr max 0 else 0)
    else 0
  | _ => 0
def dpL (xs ts : List Str) : List PyData → List Nat
  | [] => []
  | d :: ds => dp xs ts d :: dpL xs ts ds
end
def wf (xs ts : List Str) : Nat → PyData → Bool
  | n + 1, .tuple (.str w :: ds) =>
    if ptN w ≠ 0 then decide (ds.length = ptN w) && ds.all (wf xs ts n)
    else if wAsked.contains w then decide (ds.length = 1) && isA ts (ds.getD 0 .none)
    else decide (w = "stands" ∧ ds.length = 3) && (mdB xs (ds.getD 0 .none) && isA wEnds (ds.getD 1 .none) && isA ts (ds.getD 2 .none))
  | _, _ => false
theorem ptN_asked {w : Str} (h : ptN w ≠ 0) : wAsked.contains w = false ∧ (w == "stands") = false := by
  have hw : w = "both" ∨ w = "either" ∨ w = "not" := by
    unfold ptN at h
    by_cases h1 : (w == "both" || w == "either") = true
    · simp only [Bool.or_eq_true, beq_iff_eq] at h1
      rcases h1 with h1 | h1
      · exact .inl h1
      · exact .inr (.inl h1)
    · rw [if_neg h1] at h
      by_cases h2 : (w == "not") = true
      · exact .inr (.inr (beq_iff_eq.mp h2))
      · rw [if_neg h2] at h
        exact absurd rfl h
  rcases hw with rfl | rfl | rfl <;> exact ⟨by decide +kernel, by decide +kernel⟩
theorem asked_stands {w : Str} (h : wAsked.contains w = true) : (w == "stands") = false := by
  have : w = "seen" ∨ w = "odd" ∨ w = "just" := by simpa [wAsked] using h
  rcases this with rfl | rfl | rfl <;> decide +kernel
theorem dpL_all {xs ts : List Str} {n : Nat} : ∀ {ds : List PyData}, (∀ d ∈ ds, wf xs ts n d = true ↔ (1 ≤ dp xs ts d ∧ dp xs ts d ≤ n)) →
    (ds.all (wf xs ts n) = true ↔ ((dpL xs ts ds).all (fun n => decide (0 < n)) = true ∧ (dpL xs ts ds).foldr max 0 ≤ n))
  | [], _ => by simp [dpL]
  | d :: ds, h => by
    have ih := dpL_all (ds := ds) fun e he => h e (List.mem_cons_of_mem _ he)
    have h0 := h d List.mem_cons_self
    simp only [List.all_cons, Bool.and_eq_true, dpL, List.foldr_cons, decide_eq_true_eq]
    rw [ih, h0]
    constructor
    · rintro ⟨⟨a1, a2⟩, a3, a4⟩
      exact ⟨⟨by omega, a3⟩, by omega⟩
    · rintro ⟨⟨a1, a2⟩, a3⟩
      exact ⟨⟨by omega, by omega⟩, a2, by omega⟩
theorem one_le (c : Prop) [Decidable c] (n : Nat) : (1 ≤ (if c then 1 else 0) ∧ (if c then 1 else 0) ≤ n + 1) ↔ c := by
  by_cases h : c
  · rw [if_pos h]
    exact ⟨fun _ => h, fun _ => ⟨by omega, by omega⟩⟩
  · rw [if_neg h]
    exact ⟨fun z => absurd z.1 (by omega), fun z => absurd z h⟩
theorem no_one {n : Nat} : ¬ (1 ≤ 0 ∧ 0 ≤ n) := fun z => absurd z.1 (by omega)
theorem wf_dp (xs ts : List Str) : ∀ (n : Nat) (d : PyData), wf xs ts n d = true ↔ (1 ≤ dp xs ts d ∧ dp xs ts d ≤ n) := by
  intro n
  induction n with
  | zero =>
    intro d
    have e : wf xs ts 0 d = false := by cases d <;> rfl
    rw [e]
    exact ⟨fun z => (nomatch z), fun z => by omega⟩
  | succ n ih =>
    have bad : ∀ d, wf xs ts (n + 1) d = false → dp xs ts d = 0 → (wf xs ts (n + 1) d = true ↔ (1 ≤ dp xs ts d ∧ dp xs ts d ≤ n + 1)) := fun d e1 e2 => by
      rw [e1, e2]
      exact ⟨fun z => (nomatch z), fun z => absurd z no_one⟩
    intro d
    match d with
    | .tuple (.str w :: ds) =>
      simp only [wf, dp]
      by_cases hp : ptN w ≠ 0
      · obtain ⟨h1, h2⟩ := ptN_asked hp
        rw [if_pos hp]
        simp only [h1, h2, Bool.false_eq_true, if_false]
        by_cases hl : ds.length = ptN w
        · have hne : ds.length ≠ 0 := by omega
          rw [if_neg hne, if_pos ⟨hp, hl⟩]
          have z := dpL_all (ds := ds) fun d _ => ih d
          rw [decide_eq_true hl, Bool.true_and, z]
          by_cases hall : (dpL xs ts ds).all (fun n => decide (0 < n)) = true
          · rw [if_pos hall]
            exact ⟨fun z => ⟨by omega, by omega⟩, fun z => ⟨hall, by omega⟩⟩
          · rw [if_neg hall]
            exact ⟨fun z => absurd z.1 hall, fun z => absurd z no_one⟩
        · rw [decide_eq_false hl, Bool.false_and]
          refine ⟨fun z => (nomatch z), fun z => ?_⟩
          by_cases h0 : ds.length = 0
          · rw [if_pos h0] at z
            exact absurd z no_one
          · rw [if_neg h0, if_neg (fun h : ptN w ≠ 0 ∧ ds.length = ptN w => hl h.2)] at z
            exact absurd z no_one
      · rw [if_neg hp]
        by_cases ha : wAsked.contains w = true
        · rw [if_pos ha]
          by_cases h0 : ds.length = 0
          · rw [if_pos h0, decide_eq_false (by omega), Bool.false_and]
            exact ⟨fun z => (nomatch z), fun z => absurd z no_one⟩
          · rw [if_neg h0, if_pos ha, Bool.and_eq_true, decide_eq_true_eq]
            exact (one_le _ n).symm
        · rw [if_neg ha]
          by_cases h0 : ds.length = 0
          · rw [if_pos h0, decide_eq_false (by omega), Bool.false_and]
            exact ⟨fun z => (nomatch z), fun z => absurd z no_one⟩
          · rw [if_neg h0, if_neg ha]
            by_cases hs : w = "stands"
            · rw [if_pos (by rw [hs]; rfl), Bool.and_eq_true, Bool.and_eq_true, Bool.and_eq_true, decide_eq_true_eq]
              refine Iff.trans ?_ (one_le _ n).symm
              exact ⟨fun z => ⟨z.1.2, z.2.1.1, z.2.1.2, z.2.2⟩, fun z => ⟨⟨hs, z.1⟩, ⟨z.2.1, z.2.2.1⟩, z.2.2.2⟩⟩
            · rw [decide_eq_false (fun h => hs h.1), Bool.false_and, if_neg (fun h => hs (beq_iff_eq.mp h)), if_neg (fun h => hp h.1)]
              exact ⟨fun z => (nomatch z), fun z => absurd z no_one⟩
    | .tuple [] => exact bad _ rfl (by simp only [dp])
    | .tuple (.none :: _) => exact bad _ rfl (by simp only [dp])
    | .tuple (.bool _ :: _) => exact bad _ rfl (by simp only [dp])
    | .tuple (.int _ :: _) => exact bad _ rfl (by simp only [dp])
    | .tuple (.list _ :: _) => exact bad _ rfl (by simp only [dp])
    | .tuple (.tuple _ :: _) => exact bad _ rfl (by simp only [dp])
    | .tuple (.dict _ :: _) => exact bad _ rfl (by simp only [dp])
    | .none => exact bad _ rfl (by simp only [dp])
    | .bool _ => exact bad _ rfl (by simp only [dp])
    | .int _ => exact bad _ rfl (by simp only [dp])
    | .str _ => exact bad _ rfl (by simp only [dp])
    | .list _ => exact bad _ rfl (by simp only [dp])
    | .dict _ => exact bad _ rfl (by simp only [dp])
theorem wf_eq (xs ts : List Str) (n : Nat) (d : PyData) : wf xs ts n d = decide (1 ≤ dp xs ts d ∧ dp xs ts d ≤ n) := by
  rw [Bool.eq_iff_iff, wf_dp, decide_eq_true_eq]
end M74
set_option maxHeartbeats 4000000
namespace M74
open PySem PySem.Spec PyProof.Rows L2 G
local macro_rules | `(tactic| walk_at "hp") => `(tactic| first | assumption | exact Own.at0 (by assumption) | exact Own.at1 (by assumption) | exact Own.at2 (by assumption) | exact Own.at3 (by assumption) | exact Own.sub (by assumption) _ _ (by assumption) | exact upd_same)
local macro_rules | `(tactic| walk_at "hl") => `(tactic| first | assumption | exact SqL.of (by walk_at "hp") | exact Own.seq (by assumption) (by assumption) | exact Own.seq (by assumption) (SqL.of (by assumption)))
local macro_rules | `(tactic| walk_at "ht") => `(tactic| first | assumption | exact SqT.of (by walk_at "hp") | exact Own.set (by assumption) (by assumption) | exact Own.set (by assumption) (SqT.of (by assumption)))
local macro_rules | `(tactic| walk_at "n") => `(tactic| (intros; (try dsimp only [List.set, wipe, List.map, List.set_cons_succ, List.set_cons_zero]); (try exact rfl)))
local macro_rules | `(tactic| walk_at "n1") => `(tactic| with_reducible first | (refine x_asgN (σ' := ?s) ?hs ?q; (case hs => walk_at "n")) | (refine x_gN (σ' := ?s) ?hs ?q; (case hs => walk_at "n")) | (refine And.intro (show wipe _ _ = _ from (by walk_at "n")) ?_) | (refine x_parN (σ' := ?s) ?hs ?q; (case hs => walk_at "n")) | (refine x_par3N (σ' := ?s) ?hs ?q; (case hs => walk_at "n")))
local macro_rules | `(tactic| walk_at "v1") => `(tactic| ((with_reducible refine x_var (v := ?v) ?h ?q); (case h => first | exact rfl | assumption)))
local macro_rules | `(tactic| walk_at "s1") => `(tactic| with_reducible first | refine x_op ?_ | refine x_acons ?_ | refine x_c ?_ | refine x_call ?_ | refine x_anil ?_ | refine x_cb ?_ | refine x_seq ?_ | refine x_asgG ?_ | refine x_gC ?_ | refine x_gNl ?_ | refine x_ret ?_ | refine x_ifs ?_ | refine x_test ?_ | refine x_testb ?_ | refine x_and ?_ | refine x_or ?_ | refine x_andV ?_ | refine x_isB ?_ | refine x_add ?_ | refine x_lt ?_ | refine x_inti ?_ | refine x_isI ?_ | refine x_lst ?_ | refine x_tup ?_ | refine x_slice ?_ | refine x_nop ?_ | refine x_part ?_ | refine x_bm ?_ | refine x_sub ?_ | refine x_rI0 ?_ | refine x_drop ?_ | refine x_next ?_ | refine x_brk ?_ | refine x_cnt ?_ | refine x_par2 ?_ | refine x_par33 ?_ | refine x_un ?_ | refine x_rU ?_ | refine x_le ?_ | refine x_gt ?_ | refine x_ge ?_ | refine x_lts ?_ | refine x_intb ?_ | refine x_abs ?_ | refine x_tru ?_ | refine x_trub ?_ | refine x_trui ?_ | refine x_not ?_ | refine x_orV ?_ | refine x_notV ?_ | refine x_if ?_ | refine x_isN ?_ | refine x_isnN ?_ | refine x_dict ?_ | refine x_bm0 ?_ | refine x_revL ?_ | refine x_lcR ?_ | refine x_lcS ?_ | refine x_forR ?_ | refine x_forS ?_ | refine x_yes ?_ | refine ite_t ?_ | refine ite_f ?_)
local macro_rules | `(tactic| walk_at "s") => `(tactic| repeat (first | walk_at "v1" | walk_at "s1" | walk_at "n1"))
local macro_rules | `(tactic| walk_at "bd") => `(tactic| first | decide | omega | exact Nat.le_refl _)
local macro_rules | `(tactic| walk_at "ft") => `(tactic| first
  | with_reducible exact la_nil | with_reducible exact fa_nil | with_reducible exact ft_non | with_reducible exact ft_bl | with_reducible exact ft_dict | ((with_reducible refine ft_str (n := 10) (x := ?x) ?h); (case h => exact And.intro rfl (by decide))) | ((with_reducible refine ft_int (i := ?i) ?h); (case h => decide))
  | ((with_reducible refine ft_var (v := ?v) (m := ?m) (n := ?n) ?h ?f); (case h => exact rfl); (case f => assumption))
  | ((with_reducible refine fa_cons (m1 := ?a) (n1 := ?b) (m2 := ?c) (n2 := ?d) ?f ?g); (case f => walk_at "ft"); (case g => walk_at "ft"))
  | ((with_reducible refine ft_tup (m := ?m) (n := ?n) ?f ?h); (case f => walk_at "ft"); (case h => walk_at "bd"))
  | ((with_reducible refine ft_lst (m := ?m) (n := ?n) ?f ?h); (case f => walk_at "ft"); (case h => walk_at "bd"))
  | ((with_reducible refine la_cons (m1 := ?a) (n1 := ?b) (B := ?c) ?f ?g ?h ?i); (case f => walk_at "ft"); (case h => walk_at "bd"); (case i => walk_at "bd"); (case g => walk_at "ft"))
  | ((with_reducible refine lt_var (v := ?v) (m := ?m) (n := ?n) (B := ?b) ?h ?f); (case h => exact rfl); (case f => assumption))
  | ((with_reducible refine lt_add (B1 := ?a) (B2 := ?b) ?f ?g ?h); (case f => walk_at "ft"); (case g => walk_at "ft"); (case h => walk_at "bd"))
  | ((with_reducible refine ft_addsv (x := ?x) (m := ?m) (n := 10) ?h ?s ?a ?z); (case h => exact rfl); (case s => assumption); (case a => exact And.intro rfl (by decide)); (case z => decide))
  | ((with_reducible refine lt_lst ?f ?h); (case f => walk_at "ft"); (case h => walk_at "bd")))
section
variable {P : Program} {w : World} {K : PySem.W.Frag} {mg : Str → Option Value} {base : Heap} {k : Nat}
/-- the module's constants -/
structure Ct (K : PySem.W.Frag) (w : World) (mg : Str → Option Value) (pd : Addr) (es : Array DictEntry) (n : Nat) (ea aa : Addr) : Prop where
  SAME : ∃ u, mg "SAME" = some u ∧ RelV (.str "is") u
  MOST_DEEP : ∃ u, mg "MOST_DEEP" = some u ∧ RelV (.int 5) u
  ENDS : ∃ u, mg "ENDS" = some u ∧ RelV (.ref ea) u
  ASKED : ∃ u, mg "ASKED" = some u ∧ RelV (.ref aa) u
  PARTS : ∃ u, mg "PARTS" = some u ∧ RelV (.ref pd) u
  kd : KDict K w pd es n
  ends : ∀ H, SqT K H ea (wEnds.map V.str)
  asked : ∀ H, SqT K H aa (wAsked.map V.str)
  part : ∀ z : Str, ∃ r : Option Value, PySem.W.nsIn K pd z = some r ∧ (ptN z = 0 → r = none) ∧ (ptN z ≠ 0 → ∃ t, r = some (.int (ptN z) t))
abbrev s_is_row : Stmt := top 1
theorem sc_is_row : FnScope ["value", "many"] ["value", "many"] (defScope s_is_row) := ⟨rfl, rfl, rfl, by decide +kernel, rfl, by decide +kernel, by decide +kernel⟩
def rowB (m : Nat) : PyData → Bool
  | .tuple ds => decide (ds.length = m)
  | _ => false
def sp_row (K : PySem.W.Frag) : Sp := fun vs H Q _ => ∃ (G : Hp) (R : List (Addr × HO)) (v : V) (d : PyData) (m : Nat), vs = [v, .int m] ∧ Own G H R ∧ Dt K G v d ∧ ∀ (G' H' : Hp), Same G G' → Own G' H' R → Q (.bl (rowB m d)) H'
theorem ok_row {f : Addr} {fd : FuncData} (F : Fun K "is_row" "is_row" s_is_row f fd) (B : Bt mg) : FnG P w K mg base (k + 1) f fd ["value", "many"] (sp_row K) := by
  refine fnG_of F sc_is_row (fun vs H Q E h => ?_) (fun cdv A outer s H vs Q E r h => ?_)
  · obtain ⟨_, _, v, d, m, rfl, _⟩ := h
    rfl
  · obtain ⟨G, R, v, d, m, rfl, O, hv, q⟩ := h
    refine ⟨_, (pss_one (ps_ret (pe_and (pe_callB (cIsiK (K := K) rfl) (by rfl) B.isinstance (by decide +kernel) (pa_cons (pv 0) (pa_cons (pe_bltn (v := .ty "tuple") (u := .type "tuple") (by rfl) B.tuple (by decide +kernel) rfl) pa_nil))) (pe_one (pe_cmpR (oEqK (K := K) rfl r) (pe_callB (cLenK (K := K) rfl) (by rfl) B.len (by decide +kernel) (pa_cons (pv 0) pa_nil)) (pv 1) (nomark _)))))), ?_⟩
    try dsimp only [cxOf]
    refine x_start (σ' := [some _, some _]) rfl ?_
    walk_at "s"
    refine x_isiT (O.dt hv) ?_
    walk_at "s"
    cases hv with
    | tup h t =>
      refine ite_t ?_
      walk_at "s"
      refine x_lent (O.set h) ?_
      walk_at "s"
      refine x_eq rfl ?_
      rw [t.length]
      have e : ∀ a : Nat, decide (V.int (a : Int) = V.int (m : Int)) = decide (a = m) := fun a => decide_eq_decide.mpr ⟨fun z => by cases z; rfl, fun z => by rw [z]⟩
      rw [e]
      exact q G H (Same.refl _) O
    | _ => exact ite_f (q G H (Same.refl _) O)
abbrev s_ascends : Stmt := top 2
theorem sc_ascends : FnScope ["items", "at"] ["items"] (defScope s_ascends) := ⟨rfl, rfl, rfl, by decide +kernel, rfl, by decide +kernel, by decide +kernel⟩
def sp_asc (K : PySem.W.Frag) : Sp := fun vs H Q _ => ∃ (G : Hp) (R : List (Addr × HO)) (a : Addr) (ys : List Str), vs = [.ref a] ∧ Own G H R ∧ SqT K G a (ys.map V.str) ∧ ys.length ≤ 100000 ∧ ∀ (G' H' : Hp), Same G G' → Own G' H' R → Q (.bl (ascS ys)) H'
theorem all_id {l : List Bool} : l.all id = l.all (fun b => b) := rfl
theorem ok_asc {f : Addr} {fd : FuncData} (F : Fun K "ascends" "ascends" s_ascends f fd) (B : Bt mg) : FnG P w K mg base (k + 1) f fd ["items"] (sp_asc K) := by
  refine fnG_of F sc_ascends (fun vs H Q E h => ?_) (fun cdv A outer s H vs Q E r h => ?_)
  · obtain ⟨_, _, a, ys, rfl, _⟩ := h
    rfl
  · obtain ⟨G, R, a, ys, rfl, O, ha, hl, q⟩ := h
    refine ⟨_, (pss_one (ps_ret (pe_callB (cAllK (K := K) rfl rfl) (by rfl) B.all (by decide +kernel) (pa_cons (pe_lc (own := [("at", 1)]) rfl sc_ascends.nd (pi_range1 (by rfl) B.range (pa_cons (pe_op op_sub (pe_callB (cLenK (K := K) rfl) (by rfl) B.len (by decide +kernel) (pa_cons (pv 0) pa_nil)) pe_int) pa_nil)) (blkOk_by (N := ["items", "at"]) (sc := defScope s_ascends) (by decide +kernel)) (fun _ _ _ _ _ => (pg_name (i := 1) sc_ascends.nd rfl (Or.inl rfl))) (fun _ _ _ _ _ => pts_nil) (fun _ _ _ _ _ => (pe_cmpR oLt (pe_ix (ixK (K := K) rfl) (pv 0) (pv 1) (fun _ _ => rfl)) (pe_ix (ixK (K := K) rfl) (pv 0) (pe_op (oAddK (K := K) rfl) (pv 1) pe_int) (fun _ _ => rfl)) (nomark _)))) pa_nil)))), ?_⟩
    try dsimp only [cxOf]
    refine x_start (σ' := [some _, none]) rfl ?_
    walk_at "s"
    refine x_lent (O.set ha) ?_
    walk_at "s"
    rw [List.length_map]
    refine x_rg (by omega) (by omega) ?_
    have en : ((ys.length : Int) - 1).toNat = ys.length - 1 := by omega
    rw [en]
    refine lc_map (by walk_at "n") walk_range O (by omega) (fun _ i y => y = V.bl (ltS ys i)) (fun _ _ _ _ _ z => z) (fun _ _ _ _ _ _ => True.intro) ?_ gm_name ?_
    · rintro i x G' H' H2 D acc hi s' O' ⟨rfl, rfl⟩ kk
      walk_at "s"
      have h0 : i < ys.length := by omega
      have h1 : i + 1 < ys.length := by omega
      refine x_ixt (v := .str ys[i]) (O'.set (same_t s' ha)) (by rw [Int.zero_add]; exact atI_nat (by rw [List.getElem?_map, List.getElem?_eq_getElem h0]; rfl)) ?_
      walk_at "s"
      refine x_ixt (v := .str ys[i + 1]) (O'.set (same_t s' ha)) (by rw [Int.zero_add]; exact atI_nat (j := i + 1) (by rw [List.getElem?_map, List.getElem?_eq_getElem h1]; rfl)) ?_
      walk_at "s"
      refine kk _ _ _ (Same.refl _) O' ?_
      unfold ltS
      rw [List.getD_eq_getElem?_getD, List.getD_eq_getElem?_getD, List.getElem?_eq_getElem h0, List.getElem?_eq_getElem h1]
      rfl
    intro G9 H9 p9 bs s9 O9 e9 l9 r9
    have eb := eq_of_rg l9 r9
    walk_at "s"
    refine ⟨p9, (List.range (ys.length - 1)).map (ltS ys), rfl, SqL.of (by rw [O9.sub _ _ e9, eb, List.map_map]; rfl), ?_⟩
    rw [List.all_map]
    exact q G9 H9 s9 O9
abbrev s_is_among : Stmt := top 10
theorem sc_is_among : FnScope ["names", "value"] ["names", "value"] (defScope s_is_among) := ⟨rfl, rfl, rfl, by decide +kernel, rfl, by decide +kernel, by decide +kernel⟩
def sp_among (K : PySem.W.Frag) : Sp := fun vs H Q _ => ∃ (G : Hp) (R : List (Addr × HO)) (a : Addr) (v : V) (d : PyData) (ts : List Str), vs = [.ref a, v] ∧ Own G H R ∧ (SqL K G a (ts.map V.str) ∨ SqT K G a (ts.map V.str)) ∧ Dt K G v d ∧ ∀ (G' H' : Hp), Same G G' → Own G' H' R → Q (.bl (isA ts d)) H'
theorem inV_str {x : Str} {ts : List Str} : inV (.str x) (ts.map V.str) = ts.contains x := by
  unfold inV
  rw [List.any_map]
  induction ts with
  | nil => rfl
  | cons t ts ih =>
    rw [List.any_cons, List.contains_cons, ih]
    congr 1
    show eqV (.str t) (.str x) = _
    simp only [eqV]
    rw [Bool.eq_iff_iff]
    simp only [beq_iff_eq, decide_eq_true_eq]
    exact eq_comm
theorem flat_strs {ts : List Str} : (ts.map V.str).all flatV = true := by
  rw [List.all_map]
  exact List.all_eq_true.mpr fun _ _ => rfl
theorem x_inS {H : Hp} {Q : VK} {a : Addr} {x : Str} {ts : List Str} (h : SqL K H a (ts.map V.str) ∨ SqT K H a (ts.map V.str)) (q : Q (.bl (ts.contains x)) H) : rIn K false (.str x) (.ref a) H Q := by
  rcases h with h | h
  · exact x_inl h rfl flat_strs (by rw [inV_str]; exact q)
  · exact x_int h rfl flat_strs (by rw [inV_str]; exact q)
theorem x_ninS {H : Hp} {Q : VK} {a : Addr} {x : Str} {ts : List Str} (h : SqL K H a (ts.map V.str) ∨ SqT K H a (ts.map V.str)) (q : Q (.bl (!ts.contains x)) H) : rIn K true (.str x) (.ref a) H Q := by
  rcases h with h | h
  · exact x_inl h rfl flat_strs (by rw [inV_str]; exact q)
  · exact x_int h rfl flat_strs (by rw [inV_str]; exact q)
theorem Own.sq {G H : Hp} {L : List (Addr × HO)} {a : Addr} {xs : List V} (O : Own G H L) (h : SqL K G a xs ∨ SqT K G a xs) : SqL K H a xs ∨ SqT K H a xs := h.imp O.seq O.set
theorem sq_same {G H : Hp} {a : Addr} {xs : List V} (s : Same G H) (h : SqL K G a xs ∨ SqT K G a xs) : SqL K H a xs ∨ SqT K H a xs := h.imp s.seq (same_t s)
theorem ok_among {f : Addr} {fd : FuncData} (F : Fun K "is_among" "is_among" s_is_among f fd) (B : Bt mg) : FnG P w K mg base (k + 1) f fd ["names", "value"] (sp_among K) := by
  refine fnG_of F sc_is_among (fun vs H Q E h => ?_) (fun cdv A outer s H vs Q E r h => ?_)
  · obtain ⟨_, _, a, v, d, ts, rfl, _⟩ := h
    rfl
  · obtain ⟨G, R, a, v, d, ts, rfl, O, ha, hv, q⟩ := h
    refine ⟨_, (pss_one (ps_ret (pe_and (pe_callB (cIsiK (K := K) rfl) (by rfl) B.isinstance (by decide +kernel) (pa_cons (pv 1) (pa_cons (pe_bltn (v := .ty "str") (u := .type "str") (by rfl) B.str (by decide +kernel) rfl) pa_nil))) (pe_one (pe_cmpR (oInK (K := K) rfl) (pv 1) (pv 0) (by rfl)))))), ?_⟩
    try dsimp only [cxOf]
    refine x_start (σ' := [some _, some _]) rfl ?_
    walk_at "s"
    refine x_isiS (O.dt hv) ?_
    walk_at "s"
    cases hv with
    | str x =>
      refine ite_t ?_
      walk_at "s"
      exact x_inS (Own.sq O ha) (q G H (Same.refl _) O)
    | _ => exact ite_f (q G H (Same.refl _) O)
end
end M74
set_option maxHeartbeats 4000000
namespace M74
open PySem PySem.Spec PyProof.Rows L2 G
local macro_rules | `(tactic| walk_at "hp") => `(tactic| first | assumption | exact Own.at0 (by assumption) | exact Own.at1 (by assumption) | exact Own.at2 (by assumption) | exact Own.at3 (by assumption) | exact Own.sub (by assumption) _ _ (by assumption) | exact upd_same)
local macro_rules | `(tactic| walk_at "hl") => `(tactic| first | assumption | exact SqL.of (by walk_at "hp") | exact Own.seq (by assumption) (by assumption) | exact Own.seq (by assumption) (SqL.of (by assumption)))
local macro_rules | `(tactic| walk_at "ht") => `(tactic| first | assumption | exact SqT.of (by walk_at "hp") | exact Own.set (by assumption) (by assumption) | exact Own.set (by assumption) (SqT.of (by assumption)))
local macro_rules | `(tactic| walk_at "n") => `(tactic| (intros; (try dsimp only [List.set, wipe, List.map, List.set_cons_succ, List.set_cons_zero]); (try exact rfl)))
local macro_rules | `(tactic| walk_at "n1") => `(tactic| with_reducible first | (refine x_asgN (σ' := ?s) ?hs ?q; (case hs => walk_at "n")) | (refine x_gN (σ' := ?s) ?hs ?q; (case hs => walk_at "n")) | (refine And.intro (show wipe _ _ = _ from (by walk_at "n")) ?_) | (refine x_parN (σ' := ?s) ?hs ?q; (case hs => walk_at "n")) | (refine x_par3N (σ' := ?s) ?hs ?q; (case hs => walk_at "n")))
local macro_rules | `(tactic| walk_at "v1") => `(tactic| ((with_reducible refine x_var (v := ?v) ?h ?q); (case h => first | exact rfl | assumption)))
local macro_rules | `(tactic| walk_at "s1") => `(tactic| with_reducible first | refine x_op ?_ | refine x_acons ?_ | refine x_c ?_ | refine x_call ?_ | refine x_anil ?_ | refine x_cb ?_ | refine x_seq ?_ | refine x_asgG ?_ | refine x_gC ?_ | refine x_gNl ?_ | refine x_ret ?_ | refine x_ifs ?_ | refine x_test ?_ | refine x_testb ?_ | refine x_and ?_ | refine x_or ?_ | refine x_andV ?_ | refine x_isB ?_ | refine x_add ?_ | refine x_lt ?_ | refine x_inti ?_ | refine x_isI ?_ | refine x_lst ?_ | refine x_tup ?_ | refine x_slice ?_ | refine x_nop ?_ | refine x_part ?_ | refine x_bm ?_ | refine x_sub ?_ | refine x_rI0 ?_ | refine x_drop ?_ | refine x_next ?_ | refine x_brk ?_ | refine x_cnt ?_ | refine x_par2 ?_ | refine x_par33 ?_ | refine x_un ?_ | refine x_rU ?_ | refine x_le ?_ | refine x_gt ?_ | refine x_ge ?_ | refine x_lts ?_ | refine x_intb ?_ | refine x_abs ?_ | refine x_tru ?_ | refine x_trub ?_ | refine x_trui ?_ | refine x_not ?_ | refine x_orV ?_ | refine x_notV ?_ | refine x_if ?_ | refine x_isN ?_ | refine x_isnN ?_ | refine x_dict ?_ | refine x_bm0 ?_ | refine x_revL ?_ | refine x_lcR ?_ | refine x_lcS ?_ | refine x_forR ?_ | refine x_forS ?_ | refine x_yes ?_ | refine ite_t ?_ | refine ite_f ?_)
local macro_rules | `(tactic| walk_at "s") => `(tactic| repeat (first | walk_at "v1" | walk_at "s1" | walk_at "n1"))
local macro_rules | `(tactic| walk_at "bd") => `(tactic| first | decide | omega | exact Nat.le_refl _)
local macro_rules | `(tactic| walk_at "ft") => `(tactic| first
  | with_reducible exact la_nil | with_reducible exact fa_nil | with_reducible exact ft_non | with_reducible exact ft_bl | with_reducible exact ft_dict | ((with_reducible refine ft_str (n := 10) (x := ?x) ?h); (case h => exact And.intro rfl (by decide))) | ((with_reducible refine ft_int (i := ?i) ?h); (case h => decide))
  | ((with_reducible refine ft_var (v := ?v) (m := ?m) (n := ?n) ?h ?f); (case h => exact rfl); (case f => assumption))
  | ((with_reducible refine fa_cons (m1 := ?a) (n1 := ?b) (m2 := ?c) (n2 := ?d) ?f ?g); (case f => walk_at "ft"); (case g => walk_at "ft"))
  | ((with_reducible refine ft_tup (m := ?m) (n := ?n) ?f ?h); (case f => walk_at "ft"); (case h => walk_at "bd"))
  | ((with_reducible refine ft_lst (m := ?m) (n := ?n) ?f ?h); (case f => walk_at "ft"); (case h => walk_at "bd"))
  | ((with_reducible refine la_cons (m1 := ?a) (n1 := ?b) (B := ?c) ?f ?g ?h ?i); (case f => walk_at "ft"); (case h => walk_at "bd"); (case i => walk_at "bd"); (case g => walk_at "ft"))
  | ((with_reducible refine lt_var (v := ?v) (m := ?m) (n := ?n) (B := ?b) ?h ?f); (case h => exact rfl); (case f => assumption))
  | ((with_reducible refine lt_add (B1 := ?a) (B2 := ?b) ?f ?g ?h); (case f => walk_at "ft"); (case g => walk_at "ft"); (case h => walk_at "bd"))
  | ((with_reducible refine ft_addsv (x := ?x) (m := ?m) (n := 10) ?h ?s ?a ?z); (case h => exact rfl); (case s => assumption); (case a => exact And.intro rfl (by decide)); (case z => decide))
  | ((with_reducible refine lt_lst ?f ?h); (case f => walk_at "ft"); (case h => walk_at "bd")))
section
variable {P : Program} {w : World} {K : PySem.W.Frag} {mg : Str → Option Value} {base : Heap} {k : Nat} {pd ea aa : Addr} {es : Array DictEntry} {n : Nat}
theorem strs_isM {xs : List Str} : ∀ {vs : List V} {ds : List PyData} {G : Hp}, DtL K G vs ds → ds.all (isM xs) = true → vs = (ds.map stO).map V.str
  | _, _, _, .nil, _ => rfl
  | _, _, _, .cons h t, z => by
    rw [List.all_cons, Bool.and_eq_true] at z
    have e := strs_isM t z.2
    cases h with
    | str x => rw [e]; rfl
    | _ => exact absurd z.1 Bool.false_ne_true
theorem str_eq {x y : Str} : decide (V.str x = V.str y) = (x == y) := by
  rw [Bool.eq_iff_iff, decide_eq_true_eq, beq_iff_eq]
  exact ⟨fun z => by cases z; rfl, fun z => by rw [z]⟩
theorem int_eq {x y : Int} : decide (V.int x = V.int y) = decide (x = y) := decide_eq_decide.mpr ⟨fun z => by cases z; rfl, fun z => by rw [z]⟩
abbrev s_are_marks : Stmt := top 9
theorem sc_are_marks : FnScope ["names", "value", "mark"] ["names", "value"] (defScope s_are_marks) := ⟨rfl, rfl, rfl, by decide +kernel, rfl, by decide +kernel, by decide +kernel⟩
def sp_ams (K : PySem.W.Frag) : Sp := fun vs H Q _ => ∃ (G : Hp) (R : List (Addr × HO)) (a : Addr) (xs : List Str) (v : V) (d : PyData), vs = [.ref a, v] ∧ Own G H R ∧ (SqL K G a (xs.map V.str) ∨ SqT K G a (xs.map V.str)) ∧ Dt K G v d ∧ d.weight ≤ 100000 ∧ ∀ (G' H' : Hp), Same G G' → Own G' H' R → Q (.bl (mdB xs d)) H'
theorem ok_ams {f : Addr} {fd : FuncData} (F : Fun K "are_marks" "are_marks" s_are_marks f fd) (B : Bt mg) (T : Ct K w mg pd es n ea aa) (C_ascends : Cal P w K mg base k "ascends" ["items"] (sp_asc K)) : FnG P w K mg base (k + 1) f fd ["names", "value"] (sp_ams K) := by
  refine fnG_of F sc_are_marks (fun vs H Q E h => ?_) (fun cdv A outer s H vs Q E r h => ?_)
  · obtain ⟨_, _, a, xs, v, d, rfl, _⟩ := h
    rfl
  · obtain ⟨G, R, a, xs, v, d, rfl, O, ha, hv, hw, q⟩ := h
    refine ⟨_, (pss_cons (ps_if (PW.pt (pw_or (pt_not (pt_truK (K := K) rfl (pe_callB (cIsiK (K := K) rfl) (by rfl) B.isinstance (by decide +kernel) (pa_cons (pv 1) (pa_cons (pe_bltn (v := .ty "tuple") (u := .type "tuple") (by rfl) B.tuple (by decide +kernel) rfl) pa_nil))))) (pw_or1 (pt_cmpR (oEqK (K := K) rfl r) (pe_callB (cLenK (K := K) rfl) (by rfl) B.len (by decide +kernel) (pa_cons (pv 1) pa_nil)) pe_int (nomark _)))))
       (pss_one (ps_ret pe_bl))
       pss_nil)
       (pss_one (ps_ret (pe_and (pe_callB (cAllK (K := K) rfl rfl) (by rfl) B.all (by decide +kernel) (pa_cons (pe_lc (own := [("mark", 2)]) rfl sc_are_marks.nd (pi_sqK (K := K) rfl (pv 1)) (blkOk_by (N := ["names", "value", "mark"]) (sc := defScope s_are_marks) (by decide +kernel)) (fun _ _ _ _ _ => (pg_name (i := 2) sc_are_marks.nd rfl (Or.inl rfl))) (fun _ _ _ _ _ => pts_nil) (fun _ _ _ _ _ => (pe_and (pe_callB (cIsiK (K := K) rfl) (by rfl) B.isinstance (by decide +kernel) (pa_cons (pv 2) (pa_cons (pe_bltn (v := .ty "str") (u := .type "str") (by rfl) B.str (by decide +kernel) rfl) pa_nil))) (pe_one (pe_or (pe_cmpR (oEqK (K := K) rfl r) (pv 2) (C8.pe_gc (by rfl) T.SAME) (nomark _)) (pe_one (pe_cmpR (oInK (K := K) rfl) (pv 2) (pv 0) (by rfl)))))))) pa_nil)) (pe_one (g_call C_ascends r (by rfl) passL (pa_cons (pv 1) pa_nil))))))), ?_⟩
    try dsimp only [cxOf]
    refine x_start (σ' := [some _, some _, none]) rfl ?_
    walk_at "s"
    refine x_isiT (O.dt hv) ?_
    walk_at "s"
    cases hv with
    | tup h t =>
      rename_i p vs ds
      have lw : ds.length ≤ 100000 := Nat.le_trans len_wt (by simpa only [PyData.weight] using hw)
      refine ite_f ?_
      walk_at "s"
      refine x_lent (O.set h) ?_
      walk_at "s"
      refine x_eq rfl ?_
      walk_at "s"
      rw [int_eq]
      refine ite_b (fun c => ?_) (fun c => ?_)
      · have hz : vs = [] := List.eq_nil_of_length_eq_zero (by have := of_decide_eq_true c; omega)
        subst hz
        cases t
        walk_at "s"
        exact q G H (Same.refl _) O
      have hne : ds ≠ [] := fun z => by subst z; cases t; exact absurd c (by decide)
      walk_at "s"
      refine x_sqT (O.set h) ?_
      refine lc_map (by walk_at "n") walk_tup O (by rw [t.length]; omega) (fun _ i y => ∃ d, ds[i]? = some d ∧ y = V.bl (isM xs d)) (fun _ _ _ _ _ z => z) (fun G' H' D acc s' O' => O'.set (same_t s' h)) ?_ gm_name ?_
      · rintro i x G' H' H2 D acc hi s' O' ⟨rfl, ex⟩ kk
        obtain ⟨di, edi⟩ : ∃ d, ds[i]? = some d := ⟨ds[i]'(by rw [← t.length]; exact hi), List.getElem?_eq_getElem _⟩
        obtain ⟨vi, evi, hvi⟩ := t.get i edi
        rw [ex] at evi
        cases evi
        walk_at "s"
        refine x_isiS (O'.dt (hvi.mono s')) ?_
        walk_at "s"
        cases hvi with
        | str x =>
          refine ite_t ?_
          obtain ⟨u, eu, ru⟩ := T.SAME
          walk_at "s"
          refine x_eq rfl ?_
          walk_at "s"
          rw [str_eq]
          refine ite_b (fun c1 => ?_) (fun c1 => ?_)
          · exact kk _ _ _ (Same.refl _) O' ⟨_, edi, by show V.bl true = V.bl (_ || _); rw [show (x == Str.ofString "is") = true from c1]; rfl⟩
          · walk_at "s"
            refine x_inS (Own.sq O' (sq_same s' ha)) ?_
            exact kk _ _ _ (Same.refl _) O' ⟨_, edi, by show _ = V.bl (_ || _); rw [show (x == Str.ofString "is") = false from c1]; rfl⟩
        | _ => exact ite_f (kk _ _ _ (Same.refl _) O' ⟨_, edi, rfl⟩)
      intro G9 H9 p9 bs s9 O9 e9 l9 r9
      have eb : bs = ds.map fun d => V.bl (isM xs d) := eq_of_ix (by rw [l9, t.length]) r9
      walk_at "s"
      refine ⟨p9, ds.map (isM xs), rfl, SqL.of (by rw [O9.sub _ _ e9, eb, List.map_map]; rfl), ?_⟩
      walk_at "s"
      rw [List.all_map]
      show if (ds.all (isM xs)) = true then _ else _
      have hemp : ds.isEmpty = false := by cases ds with
        | nil => exact absurd rfl hne
        | cons _ _ => rfl
      refine ite_b (fun c1 => ?_) (fun c1 => ?_)
      · walk_at "s"
        refine ⟨G9, R, p, ds.map stO, rfl, O9, ?_, ?_, fun G' H' s' O' => ?_⟩
        · rw [← strs_isM t c1]
          exact same_t s9 h
        · rw [List.length_map]
          exact lw
        · have z := q G' H' (s9.trans s') O'
          simp only [mdB, hemp, c1, Bool.not_false, Bool.true_and] at z
          exact z
      · have z := q G9 H9 s9 O9
        simp only [mdB, hemp, c1, Bool.not_false, Bool.true_and, Bool.and_false, Bool.false_and] at z
        exact z
    | _ =>
      refine ite_t ?_
      walk_at "s"
      exact q G H (Same.refl _) O
end
end M74
set_option maxHeartbeats 4000000
namespace M74
open PySem PySem.Spec PyProof.Rows L2 G
local macro_rules | `(tactic| walk_at "hp") => `(tactic| first | assumption | exact Own.at0 (by assumption) | exact Own.at1 (by assumption) | exact Own.at2 (by assumption) | exact Own.at3 (by assumption) | exact Own.sub (by assumption) _ _ (by assumption) | exact upd_same)
local macro_rules | `(tactic| walk_at "hl") => `(tactic| first | assumption | exact SqL.of (by walk_at "hp") | exact Own.seq (by assumption) (by assumption) | exact Own.seq (by assumption) (SqL.of (by assumption)))
local macro_rules | `(tactic| walk_at "ht") => `(tactic| first | assumption | exact SqT.of (by walk_at "hp") | exact Own.set (by assumption) (by assumption) | exact Own.set (by assumption) (SqT.of (by assumption)))
local macro_rules | `(tactic| walk_at "n") => `(tactic| (intros; (try dsimp only [List.set, wipe, List.map, List.set_cons_succ, List.set_cons_zero]); (try exact rfl)))
local macro_rules | `(tactic| walk_at "n1") => `(tactic| with_reducible first | (refine x_asgN (σ' := ?s) ?hs ?q; (case hs => walk_at "n")) | (refine x_gN (σ' := ?s) ?hs ?q; (case hs => walk_at "n")) | (refine And.intro (show wipe _ _ = _ from (by walk_at "n")) ?_) | (refine x_parN (σ' := ?s) ?hs ?q; (case hs => walk_at "n")) | (refine x_par3N (σ' := ?s) ?hs ?q; (case hs => walk_at "n")))
local macro_rules | `(tactic| walk_at "v1") => `(tactic| ((with_reducible refine x_var (v := ?v) ?h ?q); (case h => first | exact rfl | assumption)))
local macro_rules | `(tactic| walk_at "s1") => `(tactic| with_reducible first | refine x_op ?_ | refine x_acons ?_ | refine x_c ?_ | refine x_call ?_ | refine x_anil ?_ | refine x_cb ?_ | refine x_seq ?_ | refine x_asgG ?_ | refine x_gC ?_ | refine x_gNl ?_ | refine x_ret ?_ | refine x_ifs ?_ | refine x_test ?_ | refine x_testb ?_ | refine x_and ?_ | refine x_or ?_ | refine x_andV ?_ | refine x_isB ?_ | refine x_add ?_ | refine x_lt ?_ | refine x_inti ?_ | refine x_isI ?_ | refine x_lst ?_ | refine x_tup ?_ | refine x_slice ?_ | refine x_nop ?_ | refine x_part ?_ | refine x_bm ?_ | refine x_sub ?_ | refine x_rI0 ?_ | refine x_drop ?_ | refine x_next ?_ | refine x_brk ?_ | refine x_cnt ?_ | refine x_par2 ?_ | refine x_par33 ?_ | refine x_un ?_ | refine x_rU ?_ | refine x_le ?_ | refine x_gt ?_ | refine x_ge ?_ | refine x_lts ?_ | refine x_intb ?_ | refine x_abs ?_ | refine x_tru ?_ | refine x_trub ?_ | refine x_trui ?_ | refine x_not ?_ | refine x_orV ?_ | refine x_notV ?_ | refine x_if ?_ | refine x_isN ?_ | refine x_isnN ?_ | refine x_dict ?_ | refine x_bm0 ?_ | refine x_revL ?_ | refine x_lcR ?_ | refine x_lcS ?_ | refine x_forR ?_ | refine x_forS ?_ | refine x_yes ?_ | refine ite_t ?_ | refine ite_f ?_)
local macro_rules | `(tactic| walk_at "s") => `(tactic| repeat (first | walk_at "v1" | walk_at "s1" | walk_at "n1"))
local macro_rules | `(tactic| walk_at "bd") => `(tactic| first | decide | omega | exact Nat.le_refl _)
local macro_rules | `(tactic| walk_at "ft") => `(tactic| first
  | with_reducible exact la_nil | with_reducible exact fa_nil | with_reducible exact ft_non | with_reducible exact ft_bl | with_reducible exact ft_dict | ((with_reducible refine ft_str (n := 10) (x := ?x) ?h); (case h => exact And.intro rfl (by decide))) | ((with_reducible refine ft_int (i := ?i) ?h); (case h => decide))
  | ((with_reducible refine ft_var (v := ?v) (m := ?m) (n := ?n) ?h ?f); (case h => exact rfl); (case f => assumption))
  | ((with_reducible refine fa_cons (m1 := ?a) (n1 := ?b) (m2 := ?c) (n2 := ?d) ?f ?g); (case f => walk_at "ft"); (case g => walk_at "ft"))
  | ((with_reducible refine ft_tup (m := ?m) (n := ?n) ?f ?h); (case f => walk_at "ft"); (case h => walk_at "bd"))
  | ((with_reducible refine ft_lst (m := ?m) (n := ?n) ?f ?h); (case f => walk_at "ft"); (case h => walk_at "bd"))
  | ((with_reducible refine la_cons (m1 := ?a) (n1 := ?b) (B := ?c) ?f ?g ?h ?i); (case f => walk_at "ft"); (case h => walk_at "bd"); (case i => walk_at "bd"); (case g => walk_at "ft"))
  | ((with_reducible refine lt_var (v := ?v) (m := ?m) (n := ?n) (B := ?b) ?h ?f); (case h => exact rfl); (case f => assumption))
  | ((with_reducible refine lt_add (B1 := ?a) (B2 := ?b) ?f ?g ?h); (case f => walk_at "ft"); (case g => walk_at "ft"); (case h => walk_at "bd"))
  | ((with_reducible refine ft_addsv (x := ?x) (m := ?m) (n := 10) ?h ?s ?a ?z); (case h => exact rfl); (case s => assumption); (case a => exact And.intro rfl (by decide)); (case z => decide))
  | ((with_reducible refine lt_lst ?f ?h); (case f => walk_at "ft"); (case h => walk_at "bd")))
section
variable {P : Program} {w : World} {K : PySem.W.Frag} {mg : Str → Option Value} {base : Heap} {k : Nat} {pd ea aa : Addr} {es : Array DictEntry} {n : Nat}
theorem Own.it {G H : Hp} {L : List (Addr × HO)} {v : V} {d : PyData} (O : Own G H L) (h : Dt K G v d) : Dt K H v d := h.mono O.sub
theorem wt_mem {ds : List PyData} {d : PyData} (h : d ∈ ds) : d.weight ≤ PyData.weightAll ds := by
  induction ds with
  | nil => exact nomatch h
  | cons e ds ih =>
    simp only [PyData.weightAll]
    rcases List.mem_cons.mp h with rfl | h
    · omega
    · have := ih h
      omega
theorem DtL.at_ {G : Hp} {vs : List V} {ds : List PyData} (t : DtL K G vs ds) {i : Nat} (hi : i < ds.length) : ∃ v, atI vs (i : Int) = some v ∧ Dt K G v (ds.getD i .none) := by
  obtain ⟨v, ev, hv⟩ := t.get i (List.getElem?_eq_getElem hi)
  refine ⟨v, atI_nat ev, ?_⟩
  rw [List.getD_eq_getElem?_getD, List.getElem?_eq_getElem hi]
  exact hv
/-- value[1:] of a tuple that has items -/
theorem x_tail {H : Hp} {Q : VK} {p : Addr} {v : V} {vs : List V} (h : SqT K H p (v :: vs)) (q : nw (.tup vs) H Q) : aSl K (.ref p) (some 1) none H Q := by
  refine x_slT h (fun z => ?_) fun _ => by rw [cut1]; exact q
  have e : HT.sIx (v :: vs).length 0 (some 1) = 1 := by
    have := HT.sIx_nat (v :: vs).length 0 1
    rw [List.length_cons] at this ⊢
    exact this.trans (by omega)
  rw [e] at z
  exact absurd z.1 (by decide)
abbrev s_is_formula_within : Stmt := top 11
theorem sc_is_formula_within : FnScope ["names", "tests", "value", "deep", "word", "part"] ["names", "tests", "value", "deep"] (defScope s_is_formula_within) := ⟨rfl, rfl, rfl, by decide +kernel, rfl, by decide +kernel, by decide +kernel⟩
def sp_fw (K : PySem.W.Frag) (D : Nat) : Sp := fun vs H Q _ => ∃ (G : Hp) (R : List (Addr × HO)) (a t : Addr) (xs ts : List Str) (v : V) (d : PyData) (m : Nat), vs = [.ref a, .ref t, v, .int m] ∧ Own G H R ∧ (SqL K G a (xs.map V.str) ∨ SqT K G a (xs.map V.str)) ∧ (SqL K G t (ts.map V.str) ∨ SqT K G t (ts.map V.str)) ∧ Dt K G v d ∧ d.weight ≤ 100000 ∧ m < D ∧
  ∀ (G' H' : Hp), Same G G' → Own G' H' R → Q (.bl (wf xs ts m d)) H'
theorem ok_fwS {f : Addr} {fd : FuncData} (F : Fun K "is_formula_within" "is_formula_within" s_is_formula_within f fd) (B : Bt mg) (T : Ct K w mg pd es n ea aa) (D : Nat)
    (C_is_formula_within : Cal P w K mg base k "is_formula_within" ["names", "tests", "value", "deep"] (sp_fw K D)) (C_is_among : Cal P w K mg base k "is_among" ["names", "value"] (sp_among K)) (C_is_row : Cal P w K mg base k "is_row" ["value", "many"] (sp_row K))
    (C_are_marks : Cal P w K mg base k "are_marks" ["names", "value"] (sp_ams K)) : FnG P w K mg base (k + 1) f fd ["names", "tests", "value", "deep"] (sp_fw K (D + 1)) := by
  refine fnG_of F sc_is_formula_within (fun vs H Q E h => ?_) (fun cdv A outer s H vs Q E r h => ?_)
  · obtain ⟨_, _, a, t, xs, ts, v, d, m, rfl, _⟩ := h
    rfl
  · obtain ⟨G, R, a, t, xs, ts, v, d, m, rfl, O, ha, ht, hv, hw, hm, q⟩ := h
    refine ⟨_, (pss_cons (ps_if (PW.pt (pw_or (pt_cmpR (oEqK (K := K) rfl r) (pv 3) pe_int (nomark _)) (pw_or (pt_not (pt_truK (K := K) rfl (pe_callB (cIsiK (K := K) rfl) (by rfl) B.isinstance (by decide +kernel) (pa_cons (pv 2) (pa_cons (pe_bltn (v := .ty "tuple") (u := .type "tuple") (by rfl) B.tuple (by decide +kernel) rfl) pa_nil))))) (pw_or (pt_cmpR (oEqK (K := K) rfl r) (pe_callB (cLenK (K := K) rfl) (by rfl) B.len (by decide +kernel) (pa_cons (pv 2) pa_nil)) pe_int (nomark _)) (pw_or1 (pt_not (pt_truK (K := K) rfl (pe_callB (cIsiK (K := K) rfl) (by rfl) B.isinstance (by decide +kernel) (pa_cons (pe_ix (ixK (K := K) rfl) (pv 2) pe_int (fun _ _ => rfl)) (pa_cons (pe_bltn (v := .ty "str") (u := .type "str") (by rfl) B.str (by decide +kernel) rfl) pa_nil))))))))))
       (pss_one (ps_ret pe_bl))
       pss_nil)
       (pss_cons (ps_set (i := 4) sc_is_formula_within.nd rfl (Or.inl rfl) (pe_ix (ixK (K := K) rfl) (pv 2) pe_int (fun _ _ => rfl)))
       (pss_cons (ps_if (pt_cmpR (op_in_kd T.kd) (pv 4) (C8.pe_gc (by rfl) T.PARTS) (by rfl))
       (pss_one (ps_ret (pe_and (pe_cmpR (oEqK (K := K) rfl r) (pe_callB (cLenK (K := K) rfl) (by rfl) B.len (by decide +kernel) (pa_cons (pv 2) pa_nil)) (pe_op (oAddK (K := K) rfl) (pe_ix ix_kdict (C8.pe_gc (by rfl) T.PARTS) (pv 4) (fun _ _ => rfl)) pe_int) (nomark _)) (pe_one (pe_callB (cAllK (K := K) rfl rfl) (by rfl) B.all (by decide +kernel) (pa_cons (pe_lc (own := [("part", 5)]) rfl sc_is_formula_within.nd (pi_sqK (K := K) rfl (pe_slice (oSlK (K := K) rfl) (pv 2) (po_some pe_int) po_none)) (blkOk_by (N := ["names", "tests", "value", "deep", "word", "part"]) (sc := defScope s_is_formula_within) (by decide +kernel)) (fun _ _ _ _ _ => (pg_name (i := 5) sc_is_formula_within.nd rfl (Or.inl rfl))) (fun _ _ _ _ _ => pts_nil) (fun _ _ _ _ _ => (g_call C_is_formula_within r (by rfl) passL (pa_cons (pv 0) (pa_cons (pv 1) (pa_cons (pv 5) (pa_cons (pe_op op_sub (pv 3) pe_int) pa_nil))))))) pa_nil))))))
       pss_nil)
       (pss_cons (ps_if (pt_cmpR (oInK (K := K) rfl) (pv 4) (C8.pe_gc (by rfl) T.ASKED) (by rfl))
       (pss_one (ps_ret (pe_and (pe_cmpR (oEqK (K := K) rfl r) (pe_callB (cLenK (K := K) rfl) (by rfl) B.len (by decide +kernel) (pa_cons (pv 2) pa_nil)) pe_int (nomark _)) (pe_one (g_call C_is_among r (by rfl) passL (pa_cons (pv 1) (pa_cons (pe_ix (ixK (K := K) rfl) (pv 2) pe_int (fun _ _ => rfl)) pa_nil)))))))
       pss_nil)
       (pss_cons (ps_if (PW.pt (pw_or (pt_cmpR (oNeK (K := K) rfl r) (pv 4) pe_str (nomark _)) (pw_or1 (pt_not (pt_truK (K := K) rfl (g_call C_is_row r (by rfl) passL (pa_cons (pv 2) (pa_cons pe_int pa_nil))))))))
       (pss_one (ps_ret pe_bl))
       pss_nil)
       (pss_one (ps_ret (pe_and (g_call C_are_marks r (by rfl) passL (pa_cons (pv 0) (pa_cons (pe_ix (ixK (K := K) rfl) (pv 2) pe_int (fun _ _ => rfl)) pa_nil))) (pe_and (g_call C_is_among r (by rfl) passL (pa_cons (C8.pe_gc (by rfl) T.ENDS) (pa_cons (pe_ix (ixK (K := K) rfl) (pv 2) pe_int (fun _ _ => rfl)) pa_nil))) (pe_one (g_call C_is_among r (by rfl) passL (pa_cons (pv 1) (pa_cons (pe_ix (ixK (K := K) rfl) (pv 2) pe_int (fun _ _ => rfl)) pa_nil))))))))))))), ?_⟩
    try dsimp only [cxOf]
    refine x_start (σ' := [some _, some _, some _, some _, none, none]) rfl ?_
    walk_at "s"
    refine x_eq rfl ?_
    walk_at "s"
    rw [int_eq]
    have no : wf xs ts m d = false → Q (.bl false) H := fun e => by rw [← e]; exact q G H (Same.refl _) O
    refine ite_b (fun c => ?_) (fun c => ?_)
    · have c1 : m = 0 := by have := of_decide_eq_true c; omega
      walk_at "s"
      exact no (by rw [c1]; cases d <;> rfl)
    obtain ⟨m, rfl⟩ : ∃ j, m = j + 1 := ⟨m - 1, by have := of_decide_eq_false c; omega⟩
    walk_at "s"
    refine x_isiT (O.dt hv) ?_
    walk_at "s"
    cases hv with
    | tup h tt =>
      rename_i p vs ds
      refine ite_f ?_
      walk_at "s"
      refine x_lent (O.set h) ?_
      walk_at "s"
      refine x_eq rfl ?_
      walk_at "s"
      rw [int_eq]
      cases tt with
      | nil =>
        refine ite_t ?_
        walk_at "s"
        exact no rfl
      | cons h0 tt =>
        rename_i v0 vs d0 ds
        refine ite_f ?_
        walk_at "s"
        refine x_ixt (i := 0) (O.set h) at_0 ?_
        refine x_isiS (O.dt h0) ?_
        walk_at "s"
        simp only [PyData.weight, PyData.weightAll] at hw
        cases h0 with
        | str wd =>
          refine ite_f ?_
          walk_at "s"
          refine x_ixt (i := 0) (O.set h) at_0 ?_
          obtain ⟨u1, eu1, ru1⟩ := T.PARTS
          obtain ⟨rr, er, r0, r1⟩ := T.part wd
          walk_at "s"
          refine ⟨wd, rr, rfl, rfl, er, ?_⟩
          walk_at "s"
          by_cases hp : ptN wd ≠ 0
          · obtain ⟨tk, rfl⟩ := r1 hp
            refine ite_t ?_
            walk_at "s"
            refine x_lent (O.set h) ?_
            walk_at "s"
            refine ⟨pd, wd, .int (ptN wd), rfl, rfl, ⟨es, n, _, T.kd.at_, T.kd.lit, er, ⟨tk, rfl⟩⟩, ?_⟩
            walk_at "s"
            refine x_eq rfl ?_
            rw [int_eq]
            walk_at "s"
            have ew : wf xs ts (m + 1) (.tuple (.str wd :: ds)) = (decide (ds.length = ptN wd) && ds.all (wf xs ts m)) := by
              simp only [wf]
              rw [if_pos hp]
            have el : decide (((PyData.str wd :: ds).length : Int) = (ptN wd : Int) + 1) = decide (ds.length = ptN wd) := decide_eq_decide.mpr (by rw [List.length_cons]; omega)
            rw [show (V.str wd :: vs).length = (PyData.str wd :: ds).length by rw [List.length_cons, List.length_cons, tt.length], el]
            refine ite_b (fun c => ?_) (fun c => ?_)
            · walk_at "s"
              refine x_tail (O.set h) (x_fix O fun p1 G1 H1 s1 O1 e1 => ?_)
              walk_at "s"
              refine x_sqT (O1.set (SqT.of e1)) ?_
              refine lc_map (by walk_at "n") walk_tup O1 (by rw [tt.length]; have := len_wt (ds := ds); omega) (fun _ i y => ∃ d, ds[i]? = some d ∧ y = V.bl (wf xs ts m d)) (fun _ _ _ _ _ z => z) (fun G' H' D acc s' O' => O'.set (same_t s' (SqT.of e1))) ?_ gm_name ?_
              · rintro i x G' H' H2 D acc hi s' O' ⟨rfl, ex⟩ kk
                obtain ⟨di, edi⟩ : ∃ d, ds[i]? = some d := ⟨ds[i]'(by rw [← tt.length]; exact hi), List.getElem?_eq_getElem _⟩
                obtain ⟨vi, evi, hvi⟩ := tt.get i edi
                rw [ex] at evi
                cases evi
                have s12 := s1.trans s'
                walk_at "s"
                refine ⟨G', _, a, t, xs, ts, x, di, m, by rw [show ((m + 1 : Nat) : Int) - 1 = m by omega], O', sq_same s12 ha, sq_same s12 ht, hvi.mono s12, ?_, by omega, fun G3 H3 s3 O3 => kk _ _ _ s3 O3 ⟨_, edi, rfl⟩⟩
                have := wt_mem (List.mem_of_getElem? edi)
                omega
              intro G9 H9 p9 bs s9 O9 e9 l9 r9
              have eb : bs = ds.map fun d => V.bl (wf xs ts m d) := eq_of_ix (by rw [l9, tt.length]) r9
              walk_at "s"
              refine ⟨p9, ds.map (wf xs ts m), rfl, SqL.of (by rw [O9.sub _ _ e9, eb, List.map_map]; rfl), ?_⟩
              have z := q G9 H9 (s1.trans s9) O9
              rw [ew, c, Bool.true_and] at z
              rw [List.all_map]
              exact z
            · refine no ?_
              rw [ew, c, Bool.false_and]
          · have hp0 : ptN wd = 0 := Classical.byContradiction hp
            obtain rfl := r0 hp0
            refine ite_f ?_
            obtain ⟨u2, eu2, ru2⟩ := T.ASKED
            walk_at "s"
            refine x_inS (.inr (T.asked _)) ?_
            walk_at "s"
            have ew : wf xs ts (m + 1) (.tuple (.str wd :: ds)) = if wAsked.contains wd = true then decide (ds.length = 1) && isA ts (ds.getD 0 .none) else decide (wd = "stands" ∧ ds.length = 3) && (mdB xs (ds.getD 0 .none) && isA wEnds (ds.getD 1 .none) && isA ts (ds.getD 2 .none)) := by
              simp only [wf]
              rw [if_neg hp]
            have lv : (V.str wd :: vs).length = ds.length + 1 := by rw [List.length_cons, tt.length]
            refine ite_b (fun c => ?_) (fun c => ?_)
            · rw [if_pos c] at ew
              walk_at "s"
              refine x_lent (O.set h) ?_
              walk_at "s"
              refine x_eq rfl ?_
              rw [int_eq, lv]
              walk_at "s"
              have el : decide (((ds.length + 1 : Nat) : Int) = 2) = decide (ds.length = 1) := decide_eq_decide.mpr (by omega)
              rw [el]
              refine ite_b (fun c2 => ?_) (fun c2 => ?_)
              · walk_at "s"
                obtain ⟨v1, ev1, hv1⟩ := DtL.at_ (.cons (.str wd) tt) (i := 1) (by rw [List.length_cons]; have := of_decide_eq_true c2; omega)
                refine x_ixt (O.set h) ev1 ?_
                refine ⟨G, R, t, v1, _, ts, rfl, O, ht, hv1, fun G3 H3 s3 O3 => ?_⟩
                have z := q G3 H3 s3 O3
                rw [ew, c2, Bool.true_and] at z
                exact z
              · refine no ?_
                rw [ew, c2, Bool.false_and]
            · rw [if_neg (by rw [c]; exact Bool.false_ne_true)] at ew
              walk_at "s"
              refine x_ne rfl ?_
              rw [str_eq]
              walk_at "s"
              have leaf : ∀ b : Bool, wf xs ts (m + 1) (.tuple (.str wd :: ds)) = b → ∀ (G' H' : Hp), Same G G' → Own G' H' R → Q (.bl b) H' := fun b e G' H' s' O' => by rw [← e]; exact q G' H' s' O'
              refine ite_b (fun c2 => ?_) (fun c2 => ?_)
              · have c3 : wd ≠ Str.ofString "stands" := fun z => by rw [z] at c2; exact absurd c2 (by decide +kernel)
                walk_at "s"
                refine no ?_
                rw [ew, decide_eq_false (fun z => c3 z.1), Bool.false_and]
              have c3 : wd = Str.ofString "stands" := by
                have : (wd == Str.ofString "stands") = true := by
                  cases hb : (wd == Str.ofString "stands")
                  · rw [hb] at c2
                    exact absurd c2 (by decide)
                  · rfl
                exact beq_iff_eq.mp this
              walk_at "s"
              refine ⟨G, R, .ref p, _, 4, rfl, O, .tup h (.cons (.str wd) tt), fun G1 H1 s1 O1 => ?_⟩
              have er : rowB 4 (.tuple (.str wd :: ds)) = decide (ds.length = 3) := decide_eq_decide.mpr (by rw [List.length_cons]; omega)
              rw [er]
              walk_at "s"
              refine ite_b (fun c4 => ?_) (fun c4 => ?_)
              · walk_at "s"
                refine leaf false ?_ G1 H1 s1 O1
                have c5 : ¬ ds.length = 3 := fun z => by rw [decide_eq_true z] at c4; exact absurd c4 (by decide)
                rw [ew, decide_eq_false (fun z => c5 z.2), Bool.false_and]
              have c5 : ds.length = 3 := Classical.byContradiction fun z => by rw [decide_eq_false z] at c4; exact absurd c4 (by decide)
              rw [decide_eq_true ⟨c3, c5⟩, Bool.true_and] at ew
              walk_at "s"
              have hall := DtL.cons (.str wd : Dt K G (.str wd) (.str wd)) tt
              obtain ⟨v1, ev1, hv1⟩ := DtL.at_ hall (i := 1) (by rw [List.length_cons]; omega)
              obtain ⟨v2, ev2, hv2⟩ := DtL.at_ hall (i := 2) (by rw [List.length_cons]; omega)
              obtain ⟨v3, ev3, hv3⟩ := DtL.at_ hall (i := 3) (by rw [List.length_cons]; omega)
              refine x_ixt (O1.set (same_t s1 h)) ev1 ?_
              have w1 : (ds.getD 0 .none).weight ≤ 100000 := by
                rw [List.getD_eq_getElem?_getD, List.getElem?_eq_getElem (show 0 < ds.length by omega)]
                have := wt_mem (List.getElem_mem (show 0 < ds.length by omega))
                show (ds[0]).weight ≤ _
                omega
              refine ⟨G1, R, a, xs, v1, _, rfl, O1, sq_same s1 ha, hv1.mono s1, w1, fun G2 H2 s2 O2 => ?_⟩
              have s12 := s1.trans s2
              walk_at "s"
              refine ite_b (fun c6 => ?_) (fun c6 => ?_)
              · replace c6 : mdB xs (ds.getD 0 .none) = true := c6
                walk_at "s"
                refine x_ixt (O2.set (same_t s12 h)) ev2 ?_
                refine ⟨G2, R, ea, v2, _, wEnds, rfl, O2, .inr (T.ends _), hv2.mono s12, fun G3 H3 s3 O3 => ?_⟩
                have s13 := s12.trans s3
                walk_at "s"
                refine ite_b (fun c7 => ?_) (fun c7 => ?_)
                · replace c7 : isA wEnds (ds.getD 1 .none) = true := c7
                  walk_at "s"
                  refine x_ixt (O3.set (same_t s13 h)) ev3 ?_
                  refine ⟨G3, R, t, v3, _, ts, rfl, O3, sq_same s13 ht, hv3.mono s13, fun G4 H4 s4 O4 => ?_⟩
                  refine leaf _ ?_ G4 H4 (s13.trans s4) O4
                  rw [ew, c6, c7, Bool.true_and, Bool.true_and]
                  rfl
                · replace c7 : isA wEnds (ds.getD 1 .none) = false := c7
                  refine leaf _ ?_ G3 H3 s13 O3
                  rw [ew, c7, Bool.and_false, Bool.false_and]
              · replace c6 : mdB xs (ds.getD 0 .none) = false := c6
                refine leaf _ ?_ G2 H2 s12 O2
                rw [ew, c6, Bool.false_and, Bool.false_and]
        | _ =>
          refine ite_t ?_
          walk_at "s"
          exact no rfl
    | _ =>
      refine ite_t ?_
      walk_at "s"
      exact no rfl
theorem ok_fw {f : Addr} {fd : FuncData} (F : Fun K "is_formula_within" "is_formula_within" s_is_formula_within f fd) (B : Bt mg) (T : Ct K w mg pd es n ea aa) (hm : mg "is_formula_within" = some (.ref f)) (hk : PySem.W.keepIn K (.ref f) = true) (hb : Binds K fd ["names", "tests", "value", "deep"] [])
    (C_is_among : Cal P w K mg base k "is_among" ["names", "value"] (sp_among K)) (C_is_row : Cal P w K mg base k "is_row" ["value", "many"] (sp_row K)) (C_are_marks : Cal P w K mg base k "are_marks" ["names", "value"] (sp_ams K)) :
    ∀ D, FnG P w K mg base (k + D) f fd ["names", "tests", "value", "deep"] (sp_fw K D)
  | 0 => ⟨fun vs H Q E h => by
      obtain ⟨_, _, _, _, _, _, _, _, m, _, _, _, _, _, _, d0, _⟩ := h
      omega, fun A outer s H args us vs Q E r e b v h => by
      obtain ⟨_, _, _, _, _, _, _, _, m, _, _, _, _, _, _, d0, _⟩ := h
      omega⟩
  | D + 1 => ok_fwS F B T D ⟨f, fd, ok_fw F B T hm hk hb C_is_among C_is_row C_are_marks D, hm, hk, hb⟩ (C_is_among.up (Nat.le_add_right k D)) (C_is_row.up (Nat.le_add_right k D)) (C_are_marks.up (Nat.le_add_right k D))
abbrev s_is_formula : Stmt := top 12
theorem sc_is_formula : FnScope ["ways", "tests", "value", "name", "back"] ["ways", "tests", "value"] (defScope s_is_formula) := ⟨rfl, rfl, rfl, by decide +kernel, rfl, by decide +kernel, by decide +kernel⟩
/-- ways, and their names -/
def WyL (K : PySem.W.Frag) (G : Hp) (ys : List V) (xs : List Str) : Prop := ys.length = xs.length ∧ ∀ (i : Nat) (y : V), ys[i]? = some y → ∃ (x z : Str) (a : Addr), xs[i]? = some x ∧ y = .ref a ∧ SqT K G a [.str x, .str z]
theorem WyL.same {G G' : Hp} {ys : List V} {xs : List Str} (h : WyL K G ys xs) (s : Same G G') : WyL K G' ys xs := ⟨h.1, fun i y e => let ⟨x, z, a, e1, e2, h⟩ := h.2 i y e; ⟨x, z, a, e1, e2, same_t s h⟩⟩
def sp_isf (K : PySem.W.Frag) : Sp := fun vs H Q _ => ∃ (G : Hp) (R : List (Addr × HO)) (a t : Addr) (ys : List V) (xs ts : List Str) (v : V) (d : PyData), vs = [.ref a, .ref t, v] ∧ Own G H R ∧ (SqL K G a ys ∨ SqT K G a ys) ∧ WyL K G ys xs ∧ xs.length ≤ 1000 ∧ (SqL K G t (ts.map V.str) ∨ SqT K G t (ts.map V.str)) ∧ Dt K G v d ∧ d.weight ≤ 100000 ∧
  ∀ (G' H' : Hp), Same G G' → Own G' H' R → Q (.bl (wf xs ts 5 d)) H'
theorem gm_two {m l : Nat} : ∀ (x : V) (σ' : L2.St) (H' : Hp) (S S' : L2.St → Hp → Prop), (∀ a b, S a b → S' a b) → gTup K 2 (gCons (gName m) (gCons (gName l) gNil)) x σ' H' S → gTup K 2 (gCons (gName m) (gCons (gName l) gNil)) x σ' H' S' := by
  rintro x σ' H' S S' h ⟨a, xs, e1, e2, e3, v, r, e4, v2, r2, e5, e6, z⟩
  exact ⟨a, xs, e1, e2, e3, v, r, e4, v2, r2, e5, e6, h _ _ z⟩
theorem ok_isf {f : Addr} {fd : FuncData} (F : Fun K "is_formula" "is_formula" s_is_formula f fd) (B : Bt mg) (T : Ct K w mg pd es n ea aa) (C_is_formula_within : Cal P w K mg base k "is_formula_within" ["names", "tests", "value", "deep"] (sp_fw K 6)) :
    FnG P w K mg base (k + 1) f fd ["ways", "tests", "value"] (sp_isf K) := by
  refine fnG_of F sc_is_formula (fun vs H Q E h => ?_) (fun cdv A outer s H vs Q E r h => ?_)
  · obtain ⟨_, _, a, t, ys, xs, ts, v, d, rfl, _⟩ := h
    rfl
  · obtain ⟨G, R, a, t, ys, xs, ts, v, d, rfl, O, ha, hy, hx, ht, hv, hw, q⟩ := h
    refine ⟨_, (pss_one (ps_ret (g_call C_is_formula_within r (by rfl) passL (pa_cons (pe_lc (own := [("name", 3), ("back", 4)]) rfl sc_is_formula.nd (pi_sqK (K := K) rfl (pv 0)) (blkOk_by (N := ["ways", "tests", "value", "name", "back"]) (sc := defScope s_is_formula) (by decide +kernel)) (fun _ _ _ _ _ => (pg_tupK (K := K) (n := 2) rfl rfl (pgs_cons (pg_name (i := 3) sc_is_formula.nd rfl (Or.inl rfl)) (pgs_cons (pg_name (i := 4) sc_is_formula.nd rfl (Or.inl rfl)) pgs_nil)))) (fun _ _ _ _ _ => pts_nil) (fun _ _ _ _ _ => (pv 3))) (pa_cons (pv 1) (pa_cons (pv 2) (pa_cons (C8.pe_gc (by rfl) T.MOST_DEEP) pa_nil))))))), ?_⟩
    try dsimp only [cxOf]
    refine x_start (σ' := [some _, some _, some _, none, none]) rfl ?_
    walk_at "s"
    have fin : ∀ J Gd (W : Walk J ys.length Gd (YAt ys)) (hG : ∀ (G' H' : Hp) (D : Addr) (acc : List V), Same G G' → Own G' H' ((D, .lst acc) :: R) → Gd H') (Q2 : VK),
        (∀ (G' H' : Hp) (p : Addr), Same G G' → Own G' H' R → G' p = some (.lst (xs.map V.str)) → Q2 (.ref p) H') →
        tLc (iAt J) (gTup K 2 (gCons (gName 3) (gCons (gName 4) gNil))) tYes (tVar 3) (List.map (fun x => x.snd) [(Str.ofString "name", 3), (Str.ofString "back", 4)]) [some (V.ref a), some (V.ref t), some v, none, none] H Q2 := by
      intro J Gd W hG Q2 k2
      refine lc_map (by walk_at "n") W O (by rw [hy.1]; omega) (fun _ i y => ∃ x, xs[i]? = some x ∧ y = V.str x) (fun _ _ _ _ _ z => z) hG ?_ gm_two ?_
      · rintro i x G' H' H2 D acc hi s' O' ⟨rfl, ex⟩ kk
        obtain ⟨y, z, b, ey, rfl, hb⟩ := hy.2 i x ex
        refine x_gT (O'.set (same_t s' hb)) rfl ?_
        walk_at "s"
        exact kk _ _ _ (Same.refl _) O' ⟨_, ey, rfl⟩
      intro G9 H9 p9 bs s9 O9 e9 l9 r9
      refine k2 G9 H9 p9 s9 O9 ?_
      rw [e9, eq_of_ix (by rw [l9, hy.1]) r9]
    obtain ⟨u1, eu1, ru1⟩ := T.MOST_DEEP
    have go : ∀ (G' H' : Hp) (p : Addr), Same G G' → Own G' H' R → G' p = some (.lst (xs.map V.str)) → sp_fw K 6 [V.ref p, V.ref t, v, V.int 5] H' Q E0 := fun G' H' p s' O' e => ⟨G', R, p, t, xs, ts, v, d, 5, rfl, O', .inl (SqL.of e), sq_same s' ht, hv.mono s', hw, by decide, fun G2 H2 s2 O2 => q G2 H2 (s'.trans s2) O2⟩
    rcases ha with h | h
    · refine x_sqL (O.seq h) ?_
      refine fin _ _ walk_list (fun G' H' D acc s' O' => O'.seq (s'.seq h)) _ fun G' H' p s' O' e => ?_
      walk_at "s"
      exact go G' H' p s' O' e
    · refine x_sqT (O.set h) ?_
      refine fin _ _ walk_tup (fun G' H' D acc s' O' => O'.set (same_t s' h)) _ fun G' H' p s' O' e => ?_
      walk_at "s"
      exact go G' H' p s' O' e
end
end M74
set_option maxHeartbeats 4000000
namespace M74
open PySem PySem.Spec PyProof.Rows L2 G
local macro_rules | `(tactic| walk_at "hp") => `(tactic| first | assumption | exact Own.at0 (by assumption) | exact Own.at1 (by assumption) | exact Own.at2 (by assumption) | exact Own.at3 (by assumption) | exact Own.sub (by assumption) _ _ (by assumption) | exact upd_same)
local macro_rules | `(tactic| walk_at "hl") => `(tactic| first | assumption | exact SqL.of (by walk_at "hp") | exact Own.seq (by assumption) (by assumption) | exact Own.seq (by assumption) (SqL.of (by assumption)))
local macro_rules | `(tactic| walk_at "ht") => `(tactic| first | assumption | exact SqT.of (by walk_at "hp") | exact Own.set (by assumption) (by assumption) | exact Own.set (by assumption) (SqT.of (by assumption)))
local macro_rules | `(tactic| walk_at "n") => `(tactic| (intros; (try dsimp only [List.set, wipe, List.map, List.set_cons_succ, List.set_cons_zero]); (try exact rfl)))
local macro_rules | `(tactic| walk_at "n1") => `(tactic| with_reducible first | (refine x_asgN (σ' := ?s) ?hs ?q; (case hs => walk_at "n")) | (refine x_gN (σ' := ?s) ?hs ?q; (case hs => walk_at "n")) | (refine And.intro (show wipe _ _ = _ from (by walk_at "n")) ?_) | (refine x_parN (σ' := ?s) ?hs ?q; (case hs => walk_at "n")) | (refine x_par3N (σ' := ?s) ?hs ?q; (case hs => walk_at "n")))
local macro_rules | `(tactic| walk_at "v1") => `(tactic| ((with_reducible refine x_var (v := ?v) ?h ?q); (case h => first | exact rfl | assumption)))
local macro_rules | `(tactic| walk_at "s1") => `(tactic| with_reducible first | refine x_op ?_ | refine x_acons ?_ | refine x_c ?_ | refine x_call ?_ | refine x_anil ?_ | refine x_cb ?_ | refine x_seq ?_ | refine x_asgG ?_ | refine x_gC ?_ | refine x_gNl ?_ | refine x_ret ?_ | refine x_ifs ?_ | refine x_test ?_ | refine x_testb ?_ | refine x_and ?_ | refine x_or ?_ | refine x_andV ?_ | refine x_isB ?_ | refine x_add ?_ | refine x_lt ?_ | refine x_inti ?_ | refine x_isI ?_ | refine x_lst ?_ | refine x_tup ?_ | refine x_slice ?_ | refine x_nop ?_ | refine x_part ?_ | refine x_bm ?_ | refine x_sub ?_ | refine x_rI0 ?_ | refine x_drop ?_ | refine x_next ?_ | refine x_brk ?_ | refine x_cnt ?_ | refine x_par2 ?_ | refine x_par33 ?_ | refine x_un ?_ | refine x_rU ?_ | refine x_le ?_ | refine x_gt ?_ | refine x_ge ?_ | refine x_lts ?_ | refine x_intb ?_ | refine x_abs ?_ | refine x_tru ?_ | refine x_trub ?_ | refine x_trui ?_ | refine x_not ?_ | refine x_orV ?_ | refine x_notV ?_ | refine x_if ?_ | refine x_isN ?_ | refine x_isnN ?_ | refine x_dict ?_ | refine x_bm0 ?_ | refine x_revL ?_ | refine x_lcR ?_ | refine x_lcS ?_ | refine x_forR ?_ | refine x_forS ?_ | refine x_yes ?_ | refine ite_t ?_ | refine ite_f ?_)
local macro_rules | `(tactic| walk_at "s") => `(tactic| repeat (first | walk_at "v1" | walk_at "s1" | walk_at "n1"))
local macro_rules | `(tactic| walk_at "bd") => `(tactic| first | decide | omega | exact Nat.le_refl _)
local macro_rules | `(tactic| walk_at "ft") => `(tactic| first
  | with_reducible exact la_nil | with_reducible exact fa_nil | with_reducible exact ft_non | with_reducible exact ft_bl | with_reducible exact ft_dict | ((with_reducible refine ft_str (n := 10) (x := ?x) ?h); (case h => exact And.intro rfl (by decide))) | ((with_reducible refine ft_int (i := ?i) ?h); (case h => decide))
  | ((with_reducible refine ft_var (v := ?v) (m := ?m) (n := ?n) ?h ?f); (case h => exact rfl); (case f => assumption))
  | ((with_reducible refine fa_cons (m1 := ?a) (n1 := ?b) (m2 := ?c) (n2 := ?d) ?f ?g); (case f => walk_at "ft"); (case g => walk_at "ft"))
  | ((with_reducible refine ft_tup (m := ?m) (n := ?n) ?f ?h); (case f => walk_at "ft"); (case h => walk_at "bd"))
  | ((with_reducible refine ft_lst (m := ?m) (n := ?n) ?f ?h); (case f => walk_at "ft"); (case h => walk_at "bd"))
  | ((with_reducible refine la_cons (m1 := ?a) (n1 := ?b) (B := ?c) ?f ?g ?h ?i); (case f => walk_at "ft"); (case h => walk_at "bd"); (case i => walk_at "bd"); (case g => walk_at "ft"))
  | ((with_reducible refine lt_var (v := ?v) (m := ?m) (n := ?n) (B := ?b) ?h ?f); (case h => exact rfl); (case f => assumption))
  | ((with_reducible refine lt_add (B1 := ?a) (B2 := ?b) ?f ?g ?h); (case f => walk_at "ft"); (case g => walk_at "ft"); (case h => walk_at "bd"))
  | ((with_reducible refine ft_addsv (x := ?x) (m := ?m) (n := 10) ?h ?s ?a ?z); (case h => exact rfl); (case s => assumption); (case a => exact And.intro rfl (by decide)); (case z => decide))
  | ((with_reducible refine lt_lst ?f ?h); (case f => walk_at "ft"); (case h => walk_at "bd")))
section
variable {P : Program} {w : World} {K : PySem.W.Frag} {mg : Str → Option Value} {base : Heap} {k : Nat}
/-- no mark -/
def noM (xs : List Str) : V → Bool
  | .str x => !(x == "is" || xs.contains x)
  | _ => true
theorem noM_all {xs : List Str} : ∀ {vs : List V} {ds : List PyData} {G : Hp}, DtL K G vs ds → (vs.filter (noM xs)).isEmpty = ds.all (isM xs)
  | _, _, _, .nil => rfl
  | _, _, _, .cons (d := d) h t => by
    have ih := noM_all (xs := xs) t
    rw [List.all_cons, ← ih]
    cases h with
    | str x =>
      rw [List.filter_cons]
      show (if (!(x == "is" || xs.contains x)) = true then _ else _ : List V).isEmpty = ((x == "is" || xs.contains x) && _)
      cases (x == "is" || xs.contains x) <;> rfl
    | _ => rfl
def noL (ys : List Str) : V → Bool
  | .int i => !ltS ys i.toNat
  | _ => false
theorem noL_all {ys : List Str} {l : List Nat} : ((l.map fun (i : Nat) => V.int (i : Int)).filter (noL ys)).isEmpty = l.all (ltS ys) := by
  induction l with
  | nil => rfl
  | cons i l ih =>
    rw [List.map_cons, List.filter_cons, List.all_cons, ← ih]
    show (if (!ltS ys (i : Int).toNat) = true then _ else _ : List V).isEmpty = _
    rw [Int.toNat_natCast]
    cases ltS ys i <;> rfl
abbrev s__law_marks_due : Stmt := top 27
theorem sc__law_marks_due : FnScope ["names", "value", "mark", "k"] ["names", "value"] (defScope s__law_marks_due) := ⟨rfl, rfl, rfl, by decide +kernel, rfl, by decide +kernel, by decide +kernel⟩
def sp_md (K : PySem.W.Frag) : Sp := fun vs H Q _ => ∃ (G : Hp) (R : List (Addr × HO)) (a : Addr) (xs : List Str) (v : V) (d : PyData), vs = [.ref a, v] ∧ Own G H R ∧ (SqL K G a (xs.map V.str) ∨ SqT K G a (xs.map V.str)) ∧ Dt K G v d ∧ d.weight ≤ 100000 ∧ ∀ (G' H' : Hp), Same G G' → Own G' H' R → Q (.bl (mdB xs d)) H'
theorem ok_md {f : Addr} {fd : FuncData} (F : Fun K "_law_marks_due" "_law_marks_due" s__law_marks_due f fd) (B : Bt mg) : FnG P w K mg base (k + 1) f fd ["names", "value"] (sp_md K) := by
  refine fnG_of F sc__law_marks_due (fun vs H Q E h => ?_) (fun cdv A outer s H vs Q E r h => ?_)
  · obtain ⟨_, _, a, xs, v, d, rfl, _⟩ := h
    rfl
  · obtain ⟨G, R, a, xs, v, d, rfl, O, ha, hv, hw, q⟩ := h
    refine ⟨_, (pss_cons (ps_if (PW.pt (pw_or (pt_not (pt_truK (K := K) rfl (pe_callB (cIsiK (K := K) rfl) (by rfl) B.isinstance (by decide +kernel) (pa_cons (pv 1) (pa_cons (pe_bltn (v := .ty "tuple") (u := .type "tuple") (by rfl) B.tuple (by decide +kernel) rfl) pa_nil))))) (pw_or1 (pt_cmpR (oEqK (K := K) rfl r) (pe_callB (cLenK (K := K) rfl) (by rfl) B.len (by decide +kernel) (pa_cons (pv 1) pa_nil)) pe_int (nomark _)))))
       (pss_one (ps_ret pe_bl))
       pss_nil)
       (pss_cons (ps_if (pt_cmpR (oNeK (K := K) rfl r) (pe_lc (own := [("mark", 2)]) rfl sc__law_marks_due.nd (pi_sqK (K := K) rfl (pv 1)) (blkOk_by (N := ["names", "value", "mark", "k"]) (sc := defScope s__law_marks_due) (by decide +kernel)) (fun _ _ _ _ _ => (pg_name (i := 2) sc__law_marks_due.nd rfl (Or.inl rfl))) (fun _ _ _ _ _ => (pts_one (PW.pt (pw_or (pt_not (pt_truK (K := K) rfl (pe_callB (cIsiK (K := K) rfl) (by rfl) B.isinstance (by decide +kernel) (pa_cons (pv 2) (pa_cons (pe_bltn (v := .ty "str") (u := .type "str") (by rfl) B.str (by decide +kernel) rfl) pa_nil))))) (pw_or1 (PW.pt (pw_and (pt_cmpR (oNeK (K := K) rfl r) (pv 2) pe_str (nomark _)) (pw_and1 (pt_cmpR (oNinK (K := K) rfl) (pv 2) (pv 0) (by rfl)))))))))) (fun _ _ _ _ _ => (pv 2))) (d_lst pa_nil) (nomark _))
       (pss_one (ps_ret pe_bl))
       pss_nil)
       (pss_one (ps_ret (pe_cmpR (oEqK (K := K) rfl r) (pe_lc (own := [("k", 3)]) rfl sc__law_marks_due.nd (pi_range1 (by rfl) B.range (pa_cons (pe_op op_sub (pe_callB (cLenK (K := K) rfl) (by rfl) B.len (by decide +kernel) (pa_cons (pv 1) pa_nil)) pe_int) pa_nil)) (blkOk_by (N := ["names", "value", "mark", "k"]) (sc := defScope s__law_marks_due) (by decide +kernel)) (fun _ _ _ _ _ => (pg_name (i := 3) sc__law_marks_due.nd rfl (Or.inl rfl))) (fun _ _ _ _ _ => (pts_one (pt_not (pt_cmpR oLt (pe_ix (ixK (K := K) rfl) (pv 1) (pv 3) (fun _ _ => rfl)) (pe_ix (ixK (K := K) rfl) (pv 1) (pe_op (oAddK (K := K) rfl) (pv 3) pe_int) (fun _ _ => rfl)) (nomark _))))) (fun _ _ _ _ _ => (pv 3))) (d_lst pa_nil) (nomark _)))))), ?_⟩
    try dsimp only [cxOf]
    refine x_start (σ' := [some _, some _, none, none]) rfl ?_
    walk_at "s"
    refine x_isiT (O.dt hv) ?_
    walk_at "s"
    cases hv with
    | tup h t =>
      rename_i p vs ds
      have lw : ds.length ≤ 100000 := Nat.le_trans len_wt (by simpa only [PyData.weight] using hw)
      refine ite_f ?_
      walk_at "s"
      refine x_lent (O.set h) ?_
      walk_at "s"
      refine x_eq rfl ?_
      walk_at "s"
      rw [int_eq]
      refine ite_b (fun c => ?_) (fun c => ?_)
      · have hz : vs = [] := List.eq_nil_of_length_eq_zero (by have := of_decide_eq_true c; omega)
        subst hz
        cases t
        walk_at "s"
        exact q G H (Same.refl _) O
      have hne : ds ≠ [] := fun z => by subst z; cases t; exact absurd c (by decide)
      have hemp : ds.isEmpty = false := by cases ds with
        | nil => exact absurd rfl hne
        | cons _ _ => rfl
      walk_at "s"
      refine x_sqT (O.set h) ?_
      refine lc_filt (by walk_at "n") walk_tup (fun _ _ _ _ _ y => y) O (by rw [t.length]; omega) (noM xs) (fun G' H' D acc s' O' => O'.set (same_t s' h)) ?_ ?_
      · rintro i x G' H' D acc hi ex s' O' kT kF
        obtain ⟨di, edi⟩ : ∃ d, ds[i]? = some d := ⟨ds[i]'(by rw [← t.length]; exact hi), List.getElem?_eq_getElem _⟩
        obtain ⟨vi, evi, hvi⟩ := t.get i edi
        rw [ex] at evi
        cases evi
        walk_at "s"
        refine x_isiS (O'.dt (hvi.mono s')) ?_
        walk_at "s"
        cases hvi with
        | str x =>
          refine ite_f ?_
          walk_at "s"
          refine x_ne rfl ?_
          walk_at "s"
          rw [str_eq]
          refine ite_b (fun c1 => ?_) (fun c1 => ?_)
          · have c2 : (x == Str.ofString "is") = false := by cases hb : (x == Str.ofString "is"); rfl; rw [hb] at c1; exact absurd c1 (by decide)
            walk_at "s"
            refine x_ninS (Own.sq O' (sq_same s' ha)) ?_
            walk_at "s"
            refine ite_b (fun c3 => ?_) (fun c3 => ?_)
            · refine kT _ _ _ (Same.refl _) O' ?_ rfl
              show (!((x == Str.ofString "is") || xs.contains x)) = true
              rw [c2, Bool.false_or]
              exact c3
            · refine kF _ _ (Same.refl _) O' ?_
              show (!((x == Str.ofString "is") || xs.contains x)) = false
              rw [c2, Bool.false_or]
              exact c3
          · have c2 : (x == Str.ofString "is") = true := by cases hb : (x == Str.ofString "is"); rw [hb] at c1; exact absurd c1 (by decide); rfl
            refine ite_f (kF _ _ (Same.refl _) O' ?_)
            show (!((x == Str.ofString "is") || xs.contains x)) = false
            rw [c2]
            rfl
        | _ => exact ite_t (ite_t (kT _ _ _ (Same.refl _) O' rfl rfl))
      intro G1 H1 p1 s1 O1 e1
      walk_at "s"
      refine ⟨by decide, x_fix O1 fun p2 G2 H2 s2 O2 e2 => ?_⟩
      refine x_neN (SqL.of (O2.sub _ _ (s2 _ _ e1))) (SqL.of (O2.sub _ _ e2)) ?_
      rw [noM_all t]
      walk_at "s"
      refine ite_b (fun c1 => ?_) (fun c1 => ?_)
      · have c2 : ds.all (isM xs) = false := by cases hb : ds.all (isM xs); rfl; rw [hb] at c1; exact absurd c1 (by decide)
        have z := q G2 H2 (s1.trans s2) O2
        simp only [mdB, hemp, c2, Bool.not_false, Bool.true_and, Bool.and_false, Bool.false_and] at z
        walk_at "s"
        exact z
      · have c2 : ds.all (isM xs) = true := by cases hb : ds.all (isM xs); rw [hb] at c1; exact absurd c1 (by decide); rfl
        have s12 := s1.trans s2
        have ev := strs_isM t c2
        generalize hys : ds.map stO = ys at ev
        have ly : ys.length = ds.length := by rw [← hys, List.length_map]
        subst ev
        walk_at "s"
        refine x_lent (O2.set (same_t s12 h)) ?_
        walk_at "s"
        rw [List.length_map]
        refine x_rg (by omega) (by omega) ?_
        have en : ((ys.length : Int) - 1).toNat = ys.length - 1 := by omega
        rw [en]
        have lr : ((List.range (ys.length - 1)).map fun (i : Nat) => V.int (i : Int)).length = ys.length - 1 := by rw [List.length_map, List.length_range]
        refine lc_filt (xs := (List.range (ys.length - 1)).map fun (i : Nat) => V.int (i : Int)) (by walk_at "n") (by rw [lr]; exact walk_range) ?_ O2 (by rw [lr]; omega) (noL ys) (fun _ _ _ _ _ _ => True.intro) ?_ ?_
        · rintro i H x H' hi ⟨rfl, rfl⟩
          rw [lr] at hi
          exact ⟨rfl, by rw [List.getElem?_map, List.getElem?_range hi]; show some (V.int (i : Int)) = some (V.int (0 + (i : Int))); rw [Int.zero_add]⟩
        · rintro i x G' H' D acc hi ex s' O' kT kF
          rw [lr] at hi
          rw [List.getElem?_map, List.getElem?_range hi] at ex
          obtain rfl : V.int (i : Int) = x := by simpa using ex
          walk_at "s"
          have h0 : i < ys.length := by omega
          have h1 : i + 1 < ys.length := by omega
          have hs := same_t s' (same_t s12 h)
          refine x_ixt (v := .str ys[i]) (O'.set hs) (atI_nat (by rw [List.getElem?_map, List.getElem?_eq_getElem h0]; rfl)) ?_
          walk_at "s"
          refine x_ixt (v := .str ys[i + 1]) (O'.set hs) (atI_nat (j := i + 1) (by rw [List.getElem?_map, List.getElem?_eq_getElem h1]; rfl)) ?_
          walk_at "s"
          have el : ltS ys i = decide (ys[i].cps.toList < ys[i + 1].cps.toList) := by
            unfold ltS
            rw [List.getD_eq_getElem?_getD, List.getD_eq_getElem?_getD, List.getElem?_eq_getElem h0, List.getElem?_eq_getElem h1]
            rfl
          rw [← el]
          refine ite_b (fun c3 => ?_) (fun c3 => ?_)
          · refine kT _ _ _ (Same.refl _) O' ?_ rfl
            show (!ltS ys (i : Int).toNat) = true
            rw [Int.toNat_natCast]
            exact c3
          · refine kF _ _ (Same.refl _) O' ?_
            show (!ltS ys (i : Int).toNat) = false
            rw [Int.toNat_natCast]
            exact c3
        intro G3 H3 p3 s3 O3 e3
        walk_at "s"
        refine ⟨by decide, x_fix O3 fun p4 G4 H4 s4 O4 e4 => ?_⟩
        refine x_eqN (SqL.of (O4.sub _ _ (s4 _ _ e3))) (SqL.of (O4.sub _ _ e4)) ?_
        rw [noL_all]
        have z := q G4 H4 ((s12.trans s3).trans s4) O4
        simp only [mdB, hemp, c2, Bool.not_false, Bool.true_and] at z
        rw [hys] at z
        exact z
    | _ =>
      refine ite_t ?_
      walk_at "s"
      exact q G H (Same.refl _) O
theorem dpL_eq {xs ts : List Str} : ∀ {ds : List PyData}, dpL xs ts ds = ds.map (dp xs ts)
  | [] => rfl
  | d :: ds => by rw [dpL, dpL_eq, List.map_cons]
theorem bl_int {b : Bool} : (if b = true then (1 : Int) else 0) = ((if b = true then (1 : Nat) else 0 : Nat) : Int) := by cases b <;> rfl
end
end M74
set_option maxHeartbeats 4000000
namespace M74
open PySem PySem.Spec PyProof.Rows L2 G
local macro_rules | `(tactic| walk_at "hp") => `(tactic| first | assumption | exact Own.at0 (by assumption) | exact Own.at1 (by assumption) | exact Own.at2 (by assumption) | exact Own.at3 (by assumption) | exact Own.sub (by assumption) _ _ (by assumption) | exact upd_same)
local macro_rules | `(tactic| walk_at "hl") => `(tactic| first | assumption | exact SqL.of (by walk_at "hp") | exact Own.seq (by assumption) (by assumption) | exact Own.seq (by assumption) (SqL.of (by assumption)))
local macro_rules | `(tactic| walk_at "ht") => `(tactic| first | assumption | exact SqT.of (by walk_at "hp") | exact Own.set (by assumption) (by assumption) | exact Own.set (by assumption) (SqT.of (by assumption)))
local macro_rules | `(tactic| walk_at "n") => `(tactic| (intros; (try dsimp only [List.set, wipe, List.map, List.set_cons_succ, List.set_cons_zero]); (try exact rfl)))
local macro_rules | `(tactic| walk_at "n1") => `(tactic| with_reducible first | (refine x_asgN (σ' := ?s) ?hs ?q; (case hs => walk_at "n")) | (refine x_gN (σ' := ?s) ?hs ?q; (case hs => walk_at "n")) | (refine And.intro (show wipe _ _ = _ from (by walk_at "n")) ?_) | (refine x_parN (σ' := ?s) ?hs ?q; (case hs => walk_at "n")) | (refine x_par3N (σ' := ?s) ?hs ?q; (case hs => walk_at "n")))
local macro_rules | `(tactic| walk_at "v1") => `(tactic| ((with_reducible refine x_var (v := ?v) ?h ?q); (case h => first | exact rfl | assumption)))
local macro_rules | `(tactic| walk_at "s1") => `(tactic| with_reducible first | refine x_op ?_ | refine x_acons ?_ | refine x_c ?_ | refine x_call ?_ | refine x_anil ?_ | refine x_cb ?_ | refine x_seq ?_ | refine x_asgG ?_ | refine x_gC ?_ | refine x_gNl ?_ | refine x_ret ?_ | refine x_ifs ?_ | refine x_test ?_ | refine x_testb ?_ | refine x_and ?_ | refine x_or ?_ | refine x_andV ?_ | refine x_isB ?_ | refine x_add ?_ | refine x_lt ?_ | refine x_inti ?_ | refine x_isI ?_ | refine x_lst ?_ | refine x_tup ?_ | refine x_slice ?_ | refine x_nop ?_ | refine x_part ?_ | refine x_bm ?_ | refine x_sub ?_ | refine x_rI0 ?_ | refine x_drop ?_ | refine x_next ?_ | refine x_brk ?_ | refine x_cnt ?_ | refine x_par2 ?_ | refine x_par33 ?_ | refine x_un ?_ | refine x_rU ?_ | refine x_le ?_ | refine x_gt ?_ | refine x_ge ?_ | refine x_lts ?_ | refine x_intb ?_ | refine x_abs ?_ | refine x_tru ?_ | refine x_trub ?_ | refine x_trui ?_ | refine x_not ?_ | refine x_orV ?_ | refine x_notV ?_ | refine x_if ?_ | refine x_isN ?_ | refine x_isnN ?_ | refine x_dict ?_ | refine x_bm0 ?_ | refine x_revL ?_ | refine x_lcR ?_ | refine x_lcS ?_ | refine x_forR ?_ | refine x_forS ?_ | refine x_yes ?_ | refine ite_t ?_ | refine ite_f ?_)
local macro_rules | `(tactic| walk_at "s") => `(tactic| repeat (first | walk_at "v1" | walk_at "s1" | walk_at "n1"))
local macro_rules | `(tactic| walk_at "bd") => `(tactic| first | decide | omega | exact Nat.le_refl _)
local macro_rules | `(tactic| walk_at "ft") => `(tactic| first
  | with_reducible exact la_nil | with_reducible exact fa_nil | with_reducible exact ft_non | with_reducible exact ft_bl | with_reducible exact ft_dict | ((with_reducible refine ft_str (n := 10) (x := ?x) ?h); (case h => exact And.intro rfl (by decide))) | ((with_reducible refine ft_int (i := ?i) ?h); (case h => decide))
  | ((with_reducible refine ft_var (v := ?v) (m := ?m) (n := ?n) ?h ?f); (case h => exact rfl); (case f => assumption))
  | ((with_reducible refine fa_cons (m1 := ?a) (n1 := ?b) (m2 := ?c) (n2 := ?d) ?f ?g); (case f => walk_at "ft"); (case g => walk_at "ft"))
  | ((with_reducible refine ft_tup (m := ?m) (n := ?n) ?f ?h); (case f => walk_at "ft"); (case h => walk_at "bd"))
  | ((with_reducible refine ft_lst (m := ?m) (n := ?n) ?f ?h); (case f => walk_at "ft"); (case h => walk_at "bd"))
  | ((with_reducible refine la_cons (m1 := ?a) (n1 := ?b) (B := ?c) ?f ?g ?h ?i); (case f => walk_at "ft"); (case h => walk_at "bd"); (case i => walk_at "bd"); (case g => walk_at "ft"))
  | ((with_reducible refine lt_var (v := ?v) (m := ?m) (n := ?n) (B := ?b) ?h ?f); (case h => exact rfl); (case f => assumption))
  | ((with_reducible refine lt_add (B1 := ?a) (B2 := ?b) ?f ?g ?h); (case f => walk_at "ft"); (case g => walk_at "ft"); (case h => walk_at "bd"))
  | ((with_reducible refine ft_addsv (x := ?x) (m := ?m) (n := 10) ?h ?s ?a ?z); (case h => exact rfl); (case s => assumption); (case a => exact And.intro rfl (by decide)); (case z => decide))
  | ((with_reducible refine lt_lst ?f ?h); (case f => walk_at "ft"); (case h => walk_at "bd")))
section
variable {P : Program} {w : World} {K : PySem.W.Frag} {mg : Str → Option Value} {base : Heap} {k : Nat}
theorem x_ifsB {c : TT} {t u : TS} {σ : L2.St} {H : Hp} {n b1 c1 : L2.St → Hp → Prop} {r1 : VK} (b : Bool) (G : Hp) (R : List (Addr × HO)) (hc : ∀ T : Bool → Hp → Prop, (∀ G' H', Same G G' → Own G' H' R → T b H') → c σ H T)
    (h : ∀ G' H', Same G G' → Own G' H' R → if b = true then t ⟨n, r1, b1, c1⟩ σ H' else u ⟨n, r1, b1, c1⟩ σ H') : tIfS c t u ⟨n, r1, b1, c1⟩ σ H := x_ifs (hc _ h)
theorem foldr_max {l : List Nat} {a : Nat} (h : a ∈ l) (k : ∀ b ∈ l, b ≤ a) : l.foldr max 0 = a := by
  have h1 : ∀ l : List Nat, (∀ b ∈ l, b ≤ a) → l.foldr max 0 ≤ a := by
    intro l k
    induction l with
    | nil => exact Nat.zero_le _
    | cons b l ih =>
      have := ih fun c hc => k c (List.mem_cons_of_mem _ hc)
      have := k b List.mem_cons_self
      rw [List.foldr_cons]
      omega
  have h2 : ∀ l : List Nat, a ∈ l → a ≤ l.foldr max 0 := by
    intro l k
    induction l with
    | nil => exact nomatch k
    | cons b l ih =>
      rw [List.foldr_cons]
      rcases List.mem_cons.mp k with rfl | k
      · omega
      · have := ih k
        omega
  exact Nat.le_antisymm (h1 l k) (h2 l h)
abbrev s__law_deep : Stmt := top 28
theorem sc__law_deep : FnScope ["names", "tests", "value", "word", "many", "inner", "part"] ["names", "tests", "value"] (defScope s__law_deep) := ⟨rfl, rfl, rfl, by decide +kernel, rfl, by decide +kernel, by decide +kernel⟩
def sp_deep (K : PySem.W.Frag) (D : Nat) : Sp := fun vs H Q _ => ∃ (G : Hp) (R : List (Addr × HO)) (a t : Addr) (xs ts : List Str) (v : V) (d : PyData), vs = [.ref a, .ref t, v] ∧ Own G H R ∧ (SqL K G a (xs.map V.str) ∨ SqT K G a (xs.map V.str)) ∧ (SqL K G t (ts.map V.str) ∨ SqT K G t (ts.map V.str)) ∧ Dt K G v d ∧ d.weight ≤ 100000 ∧ d.depth < D ∧
  ∀ (G' H' : Hp), Same G G' → Own G' H' R → Q (.int (dp xs ts d)) H'
theorem ok_deepS {f : Addr} {fd : FuncData} (F : Fun K "_law_deep" "_law_deep" s__law_deep f fd) (B : Bt mg) (D : Nat)
    (C__law_deep : Cal P w K mg base k "_law_deep" ["names", "tests", "value"] (sp_deep K D)) (C__law_marks_due : Cal P w K mg base k "_law_marks_due" ["names", "value"] (sp_md K)) : FnG P w K mg base (k + 1) f fd ["names", "tests", "value"] (sp_deep K (D + 1)) := by
  refine fnG_of F sc__law_deep (fun vs H Q E h => ?_) (fun cdv A outer s H vs Q E r h => ?_)
  · obtain ⟨_, _, a, t, xs, ts, v, d, rfl, _⟩ := h
    rfl
  · obtain ⟨G, R, a, t, xs, ts, v, d, rfl, O, ha, ht, hv, hw, hd, q⟩ := h
    refine ⟨_, (pss_cons (ps_if (PW.pt (pw_or (pt_not (pt_truK (K := K) rfl (pe_callB (cIsiK (K := K) rfl) (by rfl) B.isinstance (by decide +kernel) (pa_cons (pv 2) (pa_cons (pe_bltn (v := .ty "tuple") (u := .type "tuple") (by rfl) B.tuple (by decide +kernel) rfl) pa_nil))))) (pw_or (pt_cmpR oLt (pe_callB (cLenK (K := K) rfl) (by rfl) B.len (by decide +kernel) (pa_cons (pv 2) pa_nil)) pe_int (nomark _)) (pw_or1 (pt_not (pt_truK (K := K) rfl (pe_callB (cIsiK (K := K) rfl) (by rfl) B.isinstance (by decide +kernel) (pa_cons (pe_ix (ixK (K := K) rfl) (pv 2) pe_int (fun _ _ => rfl)) (pa_cons (pe_bltn (v := .ty "str") (u := .type "str") (by rfl) B.str (by decide +kernel) rfl) pa_nil)))))))))
       (pss_one (ps_ret pe_int))
       pss_nil)
       (pss_cons (ps_par (i := 3) (j := 4) rfl sc__law_deep.nd rfl rfl (by decide) rfl rfl (pa_cons (pe_ix (ixK (K := K) rfl) (pv 2) pe_int (fun _ _ => rfl)) (pa_cons (pe_callB (cLenK (K := K) rfl) (by rfl) B.len (by decide +kernel) (pa_cons (pv 2) pa_nil)) pa_nil)) (by rfl))
       (pss_cons (ps_if (pt_cmpR (oInK (K := K) rfl) (pv 3) (d_lst (pa_cons pe_str (pa_cons pe_str (pa_cons pe_str pa_nil)))) (by rfl))
       (pss_one (ps_ret (pe_callTy cInt (by rfl) B.int (by decide +kernel) (pa_cons (pe_and (pe_cmpR (oEqK (K := K) rfl r) (pv 4) pe_int (nomark _)) (pe_and (pe_callB (cIsiK (K := K) rfl) (by rfl) B.isinstance (by decide +kernel) (pa_cons (pe_ix (ixK (K := K) rfl) (pv 2) pe_int (fun _ _ => rfl)) (pa_cons (pe_bltn (v := .ty "str") (u := .type "str") (by rfl) B.str (by decide +kernel) rfl) pa_nil))) (pe_one (pe_cmpR (oInK (K := K) rfl) (pe_ix (ixK (K := K) rfl) (pv 2) pe_int (fun _ _ => rfl)) (pv 1) (by rfl))))) pa_nil))))
       pss_nil)
       (pss_cons (ps_if (pt_cmpR (oEqK (K := K) rfl r) (pv 3) pe_str (nomark _))
       (pss_cons (ps_if (PW.pt (pw_or (pt_cmpR (oNeK (K := K) rfl r) (pv 4) pe_int (nomark _)) (pw_or (pt_not (pt_truK (K := K) rfl (g_call C__law_marks_due r (by rfl) passL (pa_cons (pv 0) (pa_cons (pe_ix (ixK (K := K) rfl) (pv 2) pe_int (fun _ _ => rfl)) pa_nil))))) (pw_or (pt_not (pt_truK (K := K) rfl (pe_callB (cIsiK (K := K) rfl) (by rfl) B.isinstance (by decide +kernel) (pa_cons (pe_ix (ixK (K := K) rfl) (pv 2) pe_int (fun _ _ => rfl)) (pa_cons (pe_bltn (v := .ty "str") (u := .type "str") (by rfl) B.str (by decide +kernel) rfl) pa_nil))))) (pw_or1 (pt_not (pt_truK (K := K) rfl (pe_callB (cIsiK (K := K) rfl) (by rfl) B.isinstance (by decide +kernel) (pa_cons (pe_ix (ixK (K := K) rfl) (pv 2) pe_int (fun _ _ => rfl)) (pa_cons (pe_bltn (v := .ty "str") (u := .type "str") (by rfl) B.str (by decide +kernel) rfl) pa_nil))))))))))
       (pss_one (ps_ret pe_int))
       pss_nil)
       (pss_one (ps_ret (pe_callTy cInt (by rfl) B.int (by decide +kernel) (pa_cons (pe_and (pe_cmpR (oInK (K := K) rfl) (pe_ix (ixK (K := K) rfl) (pv 2) pe_int (fun _ _ => rfl)) (d_lst (pa_cons pe_str (pa_cons pe_str pa_nil))) (by rfl)) (pe_one (pe_cmpR (oInK (K := K) rfl) (pe_ix (ixK (K := K) rfl) (pv 2) pe_int (fun _ _ => rfl)) (pv 1) (by rfl)))) pa_nil)))))
       pss_nil)
       (pss_cons (ps_if (PW.pt (pw_or (PW.pt (pw_and (pt_cmpR (oInK (K := K) rfl) (pv 3) (d_lst (pa_cons pe_str (pa_cons pe_str pa_nil))) (by rfl)) (pw_and1 (pt_cmpR (oEqK (K := K) rfl r) (pv 4) pe_int (nomark _))))) (pw_or1 (PW.pt (pw_and (pt_cmpR (oEqK (K := K) rfl r) (pv 3) pe_str (nomark _)) (pw_and1 (pt_cmpR (oEqK (K := K) rfl r) (pv 4) pe_int (nomark _))))))))
       (pss_cons (ps_setLc (i := 5) (own := [("part", 6)]) rfl sc__law_deep.nd rfl rfl (sw_true rfl rfl rfl (by decide +kernel)) (pi_sqK (K := K) rfl (pe_slice (oSlK (K := K) rfl) (pv 2) (po_some pe_int) po_none)) (blkOk_by (N := ["names", "tests", "value", "word", "many", "inner", "part"]) (sc := defScope s__law_deep) (by decide +kernel)) (fun _ _ _ _ _ => (pg_name (i := 6) sc__law_deep.nd rfl (Or.inl rfl))) (fun _ _ _ _ _ => pts_nil) (fun _ _ _ _ _ => (g_call C__law_deep r (by rfl) passL (pa_cons (pv 0) (pa_cons (pv 1) (pa_cons (pv 6) pa_nil))))))
       (pss_one (ps_ret (pe_ifExp (pt_cmpR oGt (pe_callB (cMinK (K := K) rfl rfl) (by rfl) B.min (by decide +kernel) (pa_cons (pv 5) pa_nil)) pe_int (nomark _)) (pe_op (oAddK (K := K) rfl) pe_int (pe_callB (cMaxK (K := K) rfl rfl) (by rfl) B.max (by decide +kernel) (pa_cons (pv 5) pa_nil))) pe_int))))
       pss_nil)
       (pss_one (ps_ret pe_int))))))), ?_⟩
    try dsimp only [cxOf]
    refine x_start (σ' := [some _, some _, some _, none, none, none, none]) rfl ?_
    walk_at "s"
    refine x_isiT (O.dt hv) ?_
    walk_at "s"
    have no : dp xs ts d = 0 → ∀ (G' H' : Hp), Same G G' → Own G' H' R → Q (.int 0) H' := fun e G' H' s' O' => by
      have z := q G' H' s' O'
      rw [e] at z
      exact z
    cases hv with
    | tup h tt =>
      rename_i p vs ds
      refine ite_f ?_
      walk_at "s"
      refine x_lent (O.set h) ?_
      walk_at "s"
      cases tt with
      | nil =>
        refine ite_t ?_
        walk_at "s"
        exact no (by simp only [dp]) G H (Same.refl _) O
      | cons h0 tt =>
        rename_i v0 vs d0 ds
        have lv : (v0 :: vs).length = ds.length + 1 := by rw [List.length_cons, tt.length]
        rw [lv]
        simp only [PyData.weight, PyData.weightAll] at hw
        simp only [PyData.depth, PyData.depthAll] at hd
        refine ite_b (fun c => ?_) (fun c => ?_)
        · have c1 : ds.length = 0 := by have := of_decide_eq_true c; omega
          obtain rfl := List.eq_nil_of_length_eq_zero c1
          walk_at "s"
          refine no ?_ G H (Same.refl _) O
          cases h0 <;> simp [dp]
        have c1 : ds.length ≠ 0 := by have := of_decide_eq_false c; omega
        walk_at "s"
        refine x_ixt (i := 0) (O.set h) at_0 ?_
        refine x_isiS (O.dt h0) ?_
        walk_at "s"
        cases h0 with
        | str wd =>
          refine ite_f ?_
          walk_at "s"
          refine x_ixt (i := 0) (O.set h) at_0 ?_
          walk_at "s"
          refine x_lent (O.set h) ?_
          rw [lv]
          walk_at "s"
          have hall := DtL.cons (.str wd : Dt K G (.str wd) (.str wd)) tt
          have lh : (V.str wd :: vs).length = ds.length + 1 := lv
          refine ⟨by decide, x_fix O fun p1 G1 H1 s1 O1 e1 => ?_⟩
          refine x_inS (ts := wAsked) (.inl (SqL.of (O1.sub _ _ e1))) ?_
          walk_at "s"
          have leaf : ∀ c : Prop, ∀ [Decidable c], dp xs ts (.tuple (.str wd :: ds)) = (if c then 1 else 0) → ∀ (b : Bool), (b = true ↔ c) → ∀ (G' H' : Hp), Same G G' → Own G' H' R → Q (.int (if b = true then 1 else 0)) H' := fun c _ e b hb G' H' s' O' => by
            have z := q G' H' s' O'
            rw [e] at z
            by_cases hc : c
            · rw [if_pos hc] at z
              rw [if_pos (hb.mpr hc)]
              exact z
            · rw [if_neg hc] at z
              rw [if_neg (fun y => hc (hb.mp y))]
              exact z
          refine ite_b (fun ca => ?_) (fun ca => ?_)
          · have ed : dp xs ts (.tuple (.str wd :: ds)) = (if ds.length = 1 ∧ isA ts (ds.getD 0 .none) = true then 1 else 0) := by
              simp only [dp]
              rw [if_neg c1, if_pos ca]
            walk_at "s"
            refine x_eq rfl ?_
            rw [int_eq]
            walk_at "s"
            refine ite_b (fun c2 => ?_) (fun c2 => ?_)
            · have c3 : ds.length = 1 := by have := of_decide_eq_true c2; omega
              obtain ⟨v1, ev1, hv1⟩ := DtL.at_ hall (i := 1) (by rw [List.length_cons]; omega)
              have hs := O1.set (same_t s1 h)
              walk_at "s"
              refine x_ixt hs ev1 ?_
              refine x_isiS (O1.dt (hv1.mono s1)) ?_
              walk_at "s"
              generalize hg : (PyData.str wd :: ds).getD 1 .none = d1 at hv1
              have hg' : ds.getD 0 .none = d1 := hg
              cases hv1 with
              | str x =>
                refine ite_t ?_
                walk_at "s"
                refine x_ixt hs ev1 ?_
                walk_at "s"
                refine x_inS (Own.sq O1 (sq_same s1 ht)) ?_
                walk_at "s"
                exact leaf _ ed _ (by rw [hg']; exact ⟨fun z => ⟨c3, z⟩, fun z => z.2⟩) G1 H1 s1 O1
              | _ =>
                refine ite_f ?_
                walk_at "s"
                exact leaf _ ed false (by rw [hg']; exact ⟨fun z => (nomatch z), fun z => absurd z.2 Bool.false_ne_true⟩) G1 H1 s1 O1
            · walk_at "s"
              exact leaf _ ed false ⟨fun z => (nomatch z), fun z => by have := of_decide_eq_false c2; omega⟩ G1 H1 s1 O1
          · walk_at "s"
            refine x_eq rfl ?_
            rw [str_eq]
            walk_at "s"
            refine ite_b (fun cs => ?_) (fun cs => ?_)
            · have ed : dp xs ts (.tuple (.str wd :: ds)) = (if ds.length = 3 ∧ mdB xs (ds.getD 0 .none) = true ∧ isA wEnds (ds.getD 1 .none) = true ∧ isA ts (ds.getD 2 .none) = true then 1 else 0) := by
                simp only [dp]
                rw [if_neg c1, if_neg (by rw [ca]; exact Bool.false_ne_true), if_pos cs]
              have zero : ¬ (ds.length = 3 ∧ mdB xs (ds.getD 0 .none) = true ∧ isA wEnds (ds.getD 1 .none) = true ∧ isA ts (ds.getD 2 .none) = true) → ∀ (G' H' : Hp), Same G G' → Own G' H' R → Q (.int 0) H' := fun e => no (by rw [ed, if_neg e])
              walk_at "s"
              refine x_ne rfl ?_
              rw [int_eq]
              walk_at "s"
              refine ite_b (fun c2 => ?_) (fun c2 => ?_)
              · have c3 : ¬ ds.length = 3 := fun z => by rw [z] at c2; exact absurd c2 (by decide)
                walk_at "s"
                exact zero (fun z => c3 z.1) G1 H1 s1 O1
              have c3 : ds.length = 3 := Classical.byContradiction fun z => by rw [decide_eq_false (by omega)] at c2; exact absurd c2 (by decide)
              obtain ⟨v1, ev1, hv1⟩ := DtL.at_ hall (i := 1) (by rw [List.length_cons]; omega)
              obtain ⟨v2, ev2, hv2⟩ := DtL.at_ hall (i := 2) (by rw [List.length_cons]; omega)
              obtain ⟨v3, ev3, hv3⟩ := DtL.at_ hall (i := 3) (by rw [List.length_cons]; omega)
              walk_at "s"
              refine x_ixt (O1.set (same_t s1 h)) ev1 ?_
              have w1 : (ds.getD 0 .none).weight ≤ 100000 := by
                rw [List.getD_eq_getElem?_getD, List.getElem?_eq_getElem (show 0 < ds.length by omega)]
                have := wt_mem (List.getElem_mem (show 0 < ds.length by omega))
                show (ds[0]).weight ≤ _
                omega
              refine ⟨G1, R, a, xs, v1, _, rfl, O1, sq_same s1 ha, hv1.mono s1, w1, fun G2 H2 s2 O2 => ?_⟩
              have s12 := s1.trans s2
              walk_at "s"
              refine ite_b (fun c4 => ?_) (fun c4 => ?_)
              · walk_at "s"
                refine zero (fun z => ?_) G2 H2 s12 O2
                rw [show mdB xs ((PyData.str wd :: ds).getD 1 .none) = true from z.2.1] at c4
                exact absurd c4 (by decide)
              have c5 : mdB xs (ds.getD 0 .none) = true := by
                cases hb : mdB xs ((PyData.str wd :: ds).getD 1 .none)
                · rw [hb] at c4
                  exact absurd c4 (by decide)
                · exact hb
              have hs := O2.set (same_t s12 h)
              walk_at "s"
              refine x_ixt hs ev2 ?_
              refine x_isiS (O2.dt (hv2.mono s12)) ?_
              walk_at "s"
              generalize hg2 : (PyData.str wd :: ds).getD 2 .none = d2 at hv2
              have hg2' : ds.getD 1 .none = d2 := hg2
              generalize hg3 : (PyData.str wd :: ds).getD 3 .none = d3 at hv3
              have hg3' : ds.getD 2 .none = d3 := hg3
              cases hv2 with
              | str x2 =>
                refine ite_f ?_
                walk_at "s"
                refine x_ixt hs ev3 ?_
                refine x_isiS (O2.dt (hv3.mono s12)) ?_
                walk_at "s"
                cases hv3 with
                | str x3 =>
                  refine ite_f ?_
                  walk_at "s"
                  refine x_ixt hs ev2 ?_
                  walk_at "s"
                  refine ⟨by decide, x_fix O2 fun p3 G3 H3 s3 O3 e3 => ?_⟩
                  refine x_inS (ts := wEnds) (.inl (SqL.of (O3.sub _ _ e3))) ?_
                  walk_at "s"
                  have s13 := s12.trans s3
                  refine ite_b (fun c6 => ?_) (fun c6 => ?_)
                  · walk_at "s"
                    refine x_ixt (O3.set (same_t s13 h)) ev3 ?_
                    walk_at "s"
                    refine x_inS (Own.sq O3 (sq_same s13 ht)) ?_
                    walk_at "s"
                    exact leaf _ ed _ (by rw [hg2', hg3']; exact ⟨fun z => ⟨c3, c5, c6, z⟩, fun z => z.2.2.2⟩) G3 H3 s13 O3
                  · walk_at "s"
                    exact leaf _ ed false (by rw [hg2']; exact ⟨fun z => (nomatch z), fun z => absurd (z.2.2.1.symm.trans c6) (by decide)⟩) G3 H3 s13 O3
                | _ =>
                  refine ite_t ?_
                  walk_at "s"
                  exact zero (fun z => by rw [hg3'] at z; exact absurd z.2.2.2 Bool.false_ne_true) G2 H2 s12 O2
              | _ =>
                refine ite_t ?_
                walk_at "s"
                exact zero (fun z => by rw [hg2'] at z; exact absurd z.2.2.1 Bool.false_ne_true) G2 H2 s12 O2
            · have hp : (wEnds.length = 2) := rfl
              refine x_next (x_seq (x_ifsB (decide (ptN wd ≠ 0 ∧ ds.length = ptN wd)) G1 R (fun T k => ?_) fun G2 H2 s2 O2 => ?_))
              · have fin : ∀ (b : Bool) (G' H' : Hp), (b = true ↔ (ptN wd ≠ 0 ∧ ds.length = ptN wd)) → Same G1 G' → Own G' H' R → T b H' := fun b G' H' hb s' O' => by
                  rw [show b = decide (ptN wd ≠ 0 ∧ ds.length = ptN wd) by rw [Bool.eq_iff_iff, decide_eq_true_eq]; exact hb]
                  exact k G' H' s' O'
                walk_at "s"
                refine ⟨by decide, x_fix O1 fun p3 G3 H3 s3 O3 e3 => ?_⟩
                refine x_inS (ts := ["both", "either"]) (.inl (SqL.of (O3.sub _ _ e3))) ?_
                walk_at "s"
                have e2 : ∀ b : Bool, (([Str.ofString "both", Str.ofString "either"] : List Str).contains wd) = b → (wd == Str.ofString "both" || wd == Str.ofString "either") = b := fun b z => by
                  rw [← z]
                  simp only [List.contains_cons, List.contains_nil, Bool.or_false]
                refine ite_b (fun c2 => ?_) (fun c2 => ?_)
                · have p2 : ptN wd = 2 := by unfold ptN; rw [if_pos (e2 _ c2)]
                  walk_at "s"
                  refine x_eq rfl ?_
                  rw [int_eq]
                  walk_at "s"
                  refine ite_b (fun c3 => ?_) (fun c3 => ?_)
                  · exact fin true G3 H3 ⟨fun _ => by rw [p2]; have := of_decide_eq_true c3; exact ⟨by decide, by omega⟩, fun _ => rfl⟩ s3 O3
                  · walk_at "s"
                    refine x_eq rfl ?_
                    rw [str_eq]
                    walk_at "s"
                    refine ite_b (fun c4 => ?_) (fun c4 => ?_)
                    · exact absurd p2 (by rw [show wd = Str.ofString "not" from beq_iff_eq.mp c4]; decide +kernel)
                    · exact fin false G3 H3 ⟨fun z => (nomatch z), fun z => by rw [p2] at z; have := of_decide_eq_false c3; omega⟩ s3 O3
                · refine ite_f ?_
                  walk_at "s"
                  refine x_eq rfl ?_
                  rw [str_eq]
                  walk_at "s"
                  refine ite_b (fun c4 => ?_) (fun c4 => ?_)
                  · have p1 : ptN wd = 1 := by rw [show wd = Str.ofString "not" from beq_iff_eq.mp c4]; decide +kernel
                    walk_at "s"
                    refine x_eq rfl ?_
                    rw [int_eq]
                    walk_at "s"
                    exact fin _ G3 H3 (by rw [p1, decide_eq_true_eq]; exact ⟨fun z => ⟨by decide, by omega⟩, fun z => by omega⟩) s3 O3
                  · have p0 : ptN wd = 0 := by
                      unfold ptN
                      rw [if_neg (by rw [e2 _ c2]; exact Bool.false_ne_true), if_neg (by rw [show (wd == Str.ofString "not") = false from c4]; exact Bool.false_ne_true)]
                    exact fin false G3 H3 ⟨fun z => (nomatch z), fun z => absurd p0 z.1⟩ s3 O3
              have s12 := s1.trans s2
              have ed : dp xs ts (.tuple (.str wd :: ds)) = if ptN wd ≠ 0 ∧ ds.length = ptN wd then (if (dpL xs ts ds).all (fun n => decide (0 < n)) = true then 1 + (dpL xs ts ds).foldr max 0 else 0) else 0 := by
                simp only [dp]
                rw [if_neg c1, if_neg (by rw [ca]; exact Bool.false_ne_true), if_neg (by rw [cs]; exact Bool.false_ne_true)]
              refine ite_b (fun c2 => ?_) (fun c2 => ?_)
              · rw [if_pos (of_decide_eq_true c2)] at ed
                walk_at "s"
                refine x_tail (O2.set (same_t s12 h)) (x_fix O2 fun p3 G3 H3 s3 O3 e3 => ?_)
                walk_at "s"
                refine x_sqT (O3.set (SqT.of e3)) ?_
                have s13 := s12.trans s3
                refine lc_map (by walk_at "n") walk_tup O3 (by rw [tt.length]; have := len_wt (ds := ds); omega) (fun _ i y => ∃ d, ds[i]? = some d ∧ y = V.int (dp xs ts d)) (fun _ _ _ _ _ z => z) (fun G' H' D acc s' O' => O'.set (same_t s' (SqT.of e3))) ?_ gm_name ?_
                · rintro i x G' H' H2 D acc hi s' O' ⟨rfl, ex⟩ kk
                  obtain ⟨di, edi⟩ : ∃ d, ds[i]? = some d := ⟨ds[i]'(by rw [← tt.length]; exact hi), List.getElem?_eq_getElem _⟩
                  obtain ⟨vi, evi, hvi⟩ := tt.get i edi
                  rw [ex] at evi
                  cases evi
                  have s14 := s13.trans s'
                  have := dep_get i edi
                  have := wt_mem (List.mem_of_getElem? edi)
                  walk_at "s"
                  exact ⟨G', _, a, t, xs, ts, x, di, rfl, O', sq_same s14 ha, sq_same s14 ht, hvi.mono s14, by omega, by omega, fun G3 H3 s3 O3 => kk _ _ _ s3 O3 ⟨_, edi, rfl⟩⟩
                intro G9 H9 p9 bs s9 O9 e9 l9 r9
                have eb : bs = (ds.map fun d => (dp xs ts d : Int)).map V.int := by rw [List.map_map]; exact eq_of_ix (by rw [l9, tt.length]) r9
                rw [eb] at e9
                have hne : 0 < (ds.map fun d => (dp xs ts d : Int)).length := by rw [List.length_map]; omega
                walk_at "s"
                refine ⟨p9, _, rfl, SqL.of (O9.sub _ _ e9), hne, fun mn hm1 hm2 => ?_⟩
                walk_at "s"
                obtain ⟨dm, hdm, rfl⟩ := List.mem_map.mp hm1
                have hall' : (dpL xs ts ds).all (fun n => decide (0 < n)) = true ↔ 0 < dp xs ts dm := by
                  rw [dpL_eq, List.all_map, List.all_eq_true]
                  refine ⟨fun z => of_decide_eq_true (z dm hdm), fun z d hd => decide_eq_true ?_⟩
                  have := hm2 _ (List.mem_map.mpr ⟨d, hd, rfl⟩)
                  omega
                have z := q G9 H9 (s13.trans s9) O9
                rw [ed] at z
                refine ite_b (fun c3 => ?_) (fun c3 => ?_)
                · have c4 := of_decide_eq_true c3
                  rw [if_pos (hall'.mpr (by omega))] at z
                  walk_at "s"
                  refine ⟨p9, _, rfl, SqL.of (O9.sub _ _ e9), hne, fun mx hx1 hx2 => ?_⟩
                  obtain ⟨dx, hdx, rfl⟩ := List.mem_map.mp hx1
                  have em : (dpL xs ts ds).foldr max 0 = dp xs ts dx := by
                    rw [dpL_eq]
                    exact foldr_max (List.mem_map.mpr ⟨dx, hdx, rfl⟩) fun b hb => by
                      obtain ⟨d, hd, rfl⟩ := List.mem_map.mp hb
                      have := hx2 _ (List.mem_map.mpr ⟨d, hd, rfl⟩)
                      omega
                  rw [em] at z
                  walk_at "s"
                  rw [show (1 : Int) + (dp xs ts dx : Int) = ((1 + dp xs ts dx : Nat) : Int) by omega]
                  exact z
                · have c4 := of_decide_eq_false c3
                  rw [if_neg (fun y => c4 (by have := hall'.mp y; omega))] at z
                  walk_at "s"
                  exact z
              · rw [if_neg (of_decide_eq_false c2)] at ed
                walk_at "s"
                exact no ed G2 H2 s12 O2
        | _ =>
          refine ite_t ?_
          walk_at "s"
          exact no (by simp only [dp]) G H (Same.refl _) O
    | _ =>
      refine ite_t ?_
      walk_at "s"
      exact no (by simp only [dp]) G H (Same.refl _) O
theorem ok_deep {f : Addr} {fd : FuncData} (F : Fun K "_law_deep" "_law_deep" s__law_deep f fd) (B : Bt mg) (hm : mg "_law_deep" = some (.ref f)) (hk : PySem.W.keepIn K (.ref f) = true) (hb : Binds K fd ["names", "tests", "value"] [])
    (C__law_marks_due : Cal P w K mg base k "_law_marks_due" ["names", "value"] (sp_md K)) : ∀ D, FnG P w K mg base (k + D) f fd ["names", "tests", "value"] (sp_deep K D)
  | 0 => ⟨fun vs H Q E h => by
      obtain ⟨_, _, _, _, _, _, _, _, _, _, _, _, _, _, d0, _⟩ := h
      omega, fun A outer s H args us vs Q E r e b v h => by
      obtain ⟨_, _, _, _, _, _, _, _, _, _, _, _, _, _, d0, _⟩ := h
      omega⟩
  | D + 1 => ok_deepS F B D ⟨f, fd, ok_deep F B hm hk hb C__law_marks_due D, hm, hk, hb⟩ (C__law_marks_due.up (Nat.le_add_right k D))
end
end M74
set_option maxHeartbeats 4000000
namespace M74
open PySem PySem.Spec PyProof.Rows L2 G
local macro_rules | `(tactic| walk_at "hp") => `(tactic| first | assumption | exact Own.at0 (by assumption) | exact Own.at1 (by assumption) | exact Own.at2 (by assumption) | exact Own.at3 (by assumption) | exact Own.sub (by assumption) _ _ (by assumption) | exact upd_same)
local macro_rules | `(tactic| walk_at "hl") => `(tactic| first | assumption | exact SqL.of (by walk_at "hp") | exact Own.seq (by assumption) (by assumption) | exact Own.seq (by assumption) (SqL.of (by assumption)))
local macro_rules | `(tactic| walk_at "ht") => `(tactic| first | assumption | exact SqT.of (by walk_at "hp") | exact Own.set (by assumption) (by assumption) | exact Own.set (by assumption) (SqT.of (by assumption)))
local macro_rules | `(tactic| walk_at "n") => `(tactic| (intros; (try dsimp only [List.set, wipe, List.map, List.set_cons_succ, List.set_cons_zero]); (try exact rfl)))
local macro_rules | `(tactic| walk_at "n1") => `(tactic| with_reducible first | (refine x_asgN (σ' := ?s) ?hs ?q; (case hs => walk_at "n")) | (refine x_gN (σ' := ?s) ?hs ?q; (case hs => walk_at "n")) | (refine And.intro (show wipe _ _ = _ from (by walk_at "n")) ?_) | (refine x_parN (σ' := ?s) ?hs ?q; (case hs => walk_at "n")) | (refine x_par3N (σ' := ?s) ?hs ?q; (case hs => walk_at "n")))
local macro_rules | `(tactic| walk_at "v1") => `(tactic| ((with_reducible refine x_var (v := ?v) ?h ?q); (case h => first | exact rfl | assumption)))
local macro_rules | `(tactic| walk_at "s1") => `(tactic| with_reducible first | refine x_op ?_ | refine x_acons ?_ | refine x_c ?_ | refine x_call ?_ | refine x_anil ?_ | refine x_cb ?_ | refine x_seq ?_ | refine x_asgG ?_ | refine x_gC ?_ | refine x_gNl ?_ | refine x_ret ?_ | refine x_ifs ?_ | refine x_test ?_ | refine x_testb ?_ | refine x_and ?_ | refine x_or ?_ | refine x_andV ?_ | refine x_isB ?_ | refine x_add ?_ | refine x_lt ?_ | refine x_inti ?_ | refine x_isI ?_ | refine x_lst ?_ | refine x_tup ?_ | refine x_slice ?_ | refine x_nop ?_ | refine x_part ?_ | refine x_bm ?_ | refine x_sub ?_ | refine x_rI0 ?_ | refine x_drop ?_ | refine x_next ?_ | refine x_brk ?_ | refine x_cnt ?_ | refine x_par2 ?_ | refine x_par33 ?_ | refine x_un ?_ | refine x_rU ?_ | refine x_le ?_ | refine x_gt ?_ | refine x_ge ?_ | refine x_lts ?_ | refine x_intb ?_ | refine x_abs ?_ | refine x_tru ?_ | refine x_trub ?_ | refine x_trui ?_ | refine x_not ?_ | refine x_orV ?_ | refine x_notV ?_ | refine x_if ?_ | refine x_isN ?_ | refine x_isnN ?_ | refine x_dict ?_ | refine x_bm0 ?_ | refine x_revL ?_ | refine x_lcR ?_ | refine x_lcS ?_ | refine x_forR ?_ | refine x_forS ?_ | refine x_yes ?_ | refine ite_t ?_ | refine ite_f ?_)
local macro_rules | `(tactic| walk_at "s") => `(tactic| repeat (first | walk_at "v1" | walk_at "s1" | walk_at "n1"))
local macro_rules | `(tactic| walk_at "bd") => `(tactic| first | decide | omega | exact Nat.le_refl _)
local macro_rules | `(tactic| walk_at "ft") => `(tactic| first
  | with_reducible exact la_nil | with_reducible exact fa_nil | with_reducible exact ft_non | with_reducible exact ft_bl | with_reducible exact ft_dict | ((with_reducible refine ft_str (n := 10) (x := ?x) ?h); (case h => exact And.intro rfl (by decide))) | ((with_reducible refine ft_int (i := ?i) ?h); (case h => decide))
  | ((with_reducible refine ft_var (v := ?v) (m := ?m) (n := ?n) ?h ?f); (case h => exact rfl); (case f => assumption))
  | ((with_reducible refine fa_cons (m1 := ?a) (n1 := ?b) (m2 := ?c) (n2 := ?d) ?f ?g); (case f => walk_at "ft"); (case g => walk_at "ft"))
  | ((with_reducible refine ft_tup (m := ?m) (n := ?n) ?f ?h); (case f => walk_at "ft"); (case h => walk_at "bd"))
  | ((with_reducible refine ft_lst (m := ?m) (n := ?n) ?f ?h); (case f => walk_at "ft"); (case h => walk_at "bd"))
  | ((with_reducible refine la_cons (m1 := ?a) (n1 := ?b) (B := ?c) ?f ?g ?h ?i); (case f => walk_at "ft"); (case h => walk_at "bd"); (case i => walk_at "bd"); (case g => walk_at "ft"))
  | ((with_reducible refine lt_var (v := ?v) (m := ?m) (n := ?n) (B := ?b) ?h ?f); (case h => exact rfl); (case f => assumption))
  | ((with_reducible refine lt_add (B1 := ?a) (B2 := ?b) ?f ?g ?h); (case f => walk_at "ft"); (case g => walk_at "ft"); (case h => walk_at "bd"))
  | ((with_reducible refine ft_addsv (x := ?x) (m := ?m) (n := 10) ?h ?s ?a ?z); (case h => exact rfl); (case s => assumption); (case a => exact And.intro rfl (by decide)); (case z => decide))
  | ((with_reducible refine lt_lst ?f ?h); (case f => walk_at "ft"); (case h => walk_at "bd")))
section
variable {P : Program} {w : World} {K : PySem.W.Frag} {mg : Str → Option Value} {base : Heap} {k : Nat}
section
variable {G0 G H : Hp} {L : List (Addr × HO)} {σ : L2.St} {i m n B1 B2 : Nat} {te tf : TE} {v : V} {Q : VK} {p : Addr} {ys : List Str} {x y : Str}
theorem odd_step (hv : σ[i]? = some (some v)) (l : Ls K G m n B1 v) (s : Same G0 G) (O : Own G H L) (f : LT K G0 σ m n B2 tf) (hB : B1 + B2 ≤ 2 ^ 20) (kk : ∀ G' H' v', Same G G' → Own G' H' L → Ls K G' m n (B1 + B2) v' → Q v' H') : tOp (aAdd K) (tVar i) tf σ H Q := by
  refine x_op (x_var hv (f G H L _ s O fun G1 H1 w s1 O1 l1 => ?_))
  obtain ⟨p, xs, rfl, hp, z1, a1⟩ := l.same s1
  obtain ⟨q, ys, rfl, hq, z2, a2⟩ := l1
  refine x_addl (O1.sub _ _ hp) (O1.sub _ _ hq) (sz20 (by omega)) (x_fix O1 fun r G3 H3 s3 O3 e => kk G3 H3 _ (s1.trans s3) O3 ⟨r, _, rfl, e, by rw [List.length_append]; omega, fun y hy => ?_⟩)
  rcases List.mem_append.mp hy with hy | hy
  · exact (a1 y hy).same s3
  · exact (a2 y hy).same s3
/-- a list of short texts, and not too many -/
structure KnL (G0 : Hp) (p : Addr) (ys : List Str) : Prop where
  at_ : G0 p = some (.lst (ys.map V.str))
  few : ys.length ≤ 9
  some_ : 1 ≤ ys.length
  all : ∀ y ∈ ys, St 10 y
theorem KnL.fn (h : KnL G0 p ys) : FnL K G0 0 99 (ys.map V.str) := (FnL.strs h.all).mono (Nat.le_refl _) (by have := h.few; omega)
theorem ft_tuK (h : σ[i]? = some (some (.ref p))) (a : KnL G0 p ys) : FT K G0 σ 1 99 (tCB (aTuple K) (tCons (tVar i) tNil)) := fun G H L Q s O kk =>
  x_cb (x_acons (x_var h (x_anil (x_tupleL (SqL.of (O.sub _ _ (s _ _ a.at_))) (x_fix O fun r G1 H1 s1 O1 e => kk G1 H1 _ s1 O1 ((a.fn.same (s.trans s1)).tup (SqT.of e)))))))
theorem ft_tuR (h : σ[i]? = some (some (.ref p))) (a : KnL G0 p ys) : FT K G0 σ 1 99 (tCB (aTuple K) (tCons (aRevL K (tVar i)) tNil)) := fun G H L Q s O kk => by
  refine x_cb (x_acons (x_revL (x_var h ⟨p, _, rfl, SqL.of (O.sub _ _ (s _ _ a.at_)), x_fix O fun r G1 H1 s1 O1 e => x_anil (x_tupleL (SqL.of (O1.sub _ _ e)) (x_fix O1 fun r2 G2 H2 s2 O2 e2 => kk G2 H2 _ (s1.trans s2) O2 ?_))⟩)))
  rw [← List.map_reverse] at e2
  exact ((FnL.strs (n := 10) fun y hy => a.all y (List.mem_reverse.mp hy)).mono (Nat.le_refl _) (by rw [List.length_reverse]; have := a.few; omega)).tup (SqT.of e2)
theorem ft_lastK {g : Int → V} (hg : g 1 = .int (-1)) (h : σ[i]? = some (some (.ref p))) (a : KnL G0 p ys) : FT K G0 σ 0 10 (tOp (rIx K) (tVar i) (tUn (rU g) (tC (.int 1)))) := fun G H L Q s O kk => by
  refine x_op (x_var h (x_un (x_c (x_rU ?_))))
  rw [hg]
  have hne : ys ≠ [] := fun z => by have := a.some_; rw [z] at this; exact absurd this (by decide)
  obtain ⟨zs, z, rfl⟩ : ∃ zs z, ys = zs ++ [z] := ⟨ys.dropLast, ys.getLast hne, (List.dropLast_concat_getLast hne).symm⟩
  refine x_ixl (v := .str z) (SqL.of (O.sub _ _ (s _ _ a.at_))) (by rw [List.map_append]; exact atI_last _ _) ?_
  exact kk G H _ (Same.refl _) O (Fn.str (a.all z (by simp)))
theorem ft_ifL (h : σ[i]? = some (some (.str y))) (f : FT K G0 σ m n te) (g : FT K G0 σ m n tf) : FT K G0 σ m n (tIf (tTest (tOp aLt (tC (.str x)) (tVar i))) te tf) := fun G H L Q s O kk =>
  x_if (x_test (x_op (x_c (x_var h (x_lts (x_testb (ite_b (fun _ => f G H L Q s O kk) (fun _ => g G H L Q s O kk))))))))
end
local macro_rules | `(tactic| walk_at "ft") => `(tactic| first
  | ((with_reducible refine ft_tuK (p := ?p) (ys := ?y) ?h ?a); (case h => exact rfl); (case a => assumption))
  | ((with_reducible refine ft_tuR (p := ?p) (ys := ?y) ?h ?a); (case h => exact rfl); (case a => assumption))
  | ((with_reducible refine ft_lastK (p := ?p) (ys := ?y) ?g ?h ?a); (case g => exact rfl); (case h => exact rfl); (case a => assumption))
  | ((with_reducible refine ft_ifL (y := ?y) (m := ?m) (n := ?n) ?h ?f ?g); (case h => exact rfl); (case f => walk_at "ft"); (case g => walk_at "ft")))
abbrev s__law_odds : Stmt := top 29
theorem sc__law_odds : FnScope ["names", "t", "word", "free", "known", "first", "found"] ["names", "t", "word", "free"] (defScope s__law_odds) := ⟨rfl, rfl, rfl, by decide +kernel, rfl, by decide +kernel, by decide +kernel⟩
def sp_odds (K : PySem.W.Frag) : Sp := fun vs H Q _ => ∃ (G : Hp) (R : List (Addr × HO)) (a : Addr) (xs : List Str) (t wd free : Str), vs = [.ref a, .str t, .str wd, .str free] ∧ Own G H R ∧ Nm G a xs ∧ 1 ≤ xs.length ∧ xs.length ≤ 8 ∧ St 10 t ∧ St 10 wd ∧ St 10 free ∧
  ∀ (G' H' : Hp) (B : Nat) (v : V), Same G G' → Own G' H' R → Ls K G' 3 400 B v → B ≤ 1000 → Q v H'
theorem ok_odds {f : Addr} {fd : FuncData} (F : Fun K "_law_odds" "_law_odds" s__law_odds f fd) (B : Bt mg) : FnG P w K mg base (k + 1) f fd ["names", "t", "word", "free"] (sp_odds K) := by
  refine fnG_of F sc__law_odds (fun vs H Q E h => ?_) (fun cdv A outer s H vs Q E r h => ?_)
  · obtain ⟨_, _, a, xs, t, wd, free, rfl, _⟩ := h
    rfl
  · obtain ⟨G, R, a, xs, t, wd, free, rfl, O, ha, l0, l1, st, sw, sf, q⟩ := h
    refine ⟨_, (pss_cons (ps_par (i := 4) (j := 5) rfl sc__law_odds.nd rfl rfl (by decide) rfl rfl (pa_cons (pe_callB (cSortedK (K := K) rfl) (by rfl) B.sorted (by decide +kernel) (pa_cons (pe_op (oAddK (K := K) rfl) (pv 0) (d_lst (pa_cons pe_str pa_nil))) pa_nil)) (pa_cons (pe_ix (ixK (K := K) rfl) (pv 0) pe_int (fun _ _ => rfl)) pa_nil)) (by rfl))
       (pss_cons (ps_set (i := 6) sc__law_odds.nd rfl (Or.inl rfl) (d_lst (pa_cons (d_tup (pa_cons pe_str (pa_cons (pe_callTy (cTupleK (K := K) rfl) (by rfl) B.tuple (by decide +kernel) (pa_cons (pv 4) pa_nil)) (pa_cons pe_str (pa_cons (pv 1) pa_nil))))) (pa_cons (d_tup (pa_cons pe_str (pa_cons (d_tup (pa_cons pe_str pa_nil)) (pa_cons pe_str (pa_cons (pv 1) pa_nil))))) (pa_cons (d_tup (pa_cons pe_str (pa_cons (d_tup (pa_cons (pv 5) pa_nil)) (pa_cons pe_str (pa_cons (pv 1) pa_nil))))) pa_nil)))))
       (pss_cons (ps_set (i := 6) sc__law_odds.nd rfl (Or.inl rfl) (pe_op (oAddK (K := K) rfl) (pv 6) (d_lst (pa_cons (d_tup (pa_cons pe_str (pa_cons (d_tup pa_nil) (pa_cons pe_str (pa_cons (pv 1) pa_nil))))) (pa_cons (d_tup (pa_cons pe_str (pa_cons (pe_callTy (cTupleK (K := K) rfl) (by rfl) B.tuple (by decide +kernel) (pa_cons (d_revLK (K := K) rfl (pv 4)) pa_nil)) (pa_cons pe_str (pa_cons (pv 1) pa_nil))))) (pa_cons (d_tup (pa_cons pe_str (pa_cons (d_tup (pa_cons (pv 5) (pa_cons (pv 5) pa_nil))) (pa_cons pe_str (pa_cons (pv 1) pa_nil))))) pa_nil))))))
       (pss_cons (ps_set (i := 6) sc__law_odds.nd rfl (Or.inl rfl) (pe_op (oAddK (K := K) rfl) (pv 6) (d_lst (pa_cons (d_tup (pa_cons pe_str (pa_cons (pv 4) (pa_cons pe_str (pa_cons (pv 1) pa_nil))))) (pa_cons (d_tup (pa_cons pe_str (pa_cons (pv 5) (pa_cons pe_str (pa_cons (pv 1) pa_nil))))) (pa_cons (d_tup (pa_cons pe_str (pa_cons (d_tup (pa_cons (pv 3) pa_nil)) (pa_cons pe_str (pa_cons (pv 1) pa_nil))))) (pa_cons (d_tup (pa_cons pe_str (pa_cons pe_non (pa_cons pe_str (pa_cons (pv 1) pa_nil))))) pa_nil)))))))
       (pss_cons (ps_set (i := 6) sc__law_odds.nd rfl (Or.inl rfl) (pe_op (oAddK (K := K) rfl) (pv 6) (d_lst (pa_cons (d_tup (pa_cons pe_str (pa_cons (d_tup (pa_cons pe_str pa_nil)) (pa_cons pe_str (pa_cons (pv 1) pa_nil))))) (pa_cons (d_tup (pa_cons pe_str (pa_cons (d_tup (pa_cons pe_str pa_nil)) (pa_cons pe_str (pa_cons (pv 1) pa_nil))))) (pa_cons (d_tup (pa_cons pe_str (pa_cons (d_tup (pa_cons pe_str pa_nil)) (pa_cons pe_non (pa_cons (pv 1) pa_nil))))) pa_nil))))))
       (pss_cons (ps_set (i := 6) sc__law_odds.nd rfl (Or.inl rfl) (pe_op (oAddK (K := K) rfl) (pv 6) (d_lst (pa_cons (d_tup (pa_cons pe_str (pa_cons (d_tup (pa_cons pe_str pa_nil)) (pa_cons pe_str (pa_cons (pv 3) pa_nil))))) (pa_cons (d_tup (pa_cons pe_str (pa_cons (d_tup (pa_cons pe_str pa_nil)) (pa_cons pe_str (pa_cons pe_non pa_nil))))) (pa_cons (d_tup (pa_cons pe_str (pa_cons (d_tup (pa_cons pe_str pa_nil)) (pa_cons pe_str (pa_cons (d_lst (pa_cons (pv 1) pa_nil)) pa_nil))))) pa_nil))))))
       (pss_cons (ps_set (i := 6) sc__law_odds.nd rfl (Or.inl rfl) (pe_op (oAddK (K := K) rfl) (pv 6) (d_lst (pa_cons (d_tup (pa_cons pe_str (pa_cons (d_tup (pa_cons pe_str pa_nil)) (pa_cons pe_str pa_nil)))) (pa_cons (d_tup (pa_cons pe_str (pa_cons (d_tup (pa_cons pe_str pa_nil)) (pa_cons pe_str (pa_cons (pv 1) (pa_cons (pv 1) pa_nil)))))) (pa_cons (d_tup (pa_cons pe_str (pa_cons (d_tup (pa_cons pe_str pa_nil)) (pa_cons pe_str (pa_cons (pv 1) pa_nil))))) (pa_cons (d_tup (pa_cons pe_str pa_nil)) pa_nil)))))))
       (pss_cons (ps_set (i := 6) sc__law_odds.nd rfl (Or.inl rfl) (pe_op (oAddK (K := K) rfl) (pv 6) (d_lst (pa_cons (d_tup (pa_cons pe_str (pa_cons (pv 1) pa_nil))) (pa_cons (d_tup (pa_cons pe_str (pa_cons (pv 1) pa_nil))) (pa_cons (d_tup (pa_cons pe_str (pa_cons (pv 1) pa_nil))) (pa_cons (d_tup (pa_cons pe_str pa_nil)) (pa_cons (d_tup (pa_cons pe_str (pa_cons (pv 1) (pa_cons (pv 1) pa_nil)))) (pa_cons (d_tup (pa_cons pe_str (pa_cons (pv 3) pa_nil))) (pa_cons (d_tup (pa_cons pe_str (pa_cons pe_non pa_nil))) (pa_cons (d_tup (pa_cons pe_str (pa_cons (d_lst (pa_cons (pv 1) pa_nil)) pa_nil))) pa_nil)))))))))))
       (pss_cons (ps_set (i := 6) sc__law_odds.nd rfl (Or.inl rfl) (pe_op (oAddK (K := K) rfl) (pv 6) (d_lst (pa_cons (d_lst (pa_cons pe_str (pa_cons (pv 1) pa_nil))) (pa_cons (d_tup (pa_cons pe_str (pa_cons (d_tup (pa_cons (pv 1) pa_nil)) pa_nil))) (pa_cons (d_tup (pa_cons pe_str (pa_cons (pv 1) pa_nil))) (pa_cons (d_tup (pa_cons pe_str (pa_cons (pv 1) pa_nil))) (pa_cons (d_tup (pa_cons pe_str (pa_cons (pv 1) pa_nil))) (pa_cons (d_tup (pa_cons pe_str (pa_cons (pv 1) pa_nil))) (pa_cons (d_tup (pa_cons (pv 1) (pa_cons pe_str pa_nil))) (pa_cons (pv 1) (pa_cons (pe_op (oAddK (K := K) rfl) pe_str (pv 1)) pa_nil))))))))))))
       (pss_cons (ps_set (i := 6) sc__law_odds.nd rfl (Or.inl rfl) (pe_op (oAddK (K := K) rfl) (pv 6) (d_lst (pa_cons (d_tup (pa_cons pe_str (pa_cons (d_tup (pa_cons pe_str (pa_cons (pv 1) pa_nil))) pa_nil))) (pa_cons (d_tup (pa_cons pe_str pa_nil)) (pa_cons (d_tup (pa_cons pe_str (pa_cons (d_tup (pa_cons pe_str (pa_cons (pv 1) pa_nil))) (pa_cons (d_tup (pa_cons pe_str (pa_cons (pv 1) pa_nil))) pa_nil)))) (pa_cons (d_tup (pa_cons pe_str (pa_cons (pv 1) pa_nil))) (pa_cons (d_tup (pa_cons pe_str (pa_cons (d_lst (pa_cons pe_str (pa_cons (pv 1) pa_nil))) pa_nil))) (pa_cons (d_tup (pa_cons pe_str (pa_cons pe_non pa_nil))) pa_nil)))))))))
       (pss_cons (ps_set (i := 6) sc__law_odds.nd rfl (Or.inl rfl) (pe_op (oAddK (K := K) rfl) (pv 6) (d_lst (pa_cons (d_tup (pa_cons pe_str (pa_cons (d_tup (pa_cons pe_str (pa_cons (pv 1) pa_nil))) (pa_cons (d_tup (pa_cons pe_str (pa_cons (pv 1) pa_nil))) pa_nil)))) (pa_cons (d_tup (pa_cons pe_str (pa_cons (d_tup (pa_cons pe_str (pa_cons (pv 1) pa_nil))) pa_nil))) (pa_cons (d_tup (pa_cons pe_str (pa_cons (d_tup (pa_cons pe_str (pa_cons (pv 1) pa_nil))) (pa_cons (d_tup (pa_cons pe_str (pa_cons (pv 1) pa_nil))) (pa_cons (d_tup (pa_cons pe_str (pa_cons (pv 1) pa_nil))) pa_nil))))) pa_nil))))))
       (pss_cons (ps_set (i := 6) sc__law_odds.nd rfl (Or.inl rfl) (pe_op (oAddK (K := K) rfl) (pv 6) (d_lst (pa_cons (d_tup (pa_cons pe_str (pa_cons (d_tup (pa_cons pe_str (pa_cons (pv 1) pa_nil))) (pa_cons (d_tup (pa_cons pe_str (pa_cons (pv 3) pa_nil))) pa_nil)))) (pa_cons (d_tup (pa_cons pe_str (pa_cons (d_tup (pa_cons pe_str (pa_cons (pv 3) pa_nil))) (pa_cons (d_tup (pa_cons pe_str (pa_cons (pv 1) pa_nil))) pa_nil)))) (pa_cons (d_tup (pa_cons pe_str (pa_cons (pv 1) (pa_cons (pv 1) pa_nil)))) (pa_cons (d_tup (pa_cons (d_tup (pa_cons pe_str (pa_cons (pv 1) pa_nil))) pa_nil)) pa_nil)))))))
       (pss_cons (ps_set (i := 6) sc__law_odds.nd rfl (Or.inl rfl) (pe_op (oAddK (K := K) rfl) (pv 6) (d_lst (pa_cons (d_tup (pa_cons pe_str (pa_cons (d_lst (pa_cons (d_tup (pa_cons pe_str (pa_cons (pv 1) pa_nil))) (pa_cons (d_tup (pa_cons pe_str (pa_cons (pv 1) pa_nil))) pa_nil))) pa_nil))) (pa_cons pe_non (pa_cons pe_bl (pa_cons pe_int (pa_cons pe_int (pa_cons pe_str (pa_cons (d_lst pa_nil) (pa_cons (d_tup pa_nil) (pa_cons d_dict (pa_cons (d_lst (pa_cons pe_non pa_nil)) (pa_cons (d_tup (pa_cons pe_str (pa_cons (d_tup (pa_cons pe_str (pa_cons (pv 1) pa_nil))) (pa_cons (d_tup (pa_cons pe_str (pa_cons (pv 1) pa_nil))) pa_nil)))) pa_nil))))))))))))))
       (pss_cons (ps_set (i := 6) sc__law_odds.nd rfl (Or.inl rfl) (pe_op (oAddK (K := K) rfl) (pv 6) (d_lst (pa_cons (d_tup (pa_cons pe_str (pa_cons (pe_ifExp (pt_cmpR oLt pe_str (pv 5) (nomark _)) (d_tup (pa_cons (pv 5) (pa_cons pe_str pa_nil))) (d_tup (pa_cons pe_str (pa_cons (pv 5) pa_nil)))) (pa_cons pe_str (pa_cons (pv 1) pa_nil))))) (pa_cons (d_tup (pa_cons pe_non (pa_cons (pv 1) pa_nil))) (pa_cons (d_tup (pa_cons pe_int (pa_cons (pv 1) pa_nil))) (pa_cons (d_tup (pa_cons pe_str (pa_cons pe_int pa_nil))) (pa_cons (d_tup (pa_cons (pv 2) (pa_cons (pv 1) pa_nil))) pa_nil))))))))
       (pss_cons (ps_set (i := 6) sc__law_odds.nd rfl (Or.inl rfl) (pe_op (oAddK (K := K) rfl) (pv 6) (d_lst (pa_cons (d_tup (pa_cons pe_str (pa_cons (pv 5) pa_nil))) (pa_cons (d_tup (pa_cons pe_str (pa_cons (pe_ix (ixK (K := K) rfl) (pv 4) (pe_un un_neg pe_int) (fun _ _ => rfl)) pa_nil))) (pa_cons (d_tup (pa_cons pe_str (pa_cons (d_tup (pa_cons pe_str pa_nil)) (pa_cons pe_str (pa_cons (pv 1) pa_nil))))) (pa_cons (d_tup (pa_cons pe_str (pa_cons (d_tup (pa_cons (pv 1) pa_nil)) (pa_cons pe_str (pa_cons (pv 1) pa_nil))))) pa_nil)))))))
       (pss_one (ps_ret (pe_op (oAddK (K := K) rfl) (pv 6) (d_lst (pa_cons (d_tup (pa_cons pe_str (pa_cons (d_tup (pa_cons (d_tup (pa_cons (pv 5) pa_nil)) pa_nil)) (pa_cons pe_str (pa_cons (pv 1) pa_nil))))) (pa_cons (d_tup (pa_cons pe_str (pa_cons (d_tup (pa_cons pe_bl pa_nil)) (pa_cons pe_str (pa_cons (pv 1) pa_nil))))) (pa_cons (d_tup (pa_cons pe_str (pa_cons (d_tup (pa_cons pe_str (pa_cons (pv 1) pa_nil))) (pa_cons (d_tup (pa_cons pe_str (pa_cons (pv 1) pa_nil))) pa_nil)))) (pa_cons (d_tup (pa_cons pe_str (pa_cons (pv 2) pa_nil))) pa_nil))))))))))))))))))))))), ?_⟩
    try dsimp only [cxOf]
    refine x_start (σ' := [some _, some _, some _, some _, none, none, none]) rfl ?_
    refine x_seq ?_
    walk_at "s"
    refine ⟨by decide, x_fix O fun p1 G1 H1 s1 O1 e1 => ?_⟩
    refine x_addl (O1.sub _ _ (s1 _ _ ha.1)) (O1.sub _ _ e1) (sz20 (by rw [List.length_map]; show _ + 1 ≤ _; omega)) (x_fix O1 fun p2 G2 H2 s2 O2 e2 => ?_)
    have e2' : G2 p2 = some (.lst ((xs ++ [Str.ofString "is"]).map V.str)) := by rw [List.map_append]; exact e2
    have hx2 : ∀ x ∈ xs ++ [Str.ofString "is"], St 10 x := fun x h => by
      rcases List.mem_append.mp h with h | h
      · exact ha.2 x h
      · rw [List.mem_singleton.mp h]; exact ⟨rfl, by decide⟩
    have l2 : (xs ++ [Str.ofString "is"]).length = xs.length + 1 := List.length_append
    refine x_anil (x_sortedS (SqL.of (O2.sub _ _ e2')) (by omega) (fun zs hp _ => x_fix O2 fun p3 G3 H3 s3 O3 e3 => ?_))
    have l3 := hp.length_eq
    walk_at "s"
    obtain ⟨ea, sa⟩ := ha.at (i := 0) (by omega)
    refine x_ixl (i := 0) (SqL.of (O3.sub _ _ (s3 _ _ (s2 _ _ (s1 _ _ ha.1))))) ea ?_
    generalize xs[0] = fst at sa
    have kn : KnL G3 p3 zs := ⟨e3, by omega, by omega, fun z hz => hx2 z (hp.mem_iff.mp hz)⟩
    have f1 : Fn K G3 1 99 (.ref p3) := (kn.fn.mono (Nat.le_refl _) (Nat.le_refl _)).lst (SqL.of e3)
    have f2 : Fn K G3 0 10 (.str fst) := Fn.str sa
    have f3 : Fn K G3 0 10 (.str t) := Fn.str st
    have f4 : Fn K G3 0 10 (.str wd) := Fn.str sw
    have f5 : Fn K G3 0 10 (.str free) := Fn.str sf
    refine x_anil (x_par2 (x_seq (x_asgG (LT.go (K := K) (m := 3) (n := 400) (B := 3) ?lt O3 fun G4 H4 v s O l => ?_))))
    case lt => walk_at "ft"
    walk_at "n1"
    refine x_seq (x_asgG (odd_step (B2 := ?b0) rfl l s O ?f0 ?hb0 fun Gx Hx vx sx Ox lx => ?_))
    case f0 => walk_at "ft"
    case hb0 => decide
    replace s := s.trans sx
    replace O := Ox
    replace l := lx
    clear sx Ox lx
    walk_at "n1"
    refine x_seq (x_asgG (odd_step (B2 := ?b1) rfl l s O ?f1 ?hb1 fun Gx Hx vx sx Ox lx => ?_))
    case f1 => walk_at "ft"
    case hb1 => decide
    replace s := s.trans sx
    replace O := Ox
    replace l := lx
    clear sx Ox lx
    walk_at "n1"
    refine x_seq (x_asgG (odd_step (B2 := ?b2) rfl l s O ?f2 ?hb2 fun Gx Hx vx sx Ox lx => ?_))
    case f2 => walk_at "ft"
    case hb2 => decide
    replace s := s.trans sx
    replace O := Ox
    replace l := lx
    clear sx Ox lx
    walk_at "n1"
    refine x_seq (x_asgG (odd_step (B2 := ?b3) rfl l s O ?f3 ?hb3 fun Gx Hx vx sx Ox lx => ?_))
    case f3 => walk_at "ft"
    case hb3 => decide
    replace s := s.trans sx
    replace O := Ox
    replace l := lx
    clear sx Ox lx
    walk_at "n1"
    refine x_seq (x_asgG (odd_step (B2 := ?b4) rfl l s O ?f4 ?hb4 fun Gx Hx vx sx Ox lx => ?_))
    case f4 => walk_at "ft"
    case hb4 => decide
    replace s := s.trans sx
    replace O := Ox
    replace l := lx
    clear sx Ox lx
    walk_at "n1"
    refine x_seq (x_asgG (odd_step (B2 := ?b5) rfl l s O ?f5 ?hb5 fun Gx Hx vx sx Ox lx => ?_))
    case f5 => walk_at "ft"
    case hb5 => decide
    replace s := s.trans sx
    replace O := Ox
    replace l := lx
    clear sx Ox lx
    walk_at "n1"
    refine x_seq (x_asgG (odd_step (B2 := ?b6) rfl l s O ?f6 ?hb6 fun Gx Hx vx sx Ox lx => ?_))
    case f6 => walk_at "ft"
    case hb6 => decide
    replace s := s.trans sx
    replace O := Ox
    replace l := lx
    clear sx Ox lx
    walk_at "n1"
    refine x_seq (x_asgG (odd_step (B2 := ?b7) rfl l s O ?f7 ?hb7 fun Gx Hx vx sx Ox lx => ?_))
    case f7 => walk_at "ft"
    case hb7 => decide
    replace s := s.trans sx
    replace O := Ox
    replace l := lx
    clear sx Ox lx
    walk_at "n1"
    refine x_seq (x_asgG (odd_step (B2 := ?b8) rfl l s O ?f8 ?hb8 fun Gx Hx vx sx Ox lx => ?_))
    case f8 => walk_at "ft"
    case hb8 => decide
    replace s := s.trans sx
    replace O := Ox
    replace l := lx
    clear sx Ox lx
    walk_at "n1"
    refine x_seq (x_asgG (odd_step (B2 := ?b9) rfl l s O ?f9 ?hb9 fun Gx Hx vx sx Ox lx => ?_))
    case f9 => walk_at "ft"
    case hb9 => decide
    replace s := s.trans sx
    replace O := Ox
    replace l := lx
    clear sx Ox lx
    walk_at "n1"
    refine x_seq (x_asgG (odd_step (B2 := ?b10) rfl l s O ?f10 ?hb10 fun Gx Hx vx sx Ox lx => ?_))
    case f10 => walk_at "ft"
    case hb10 => decide
    replace s := s.trans sx
    replace O := Ox
    replace l := lx
    clear sx Ox lx
    walk_at "n1"
    refine x_seq (x_asgG (odd_step (B2 := ?b11) rfl l s O ?f11 ?hb11 fun Gx Hx vx sx Ox lx => ?_))
    case f11 => walk_at "ft"
    case hb11 => decide
    replace s := s.trans sx
    replace O := Ox
    replace l := lx
    clear sx Ox lx
    walk_at "n1"
    refine x_seq (x_asgG (odd_step (B2 := ?b12) rfl l s O ?f12 ?hb12 fun Gx Hx vx sx Ox lx => ?_))
    case f12 => walk_at "ft"
    case hb12 => decide
    replace s := s.trans sx
    replace O := Ox
    replace l := lx
    clear sx Ox lx
    walk_at "n1"
    refine x_ret (odd_step (B2 := ?b) rfl l s O ?f ?hb fun Gx Hx vx sx Ox lx => ?_)
    case f => walk_at "ft"
    case hb => decide
    exact q Gx Hx _ vx ((((s1.trans s2).trans s3).trans s).trans sx) Ox lx (by decide)
end
end M74
set_option maxHeartbeats 4000000
namespace M74
open PySem PySem.Spec PyProof.Rows L2 G
local macro_rules | `(tactic| walk_at "hp") => `(tactic| first | assumption | exact Own.at0 (by assumption) | exact Own.at1 (by assumption) | exact Own.at2 (by assumption) | exact Own.at3 (by assumption) | exact Own.sub (by assumption) _ _ (by assumption) | exact upd_same)
local macro_rules | `(tactic| walk_at "hl") => `(tactic| first | assumption | exact SqL.of (by walk_at "hp") | exact Own.seq (by assumption) (by assumption) | exact Own.seq (by assumption) (SqL.of (by assumption)))
local macro_rules | `(tactic| walk_at "ht") => `(tactic| first | assumption | exact SqT.of (by walk_at "hp") | exact Own.set (by assumption) (by assumption) | exact Own.set (by assumption) (SqT.of (by assumption)))
local macro_rules | `(tactic| walk_at "n") => `(tactic| (intros; (try dsimp only [List.set, wipe, List.map, List.set_cons_succ, List.set_cons_zero]); (try exact rfl)))
local macro_rules | `(tactic| walk_at "n1") => `(tactic| with_reducible first | (refine x_asgN (σ' := ?s) ?hs ?q; (case hs => walk_at "n")) | (refine x_gN (σ' := ?s) ?hs ?q; (case hs => walk_at "n")) | (refine And.intro (show wipe _ _ = _ from (by walk_at "n")) ?_) | (refine x_parN (σ' := ?s) ?hs ?q; (case hs => walk_at "n")) | (refine x_par3N (σ' := ?s) ?hs ?q; (case hs => walk_at "n")))
local macro_rules | `(tactic| walk_at "v1") => `(tactic| ((with_reducible refine x_var (v := ?v) ?h ?q); (case h => first | exact rfl | assumption)))
local macro_rules | `(tactic| walk_at "s1") => `(tactic| with_reducible first | refine x_op ?_ | refine x_acons ?_ | refine x_c ?_ | refine x_call ?_ | refine x_anil ?_ | refine x_cb ?_ | refine x_seq ?_ | refine x_asgG ?_ | refine x_gC ?_ | refine x_gNl ?_ | refine x_ret ?_ | refine x_ifs ?_ | refine x_test ?_ | refine x_testb ?_ | refine x_and ?_ | refine x_or ?_ | refine x_andV ?_ | refine x_isB ?_ | refine x_add ?_ | refine x_lt ?_ | refine x_inti ?_ | refine x_isI ?_ | refine x_lst ?_ | refine x_tup ?_ | refine x_slice ?_ | refine x_nop ?_ | refine x_part ?_ | refine x_bm ?_ | refine x_sub ?_ | refine x_rI0 ?_ | refine x_drop ?_ | refine x_next ?_ | refine x_brk ?_ | refine x_cnt ?_ | refine x_par2 ?_ | refine x_par33 ?_ | refine x_un ?_ | refine x_rU ?_ | refine x_le ?_ | refine x_gt ?_ | refine x_ge ?_ | refine x_lts ?_ | refine x_intb ?_ | refine x_abs ?_ | refine x_tru ?_ | refine x_trub ?_ | refine x_trui ?_ | refine x_not ?_ | refine x_orV ?_ | refine x_notV ?_ | refine x_if ?_ | refine x_isN ?_ | refine x_isnN ?_ | refine x_dict ?_ | refine x_bm0 ?_ | refine x_revL ?_ | refine x_lcR ?_ | refine x_lcS ?_ | refine x_forR ?_ | refine x_forS ?_ | refine x_yes ?_ | refine ite_t ?_ | refine ite_f ?_)
local macro_rules | `(tactic| walk_at "s") => `(tactic| repeat (first | walk_at "v1" | walk_at "s1" | walk_at "n1"))
local macro_rules | `(tactic| walk_at "bd") => `(tactic| first | decide | omega | exact Nat.le_refl _)
local macro_rules | `(tactic| walk_at "ft") => `(tactic| first
  | with_reducible exact la_nil | with_reducible exact fa_nil | with_reducible exact ft_non | with_reducible exact ft_bl | with_reducible exact ft_dict | ((with_reducible refine ft_str (n := 10) (x := ?x) ?h); (case h => exact And.intro rfl (by decide))) | ((with_reducible refine ft_int (i := ?i) ?h); (case h => decide))
  | ((with_reducible refine ft_var (v := ?v) (m := ?m) (n := ?n) ?h ?f); (case h => exact rfl); (case f => assumption))
  | ((with_reducible refine fa_cons (m1 := ?a) (n1 := ?b) (m2 := ?c) (n2 := ?d) ?f ?g); (case f => walk_at "ft"); (case g => walk_at "ft"))
  | ((with_reducible refine ft_tup (m := ?m) (n := ?n) ?f ?h); (case f => walk_at "ft"); (case h => walk_at "bd"))
  | ((with_reducible refine ft_lst (m := ?m) (n := ?n) ?f ?h); (case f => walk_at "ft"); (case h => walk_at "bd"))
  | ((with_reducible refine la_cons (m1 := ?a) (n1 := ?b) (B := ?c) ?f ?g ?h ?i); (case f => walk_at "ft"); (case h => walk_at "bd"); (case i => walk_at "bd"); (case g => walk_at "ft"))
  | ((with_reducible refine lt_var (v := ?v) (m := ?m) (n := ?n) (B := ?b) ?h ?f); (case h => exact rfl); (case f => assumption))
  | ((with_reducible refine lt_add (B1 := ?a) (B2 := ?b) ?f ?g ?h); (case f => walk_at "ft"); (case g => walk_at "ft"); (case h => walk_at "bd"))
  | ((with_reducible refine ft_addsv (x := ?x) (m := ?m) (n := 10) ?h ?s ?a ?z); (case h => exact rfl); (case s => assumption); (case a => exact And.intro rfl (by decide)); (case z => decide))
  | ((with_reducible refine lt_lst ?f ?h); (case f => walk_at "ft"); (case h => walk_at "bd")))
section
variable {P : Program} {w : World} {K : PySem.W.Frag} {mg : Str → Option Value} {base : Heap} {k : Nat}
/-- the place is leads from d to e -/
def Lead : List Nat → PyData → PyData → Prop
  | [], d, e => d = e
  | i :: r, .list ds, e => ∃ d, ds[i]? = some d ∧ Lead r d e
  | i :: r, .tuple ds, e => ∃ d, ds[i]? = some d ∧ Lead r d e
  | _ :: _, _, _ => False
theorem Lead.ok : ∀ {is : List Nat} {d e : PyData}, Lead is d e → okP is d
  | [], _, _, _ => True.intro
  | i :: r, .list ds, e, ⟨d, h, l⟩ => ⟨d, h, Lead.ok l⟩
  | i :: r, .tuple ds, e, ⟨d, h, l⟩ => ⟨d, h, Lead.ok l⟩
  | _ :: _, .none, _, h => h.elim
  | _ :: _, .bool _, _, h => h.elim
  | _ :: _, .int _, _, h => h.elim
  | _ :: _, .str _, _, h => h.elim
  | _ :: _, .dict _, _, h => h.elim
theorem Lead.more {f : PyData} {ds : List PyData} {j : Nat} (hj : ds[j]? = some f) : ∀ {is : List Nat} {d e : PyData}, (e = .list ds ∨ e = .tuple ds) → Lead is d e → Lead (is ++ [j]) d f
  | [], d, e, he, h => by
    have h' : d = e := h
    subst h'
    rcases he with rfl | rfl
    · exact ⟨f, hj, rfl⟩
    · exact ⟨f, hj, rfl⟩
  | i :: r, .list _, e, he, ⟨d, h, l⟩ => ⟨d, h, Lead.more hj he l⟩
  | i :: r, .tuple _, e, he, ⟨d, h, l⟩ => ⟨d, h, Lead.more hj he l⟩
  | _ :: _, .none, _, _, h => h.elim
  | _ :: _, .bool _, _, _, h => h.elim
  | _ :: _, .int _, _, _, h => h.elim
  | _ :: _, .str _, _, _, h => h.elim
  | _ :: _, .dict _, _, _, h => h.elim
theorem Lead.bd {m n : Nat} : ∀ {is : List Nat} {d e : PyData}, Lead is d e → Bd m n d → Bd m n e
  | [], _, _, h, b => h ▸ b
  | i :: r, .list ds, e, ⟨d, h, l⟩, b => Lead.bd l ((b.unlst.mem d (List.mem_of_getElem? h)).mono (Nat.sub_le _ _) (Nat.le_refl _))
  | i :: r, .tuple ds, e, ⟨d, h, l⟩, b => Lead.bd l ((b.untup.mem d (List.mem_of_getElem? h)).mono (Nat.sub_le _ _) (Nat.le_refl _))
  | _ :: _, .none, _, h, _ => h.elim
  | _ :: _, .bool _, _, h, _ => h.elim
  | _ :: _, .int _, _, h, _ => h.elim
  | _ :: _, .str _, _, h, _ => h.elim
  | _ :: _, .dict _, _, h, _ => h.elim
abbrev isSq (d : PyData) : Bool := tyN d == "list" || tyN d == "tuple"
theorem Dt.sq {G : Hp} {v : V} {d : PyData} (h : Dt K G v d) (e : isSq d = true) : ∃ a xs ds, v = .ref a ∧ (SqL K G a xs ∨ SqT K G a xs) ∧ DtL K G xs ds ∧ (d = .list ds ∨ d = .tuple ds) := by
  cases h with
  | lst h t => exact ⟨_, _, _, rfl, .inl h, t, .inl rfl⟩
  | tup h t => exact ⟨_, _, _, rfl, .inr h, t, .inr rfl⟩
  | _ => exact absurd e Bool.false_ne_true
section
variable {G G0 H : Hp} {L : List (Addr × HO)} {σ : L2.St} {i m n : Nat} {te : TE} {v : V} {Q : VK} {a : Addr} {xs : List V}
theorem x_lenLT (h : SqL K H a xs ∨ SqT K H a xs) (q : Q (.int xs.length) H) : aLen K [.ref a] H Q := h.elim (fun h => x_lenl h q) fun h => x_lent h q
theorem x_ixLT {j : Int} (h : SqL K H a xs ∨ SqT K H a xs) (e : atI xs j = some v) (q : Q v H) : rIx K (.ref a) (.int j) H Q := h.elim (fun h => x_ixl h e q) fun h => x_ixt h e q
theorem x_listLT (h : SqL K H a xs ∨ SqT K H a xs) (q : nw (.lst xs) H Q) : aList K [.ref a] H Q := h.elim (fun h => x_listL h q) fun h => x_listT h q
theorem x_tupLT (O : Own G H L) (h : SqL K H a xs ∨ SqT K H a xs) (h2 : SqT K H a xs → SqT K G a xs) (q : ∀ p G' H', Same G G' → Own G' H' L → SqT K G' p xs → Q (.ref p) H') : aTuple K [.ref a] H Q :=
  h.elim (fun h => x_tupleL h (x_fix O fun p G1 H1 s1 O1 e => q p G1 H1 s1 O1 (SqT.of e))) fun h => x_tupleT h (q a G H (Same.refl _) O (h2 h))
/-- a list or tuple of bounded data -/
def SqF (K : PySem.W.Frag) (G : Hp) (a : Addr) (m n : Nat) : Prop := ∃ xs, (SqL K G a xs ∨ SqT K G a xs) ∧ FnL K G m n xs
theorem ft_liV (h : σ[i]? = some (some (.ref a))) (f : SqF K G0 a m n) : FT K G0 σ (m + 1) n (tCB (aList K) (tCons (tVar i) tNil)) := fun G H L Q s O kk => by
  obtain ⟨xs, hs, fl⟩ := f
  exact x_cb (x_acons (x_var h (x_anil (x_listLT (Own.sq O (sq_same s hs)) (x_fix O fun p G1 H1 s1 O1 e => kk G1 H1 _ s1 O1 ((fl.same (s.trans s1)).lst (SqL.of e)))))))
theorem go_tuV (h : σ[i]? = some (some (.ref a))) (s : Same G0 G) (O : Own G H L) {xs : List V} (hs : SqL K G0 a xs ∨ SqT K G0 a xs) (q : ∀ p G' H', Same G G' → Own G' H' L → SqT K G' p xs → Q (.ref p) H') : tCB (aTuple K) (tCons (tVar i) tNil) σ H Q := by
  refine x_cb (x_acons (x_var h (x_anil ?_)))
  rcases hs with hs | hs
  · exact x_tupleL (O.seq (s.seq hs)) (x_fix O fun p G1 H1 s1 O1 e => q p G1 H1 s1 O1 (SqT.of e))
  · exact x_tupleT (O.set (same_t s hs)) (q a G H (Same.refl _) O (same_t s hs))
theorem ft_tuV (h : σ[i]? = some (some (.ref a))) (f : SqF K G0 a m n) : FT K G0 σ (m + 1) n (tCB (aTuple K) (tCons (tVar i) tNil)) := fun G H L Q s O kk => by
  obtain ⟨xs, hs, fl⟩ := f
  exact go_tuV h s O hs fun p G1 H1 s1 O1 e => kk G1 H1 _ s1 O1 ((fl.same (s.trans s1)).tup e)
theorem FnL.rev {vs : List V} (f : FnL K G m n vs) : ∃ ds, DtL K G vs ds ∧ BdL m n ds := f
theorem dtl_app {vs ws : List V} {ds es : List PyData} (h : DtL K G vs ds) (t : DtL K G ws es) : DtL K G (vs ++ ws) (ds ++ es) := by
  induction vs generalizing ds with
  | nil => cases h; exact t
  | cons v vs ih => cases h with | cons a b => exact .cons a (ih b)
theorem dtl_rev {vs : List V} {ds : List PyData} (h : DtL K G vs ds) : DtL K G vs.reverse ds.reverse := by
  induction vs generalizing ds with
  | nil => cases h; exact .nil
  | cons v vs ih =>
    cases h with
    | cons a b =>
      rw [List.reverse_cons, List.reverse_cons]
      exact dtl_app (ih b) (.cons a .nil)
theorem bdl_app {ds es : List PyData} {m1 n1 m2 n2 : Nat} (b : BdL m1 n1 ds) (c : BdL m2 n2 es) : BdL (max m1 m2) (n1 + n2) (ds ++ es) := by
  have h : ∀ ds : List PyData, okDL (ds ++ es) = (okDL ds && okDL es) ∧ PyData.depthAll (ds ++ es) = max (PyData.depthAll ds) (PyData.depthAll es) ∧ PyData.weightAll (ds ++ es) = PyData.weightAll ds + PyData.weightAll es := by
    intro ds
    induction ds with
    | nil => exact ⟨by simp [okDL], by simp [PyData.depthAll], by simp [PyData.weightAll]⟩
    | cons d ds ih =>
      obtain ⟨i1, i2, i3⟩ := ih
      refine ⟨by rw [List.cons_append, okDL, okDL, i1, Bool.and_assoc], ?_, ?_⟩
      · rw [List.cons_append, PyData.depthAll, PyData.depthAll, i2]
        omega
      · rw [List.cons_append, PyData.weightAll, PyData.weightAll, i3]
        omega
  obtain ⟨h1, h2, h3⟩ := h ds
  have := b.dep
  have := c.dep
  have := b.wt
  have := c.wt
  exact ⟨by rw [h1, b.ok, c.ok]; rfl, by rw [h2]; omega, by rw [h3]; omega⟩
theorem bdl_rev {ds : List PyData} (b : BdL m n ds) : BdL m n ds.reverse := by
  induction ds generalizing m n with
  | nil => exact b
  | cons d ds ih =>
    have h1 := b.ok
    have h2 := b.dep
    have h3 := b.wt
    simp only [okDL, Bool.and_eq_true] at h1
    simp only [PyData.depthAll] at h2
    simp only [PyData.weightAll] at h3
    rw [List.reverse_cons]
    have t : BdL m (PyData.weightAll ds) ds := ⟨h1.2, by omega, Nat.le_refl _⟩
    have o : BdL m (d.weight + 1) [d] := ⟨by simp [okDL, h1.1], by simp only [PyData.depthAll]; omega, by simp only [PyData.weightAll]; omega⟩
    have z := bdl_app (ih t) o
    exact ⟨z.ok, by have := z.dep; omega, by have := z.wt; omega⟩
theorem fnl_app {vs ws : List V} {m1 n1 m2 n2 : Nat} (f : FnL K G m1 n1 vs) (g : FnL K G m2 n2 ws) : FnL K G (max m1 m2) (n1 + n2) (vs ++ ws) := let ⟨_, a, b⟩ := f; let ⟨_, c, d⟩ := g; ⟨_, dtl_app a c, bdl_app b d⟩
theorem fnl_rev {vs : List V} (f : FnL K G m n vs) : FnL K G m n vs.reverse := let ⟨_, a, b⟩ := f; ⟨_, dtl_rev a, bdl_rev b⟩
theorem ft_tuB (h : σ[i]? = some (some (.ref a))) (f : SqF K G0 a m n) : FT K G0 σ (m + 1) n (aRevT K (tCB (aTuple K) (tCons (tVar i) tNil))) := fun G H L Q s O kk => by
  obtain ⟨xs, hs, fl⟩ := f
  refine go_tuV h s O hs fun p G1 H1 s1 O1 e => ⟨p, xs, rfl, O1.set e, x_fix O1 fun r G2 H2 s2 O2 e2 => kk G2 H2 _ (s1.trans s2) O2 ?_⟩
  exact (fnl_rev (fl.same ((s.trans s1).trans s2))).tup (SqT.of e2)
theorem x_cut {A : TS} {b1 c1 nn : L2.St → Hp → Prop} {r1 : VK} (R : L2.St → Hp → Prop) (h2 : ∀ n : L2.St → Hp → Prop, (∀ σ H, R σ H → n σ H) → A ⟨n, r1, b1, c1⟩ σ H) (h1 : ∀ σ H, R σ H → nn σ H) : A ⟨nn, r1, b1, c1⟩ σ H := h2 nn h1
end
local macro_rules | `(tactic| walk_at "ft") => `(tactic| first
  | ((with_reducible refine ft_liV (a := ?p) (m := ?m) (n := ?n) ?h ?a); (case h => exact rfl); (case a => assumption))
  | ((with_reducible refine ft_tuV (a := ?p) (m := ?m) (n := ?n) ?h ?a); (case h => exact rfl); (case a => assumption))
  | ((with_reducible refine ft_tuB (a := ?p) (m := ?m) (n := ?n) ?h ?a); (case h => exact rfl); (case a => assumption)))
end
end M74
set_option maxHeartbeats 4000000
namespace M74
open PySem PySem.Spec PyProof.Rows L2 G
local macro_rules | `(tactic| walk_at "hp") => `(tactic| first | assumption | exact Own.at0 (by assumption) | exact Own.at1 (by assumption) | exact Own.at2 (by assumption) | exact Own.at3 (by assumption) | exact Own.sub (by assumption) _ _ (by assumption) | exact upd_same)
local macro_rules | `(tactic| walk_at "hl") => `(tactic| first | assumption | exact SqL.of (by walk_at "hp") | exact Own.seq (by assumption) (by assumption) | exact Own.seq (by assumption) (SqL.of (by assumption)))
local macro_rules | `(tactic| walk_at "ht") => `(tactic| first | assumption | exact SqT.of (by walk_at "hp") | exact Own.set (by assumption) (by assumption) | exact Own.set (by assumption) (SqT.of (by assumption)))
local macro_rules | `(tactic| walk_at "n") => `(tactic| (intros; (try dsimp only [List.set, wipe, List.map, List.set_cons_succ, List.set_cons_zero]); (try exact rfl)))
local macro_rules | `(tactic| walk_at "n1") => `(tactic| with_reducible first | (refine x_asgN (σ' := ?s) ?hs ?q; (case hs => walk_at "n")) | (refine x_gN (σ' := ?s) ?hs ?q; (case hs => walk_at "n")) | (refine And.intro (show wipe _ _ = _ from (by walk_at "n")) ?_) | (refine x_parN (σ' := ?s) ?hs ?q; (case hs => walk_at "n")) | (refine x_par3N (σ' := ?s) ?hs ?q; (case hs => walk_at "n")))
local macro_rules | `(tactic| walk_at "v1") => `(tactic| ((with_reducible refine x_var (v := ?v) ?h ?q); (case h => first | exact rfl | assumption)))
local macro_rules | `(tactic| walk_at "s1") => `(tactic| with_reducible first | refine x_op ?_ | refine x_acons ?_ | refine x_c ?_ | refine x_call ?_ | refine x_anil ?_ | refine x_cb ?_ | refine x_seq ?_ | refine x_asgG ?_ | refine x_gC ?_ | refine x_gNl ?_ | refine x_ret ?_ | refine x_ifs ?_ | refine x_test ?_ | refine x_testb ?_ | refine x_and ?_ | refine x_or ?_ | refine x_andV ?_ | refine x_isB ?_ | refine x_add ?_ | refine x_lt ?_ | refine x_inti ?_ | refine x_isI ?_ | refine x_lst ?_ | refine x_tup ?_ | refine x_slice ?_ | refine x_nop ?_ | refine x_part ?_ | refine x_bm ?_ | refine x_sub ?_ | refine x_rI0 ?_ | refine x_drop ?_ | refine x_next ?_ | refine x_brk ?_ | refine x_cnt ?_ | refine x_par2 ?_ | refine x_par33 ?_ | refine x_un ?_ | refine x_rU ?_ | refine x_le ?_ | refine x_gt ?_ | refine x_ge ?_ | refine x_lts ?_ | refine x_intb ?_ | refine x_abs ?_ | refine x_tru ?_ | refine x_trub ?_ | refine x_trui ?_ | refine x_not ?_ | refine x_orV ?_ | refine x_notV ?_ | refine x_if ?_ | refine x_isN ?_ | refine x_isnN ?_ | refine x_dict ?_ | refine x_bm0 ?_ | refine x_revL ?_ | refine x_lcR ?_ | refine x_lcS ?_ | refine x_forR ?_ | refine x_forS ?_ | refine x_yes ?_ | refine ite_t ?_ | refine ite_f ?_)
local macro_rules | `(tactic| walk_at "s") => `(tactic| repeat (first | walk_at "v1" | walk_at "s1" | walk_at "n1"))
local macro_rules | `(tactic| walk_at "bd") => `(tactic| first | decide | omega | exact Nat.le_refl _)
local macro_rules | `(tactic| walk_at "ft") => `(tactic| first
  | with_reducible exact la_nil | with_reducible exact fa_nil | with_reducible exact ft_non | with_reducible exact ft_bl | with_reducible exact ft_dict | ((with_reducible refine ft_str (n := 10) (x := ?x) ?h); (case h => exact And.intro rfl (by decide))) | ((with_reducible refine ft_int (i := ?i) ?h); (case h => decide))
  | ((with_reducible refine ft_var (v := ?v) (m := ?m) (n := ?n) ?h ?f); (case h => exact rfl); (case f => assumption))
  | ((with_reducible refine fa_cons (m1 := ?a) (n1 := ?b) (m2 := ?c) (n2 := ?d) ?f ?g); (case f => walk_at "ft"); (case g => walk_at "ft"))
  | ((with_reducible refine ft_tup (m := ?m) (n := ?n) ?f ?h); (case f => walk_at "ft"); (case h => walk_at "bd"))
  | ((with_reducible refine ft_lst (m := ?m) (n := ?n) ?f ?h); (case f => walk_at "ft"); (case h => walk_at "bd"))
  | ((with_reducible refine la_cons (m1 := ?a) (n1 := ?b) (B := ?c) ?f ?g ?h ?i); (case f => walk_at "ft"); (case h => walk_at "bd"); (case i => walk_at "bd"); (case g => walk_at "ft"))
  | ((with_reducible refine lt_var (v := ?v) (m := ?m) (n := ?n) (B := ?b) ?h ?f); (case h => exact rfl); (case f => assumption))
  | ((with_reducible refine lt_add (B1 := ?a) (B2 := ?b) ?f ?g ?h); (case f => walk_at "ft"); (case g => walk_at "ft"); (case h => walk_at "bd"))
  | ((with_reducible refine ft_addsv (x := ?x) (m := ?m) (n := 10) ?h ?s ?a ?z); (case h => exact rfl); (case s => assumption); (case a => exact And.intro rfl (by decide)); (case z => decide))
  | ((with_reducible refine lt_lst ?f ?h); (case f => walk_at "ft"); (case h => walk_at "bd")))
section
variable {P : Program} {w : World} {K : PySem.W.Frag} {mg : Str → Option Value} {base : Heap} {k : Nat}
local macro_rules | `(tactic| walk_at "ft") => `(tactic| first
  | ((with_reducible refine ft_liV (a := ?p) (m := ?m) (n := ?n) ?h ?a); (case h => exact rfl); (case a => assumption))
  | ((with_reducible refine ft_tuV (a := ?p) (m := ?m) (n := ?n) ?h ?a); (case h => exact rfl); (case a => assumption))
  | ((with_reducible refine ft_tuB (a := ?p) (m := ?m) (n := ?n) ?h ?a); (case h => exact rfl); (case a => assumption)))
section
variable {G G0 H : Hp} {L : List (Addr × HO)} {σ : L2.St} {i m n : Nat} {te : TE} {v : V} {Q : VK} {x y : Str}
theorem x_eval {te : TE} (R : V → Hp → Prop) (h2 : ∀ Q2 : VK, (∀ v H, R v H → Q2 v H) → te σ H Q2) (h1 : ∀ v H, R v H → Q v H) : te σ H Q := h2 Q h1
theorem ft_neg1 {g : Int → V} (hg : g 1 = .int (-1)) : FT K G0 σ 0 10 (tUn (rU g) (tC (.int 1))) := fun G H L Q s O kk => by
  refine x_un (x_c (x_rU ?_))
  rw [hg]
  exact kk G H _ (Same.refl _) O (Fn.int (by decide))
theorem ft_addsc (h : σ[i]? = some (some (.str x))) (sx : St n x) (sa : St 10 y) (hz : n ≤ 100000) : FT K G0 σ 0 (n + 10) (tOp (aAdd K) (tVar i) (tC (.str y))) := fun G _ _ _ _ O kk =>
  x_op (x_var h (x_c (x_adds (sz20 (by have := sx.2; have := sa.2; omega)) (kk G _ _ (Same.refl _) O (Fn.str (sx.app sa))))))
theorem ft_addsv2 (h : σ[i]? = some (some (.str x))) (sx : St n x) (sa : St 10 y) (hz : n ≤ 100000) : FT K G0 σ 0 (10 + n) (tOp (aAdd K) (tC (.str y)) (tVar i)) := fun G _ _ _ _ O kk =>
  x_op (x_c (x_var h (x_adds (sz20 (by have := sx.2; have := sa.2; omega)) (kk G _ _ (Same.refl _) O (Fn.str (sa.app sx))))))
theorem ft_up (h : σ[i]? = some (some (.str x))) (sx : St n x) (hz : n ≤ 100000) : FT K G0 σ 0 n (tBM0 K "str" (fun x xs H Q => ∃ a, x = .str a ∧ xs = [] ∧ a.length ≤ 5592405 ∧ Q (.str (Txt.upper a)) H) (tVar i)) := fun G _ _ _ _ O kk =>
  x_bm0 (x_var h ⟨ty_s, x, rfl, rfl, by have := sx.2; omega, kk G _ _ (Same.refl _) O (Fn.str sx.up)⟩)
theorem ft_cut1 {g : Int → V} (hg : g 1 = .int (-1)) (h : σ[i]? = some (some (.str x))) (sx : St n x) (hz : n ≤ 100000) : FT K G0 σ 0 n (tSl (aSl K) (tVar i) tNoPart (tPart (tUn (rU g) (tC (.int 1))))) := fun G _ _ _ _ O kk => by
  refine x_slice (x_var h (x_nop (x_part (x_un (x_c (x_rU ?_))))))
  rw [hg]
  exact ⟨-1, rfl, x_slS (sz20 (by have := sx.2; omega)) (kk G _ _ (Same.refl _) O (Fn.str (sx.cut _ _)))⟩
theorem dtl_drop {vs : List V} {ds : List PyData} (a : Nat) (h : DtL K G vs ds) : DtL K G (vs.drop a) (ds.drop a) := by
  induction a generalizing vs ds with
  | zero => exact h
  | succ a ih => cases h with
    | nil => exact .nil
    | cons x t => exact ih t
theorem dtl_take {vs : List V} {ds : List PyData} (a : Nat) (h : DtL K G vs ds) : DtL K G (vs.take a) (ds.take a) := by
  induction a generalizing vs ds with
  | zero => exact .nil
  | succ a ih => cases h with
    | nil => exact .nil
    | cons x t => exact .cons x (ih t)
theorem bdl_drop {ds : List PyData} (a : Nat) (h : BdL m n ds) : BdL m n (ds.drop a) := by
  induction a generalizing ds with
  | zero => exact h
  | succ a ih => cases ds with
    | nil => exact h
    | cons d ds =>
      have h1 := h.ok
      have h2 := h.dep
      have h3 := h.wt
      simp only [okDL, Bool.and_eq_true] at h1
      simp only [PyData.depthAll] at h2
      simp only [PyData.weightAll] at h3
      exact ih ⟨h1.2, by omega, by omega⟩
theorem bdl_take {ds : List PyData} (a : Nat) (h : BdL m n ds) : BdL m n (ds.take a) := by
  induction a generalizing ds n with
  | zero => exact ⟨rfl, by simp [PyData.depthAll], by simp [PyData.weightAll]⟩
  | succ a ih => cases ds with
    | nil => exact h
    | cons d ds =>
      have h1 := h.ok
      have h2 := h.dep
      have h3 := h.wt
      simp only [okDL, Bool.and_eq_true] at h1
      simp only [PyData.depthAll] at h2
      simp only [PyData.weightAll] at h3
      have z := ih (n := PyData.weightAll ds) (ds := ds) ⟨h1.2, by omega, Nat.le_refl _⟩
      refine ⟨by rw [List.take_succ_cons, okDL, h1.1, z.ok]; rfl, ?_, ?_⟩
      · rw [List.take_succ_cons, PyData.depthAll]
        have := z.dep
        omega
      · rw [List.take_succ_cons, PyData.weightAll]
        have := z.wt
        omega
theorem fnl_cut {vs : List V} (f : FnL K G m n vs) (lo hi : Option Int) : FnL K G m n (cutV vs lo hi) := let ⟨_, a, b⟩ := f; ⟨_, dtl_take _ (dtl_drop _ a), bdl_take _ (bdl_drop _ b)⟩
theorem SqF.same {G' : Hp} {a : Addr} (f : SqF K G a m n) (s : Same G G') : SqF K G' a m n := let ⟨xs, h, g⟩ := f; ⟨xs, sq_same s h, g.same s⟩
theorem SqF.mono {m1 n1 : Nat} {a : Addr} (f : SqF K G a m1 n1) (h1 : m1 ≤ m) (h2 : n1 ≤ n) : SqF K G a m n := let ⟨xs, h, g⟩ := f; ⟨xs, h, g.mono h1 h2⟩
end
local macro_rules | `(tactic| walk_at "ft") => `(tactic| first
  | ((with_reducible refine ft_neg1 ?g); (case g => exact rfl))
  | ((with_reducible refine ft_addsc (x := ?x) (n := ?n) ?h ?a ?b ?c); (case h => exact rfl); (case a => assumption); (case b => exact And.intro rfl (by decide)); (case c => omega))
  | ((with_reducible refine ft_addsv2 (x := ?x) (n := ?n) ?h ?a ?b ?c); (case h => exact rfl); (case a => assumption); (case b => exact And.intro rfl (by decide)); (case c => omega))
  | ((with_reducible refine ft_up (x := ?x) (n := ?n) ?h ?a ?c); (case h => exact rfl); (case a => assumption); (case c => omega))
  | ((with_reducible refine ft_cut1 (x := ?x) (n := ?n) ?g ?h ?a ?c); (case g => exact rfl); (case h => exact rfl); (case a => assumption); (case c => omega)))
abbrev s__law_changed : Stmt := top 26
theorem sc__law_changed : FnScope ["box", "value", "words", "way", "path", "place", "turn", "more", "less", "shapes", "near"] ["box", "value", "words"] (defScope s__law_changed) := ⟨rfl, rfl, rfl, by decide +kernel, rfl, by decide +kernel, by decide +kernel⟩
def sp_changed (K : PySem.W.Frag) : Sp := fun vs H Q _ => ∃ (G : Hp) (R : List (Addr × HO)) (b a : Addr) (v : V) (ws : List Str) (m n N : Nat) (bx : List V), vs = [.ref b, v, .ref a] ∧ Own G H ((b, .lst bx) :: R) ∧ Fn K G m n v ∧ 1 ≤ m ∧ n ≤ 50000 ∧ Nm G a ws ∧ 1 ≤ ws.length ∧ ws.length ≤ 100 ∧ Box (N + 20) bx ∧
  ∀ (G' H' : Hp) (v' : V) bx', Same G G' → Own G' H' ((b, .lst bx') :: R) → Fn K G' (2 * m + 1) (3 * n + 40) v' → Box N bx' → Q v' H'
theorem ok_changed {f : Addr} {fd : FuncData} (F : Fun K "_law_changed" "_law_changed" s__law_changed f fd) (B : Bt mg) (C__law_take : Cal P w K mg base k "_law_take" ["box", "many"] sp_take)
    (C__law_with : Cal P w K mg base k "_law_with" ["value", "path", "new"] (sp_with K 8)) : FnG P w K mg base (k + 1) f fd ["box", "value", "words"] (sp_changed K) := by
  refine fnG_of F sc__law_changed (fun vs H Q E h => ?_) (fun cdv A outer s H vs Q E r h => ?_)
  · obtain ⟨_, _, b, a, v, ws, m, n, N, bx, rfl, _⟩ := h
    rfl
  · obtain ⟨G, R, b, a, v, ws, m, n, N, bx, rfl, O, ⟨d, hd, bd⟩, m1, n5, ha, l0, l1, bo, q⟩ := h
    refine ⟨_, (pss_cons (ps_par3 (i := 3) (j := 4) (l := 5) rfl sc__law_changed.nd rfl rfl rfl (by decide) (by decide) (by decide) rfl rfl rfl (pa_cons (g_call C__law_take r (by rfl) passL (pa_cons (pv 0) (pa_cons pe_int pa_nil))) (pa_cons (d_lst pa_nil) (pa_cons (pv 1) pa_nil))) (by rfl))
       (pss_cons (ps_for (passes_of rfl) rfl (pi_range1 (by rfl) B.range (pa_cons pe_int pa_nil)) (pg_name (i := 6) sc__law_changed.nd rfl (Or.inl rfl))
       (pss_cons (ps_if (PW.pt (pw_or (pt_not (pt_truK (K := K) rfl (pe_callB (cIsiK (K := K) rfl) (by rfl) B.isinstance (by decide +kernel) (pa_cons (pv 5) (pa_cons (d_tup (pa_cons (pe_bltn (v := .ty "list") (u := .type "list") (by rfl) B.list (by decide +kernel) rfl) (pa_cons (pe_bltn (v := .ty "tuple") (u := .type "tuple") (by rfl) B.tuple (by decide +kernel) rfl) pa_nil))) pa_nil))))) (pw_or (pt_cmpR (oEqK (K := K) rfl r) (pe_callB (cLenK (K := K) rfl) (by rfl) B.len (by decide +kernel) (pa_cons (pv 5) pa_nil)) pe_int (nomark _)) (pw_or1 (pt_cmpR (oEqK (K := K) rfl r) (g_call C__law_take r (by rfl) passL (pa_cons (pv 0) (pa_cons pe_int pa_nil))) pe_int (nomark _))))))
       (pss_one ps_break)
       pss_nil)
       (pss_cons (ps_expr (pe_bmK' (K := K) rfl PySem.F.plainAttrs_list PySem.F.slot_list_append PySem.F.type_list_append mApp (pv 4) (pa_cons (g_call C__law_take r (by rfl) passL (pa_cons (pv 0) (pa_cons (pe_callB (cLenK (K := K) rfl) (by rfl) B.len (by decide +kernel) (pa_cons (pv 5) pa_nil)) pa_nil))) pa_nil)))
       (pss_one (ps_set (i := 5) sc__law_changed.nd rfl (Or.inl rfl) (pe_ix (ixK (K := K) rfl) (pv 5) (pe_ix (ixK (K := K) rfl) (pv 4) (pe_un un_neg pe_int) (fun _ _ => rfl)) (fun _ _ => rfl)))))))
       (pss_cons (ps_set (i := 7) sc__law_changed.nd rfl (Or.inl rfl) (d_lst (pa_cons pe_non (pa_cons pe_bl (pa_cons pe_int (pa_cons pe_int (pa_cons pe_str (pa_cons pe_str (pa_cons (d_tup pa_nil) (pa_cons (d_lst pa_nil) (pa_cons d_dict (pa_cons pe_str (pa_cons pe_str (pa_cons (d_tup (pa_cons pe_str pa_nil)) (pa_cons (d_tup (pa_cons pe_str (pa_cons pe_str pa_nil))) (pa_cons pe_str (pa_cons (pe_un un_neg pe_int) (pa_cons pe_str pa_nil))))))))))))))))))
       (pss_cons (ps_if (pt_cmpR (oEqK (K := K) rfl r) (pv 3) pe_int (nomark _))
       (pss_one (ps_ret (g_call C__law_with r (by rfl) passL (pa_cons (pv 1) (pa_cons (pv 4) (pa_cons (pe_ix (ixK (K := K) rfl) (pv 2) (g_call C__law_take r (by rfl) passL (pa_cons (pv 0) (pa_cons (pe_callB (cLenK (K := K) rfl) (by rfl) B.len (by decide +kernel) (pa_cons (pv 2) pa_nil)) pa_nil))) (fun _ _ => rfl)) pa_nil))))))
       pss_nil)
       (pss_cons (ps_if (pt_cmpR (oEqK (K := K) rfl r) (pv 3) pe_int (nomark _))
       (pss_one (ps_ret (g_call C__law_with r (by rfl) passL (pa_cons (pv 1) (pa_cons (pv 4) (pa_cons (pe_ix (ixK (K := K) rfl) (pv 7) (g_call C__law_take r (by rfl) passL (pa_cons (pv 0) (pa_cons pe_int pa_nil))) (fun _ _ => rfl)) pa_nil))))))
       pss_nil)
       (pss_cons (ps_if (pt_truK (K := K) rfl (pe_callB (cIsiK (K := K) rfl) (by rfl) B.isinstance (by decide +kernel) (pa_cons (pv 5) (pa_cons (d_tup (pa_cons (pe_bltn (v := .ty "list") (u := .type "list") (by rfl) B.list (by decide +kernel) rfl) (pa_cons (pe_bltn (v := .ty "tuple") (u := .type "tuple") (by rfl) B.tuple (by decide +kernel) rfl) pa_nil))) pa_nil))))
       (pss_cons (ps_set (i := 8) sc__law_changed.nd rfl (Or.inl rfl) (pe_ifExp (pt_cmpR (oEqK (K := K) rfl r) (pv 3) pe_int (nomark _)) (pe_slice (oSlK (K := K) rfl) (pe_callTy (cListK (K := K) rfl) (by rfl) B.list (by decide +kernel) (pa_cons (pv 5) pa_nil)) po_none (po_some (pe_un un_neg pe_int))) (pe_op (oAddK (K := K) rfl) (pe_slice (oSlK (K := K) rfl) (pe_callTy (cListK (K := K) rfl) (by rfl) B.list (by decide +kernel) (pa_cons (pv 5) pa_nil)) po_none (po_some pe_int)) (pe_callTy (cListK (K := K) rfl) (by rfl) B.list (by decide +kernel) (pa_cons (pv 5) pa_nil)))))
       (pss_cons (ps_set (i := 9) sc__law_changed.nd rfl (Or.inl rfl) (d_lst (pa_cons (pe_callTy (cListK (K := K) rfl) (by rfl) B.list (by decide +kernel) (pa_cons (pv 5) pa_nil)) (pa_cons (pe_callTy (cTupleK (K := K) rfl) (by rfl) B.tuple (by decide +kernel) (pa_cons (pv 8) pa_nil)) (pa_cons (d_tup (pa_cons pe_str (pa_cons (pv 5) pa_nil))) (pa_cons (d_tup (pa_cons (pv 5) pa_nil)) (pa_cons (d_revTK (K := K) rfl (pe_callTy (cTupleK (K := K) rfl) (by rfl) B.tuple (by decide +kernel) (pa_cons (pv 5) pa_nil))) (pa_cons (d_tup (pa_cons pe_str (pa_cons (pv 5) (pa_cons (pv 5) pa_nil)))) (pa_cons (pe_callTy (cTupleK (K := K) rfl) (by rfl) B.tuple (by decide +kernel) (pa_cons (pv 8) pa_nil)) pa_nil)))))))))
       (pss_one (ps_ret (g_call C__law_with r (by rfl) passL (pa_cons (pv 1) (pa_cons (pv 4) (pa_cons (pe_ix (ixK (K := K) rfl) (pv 9) (g_call C__law_take r (by rfl) passL (pa_cons (pv 0) (pa_cons pe_int pa_nil))) (fun _ _ => rfl)) pa_nil))))))))
       pss_nil)
       (pss_cons (ps_if (pt_truK (K := K) rfl (pe_callB (cIsiK (K := K) rfl) (by rfl) B.isinstance (by decide +kernel) (pa_cons (pv 5) (pa_cons (pe_bltn (v := .ty "str") (u := .type "str") (by rfl) B.str (by decide +kernel) rfl) pa_nil))))
       (pss_cons (ps_set (i := 10) sc__law_changed.nd rfl (Or.inl rfl) (pe_ix (ixK (K := K) rfl) (d_lst (pa_cons (pe_op (oAddK (K := K) rfl) (pv 5) pe_str) (pa_cons (pe_bm0Q (K := K) rfl PySem.F.plainAttrs_str PySem.F.slot_str_upper PySem.F.type_str_upper mt_upper (pv 5)) (pa_cons (pe_slice (oSlK (K := K) rfl) (pv 5) po_none (po_some (pe_un un_neg pe_int))) (pa_cons (d_tup (pa_cons (pv 5) pa_nil)) (pa_cons (pe_op (oAddK (K := K) rfl) (pv 5) pe_str) (pa_cons (d_lst (pa_cons (pv 5) pa_nil)) (pa_cons (pe_op (oAddK (K := K) rfl) pe_str (pv 5)) pa_nil)))))))) (g_call C__law_take r (by rfl) passL (pa_cons (pv 0) (pa_cons pe_int pa_nil))) (fun _ _ => rfl)))
       (pss_one (ps_ret (g_call C__law_with r (by rfl) passL (pa_cons (pv 1) (pa_cons (pv 4) (pa_cons (pv 10) pa_nil)))))))
       pss_nil)
       (pss_one (ps_ret (g_call C__law_with r (by rfl) passL (pa_cons (pv 1) (pa_cons (pv 4) (pa_cons (d_tup (pa_cons pe_str (pa_cons (pv 5) pa_nil))) pa_nil))))))))))))), ?_⟩
    try dsimp only [cxOf]
    refine x_start (σ' := [some _, some _, some _, none, none, none, none, none, none, none, none]) rfl ?_
    walk_at "s"
    refine ⟨G, R, b, 4, N + 19, bx, rfl, O, bo, by decide, by decide, fun H1 way b1 w0 w1 O1 B1 => ?_⟩
    walk_at "s"
    refine ⟨by decide, x_new O1 fun p H2 O2 => ?_⟩
    refine x_acons (x_var rfl (x_anil (x_par33 (x_seq ?_))))
    refine x_cut (fun σ H' => ∃ (G' : Hp) (is : List Nat) (pv : V) (e : PyData) (x6 : Option V) (bx' : List V), σ = [some (.ref b), some v, some (.ref a), some (.int way), some (.ref p), some pv, x6, none, none, none, none] ∧ Same G G' ∧ Own G' H' ((p, .lst (ns is)) :: (b, .lst bx') :: R) ∧ Dt K G' pv e ∧ Lead is d e ∧ is.length ≤ 7 ∧ Box (N + 5) bx') (fun nx fin => ?_) ?_
    · walk_at "s"
      refine x_rg (by decide) (by decide) ?_
      refine for_own walk_range O2 (fun i σ G' L' => ∃ (is : List Nat) (pv : V) (e : PyData) (x6 : Option V) (bx' : List V), σ = [some (.ref b), some v, some (.ref a), some (.int way), some (.ref p), some pv, x6, none, none, none, none] ∧ L' = (p, .lst (ns is)) :: (b, .lst bx') :: R ∧ Dt K G' pv e ∧ Lead is d e ∧ is.length = i ∧ Box (N + 5 + 2 * (7 - i)) bx') ⟨[], v, d, none, b1, rfl, rfl, hd, rfl, rfl, B1.le (by omega)⟩ (fun _ _ _ _ _ _ _ _ => True.intro) ?_ ?_
      · rintro i x σ G' H' H2 L' hi s' O' ⟨is, pv, e, x6, bx', rfl, rfl, he, hl, il, bo'⟩ ⟨rfl, rfl⟩
        have hi7 : i < 7 := hi
        have brk := fun (bx2 : List V) (x6 : Option V) (G4 H3 : Hp) (s4 : Same G' G4) (O3 : Own G4 H3 ((p, .lst (ns is)) :: (b, .lst bx2) :: R)) (B3 : Box (N + 5) bx2) => fin [some (.ref b), some v, some (.ref a), some (.int way), some (.ref p), some pv, x6, none, none, none, none] H3 ⟨G4, is, pv, e, x6, bx2, rfl, s'.trans s4, O3, he.mono s4, hl, by omega, B3⟩
        walk_at "s"
        refine ⟨by decide, x_fix O' fun p3 G3 H3 s3 O3 e3 => ?_⟩
        refine x_isiLT (O3.dt (he.mono s3)) (O3.sub _ _ e3) ?_
        walk_at "s"
        refine ite_b (fun c => ?_) (fun c => ?_)
        · walk_at "s"
          exact brk _ _ _ _ s3 O3 (bo'.le (by omega))
        have csq : isSq e = true := by cases hb : isSq e; rw [show (tyN e == "list" || tyN e == "tuple") = false from hb] at c; exact absurd c (by decide); rfl
        obtain ⟨pa, xs, ds, rfl, hs, hdl, ed⟩ := Dt.sq he csq
        have hs3 := Own.sq O3 (sq_same s3 hs)
        walk_at "s"
        refine x_lenLT hs3 ?_
        walk_at "s"
        refine x_eq rfl ?_
        rw [int_eq]
        walk_at "s"
        refine ite_b (fun c2 => ?_) (fun c2 => ?_)
        · walk_at "s"
          exact brk _ _ _ _ s3 O3 (bo'.le (by omega))
        have hx0 : 0 < xs.length := by have := of_decide_eq_false c2; omega
        have hx1 : xs.length ≤ 50000 := by
          have b1 := Lead.bd hl bd
          rw [hdl.length]
          have := b1.wt
          rcases ed with rfl | rfl <;> simp only [PyData.weight] at this <;> exact Nat.le_trans len_wt (by omega)
        walk_at "s"
        refine ⟨G3, _, b, 7, N + 4 + 2 * (7 - i), bx', rfl, O3.swap, bo'.le (by omega), by decide, by decide, fun H4 r b4 r0 r1 O4 B4 => ?_⟩
        walk_at "s"
        refine x_eq rfl ?_
        rw [int_eq]
        walk_at "s"
        refine ite_b (fun c3 => ?_) (fun c3 => ?_)
        · walk_at "s"
          exact brk _ _ _ _ s3 O4.swap (B4.le (by omega))
        walk_at "s"
        refine ⟨ty_l (SqL.of O4.at1), ?_⟩
        walk_at "s"
        refine x_lenLT (Own.sq O4 (sq_same s3 hs)) ?_
        refine ⟨G3, _, b, xs.length, N + 5 + 2 * (7 - (i + 1)), b4, rfl, O4, B4.le (by omega), by omega, by omega, fun H5 r5 b5 r50 r51 O5 B5 => ?_⟩
        obtain ⟨j, rfl⟩ := Int.eq_ofNat_of_zero_le r50
        have hj : j < ds.length := by rw [← hdl.length]; omega
        have O5' := O5.swap
        walk_at "s"
        refine x_app O5'.at0 (lt_line (by rw [List.length_map]; omega)) (x_md0 O5' fun H6 O6 => ?_)
        have en : ns is ++ [V.int (j : Int)] = ns (is ++ [j]) := by simp only [ns, List.map_append, List.map_cons, List.map_nil]
        rw [en] at O6
        walk_at "s"
        obtain ⟨vj, evj, hvj⟩ := hdl.get j (List.getElem?_eq_getElem hj)
        refine x_ixl (v := .int (j : Int)) (SqL.of O6.at0) (by rw [← en]; exact atI_last _ _) ?_
        refine x_ixLT (Own.sq O6 (sq_same s3 hs)) (atI_nat evj) ?_
        walk_at "s"
        exact fvh (s'.trans s3) O6 ⟨is ++ [j], vj, _, _, b5, rfl, rfl, hvj.mono s3, Lead.more (List.getElem?_eq_getElem hj) ed hl, by rw [List.length_append, il]; rfl, B5⟩
      · rintro σ G' H' L' s' O' ⟨is, pv, e, x6, bx', rfl, rfl, he, hl, il, bo'⟩
        exact fin _ _ ⟨G', is, pv, e, x6, bx', rfl, s', O', he, hl, by rw [il]; decide, bo'.le (by omega)⟩
    · rintro σ H3 ⟨G3, is, pv, e, x6, b3', rfl, s3, O3, he, hl, il, B3⟩
      have bde := Lead.bd hl bd
      have O4 := O3.frz0
      have hp : upd G3 p (.lst (ns is)) p = some (.lst (ns is)) := upd_same
      have sp := Same.new (o := .lst (ns is)) O3.no0
      generalize upd G3 p (.lst (ns is)) = G4 at O4 sp hp
      have fin : ∀ (G5 H5 : Hp) (nv : V) (b5 : List V), Same G4 G5 → Own G5 H5 ((b, .lst b5) :: R) → Fn K G5 (m + 1) (2 * n + 40) nv → Box N b5 → sp_with K 8 [v, .ref p, nv] H5 Q E0 := by
        rintro G5 H5 nv b5 s5 O5 ⟨ne, dn, bn⟩ B5
        refine ⟨G5, _, v, nv, d, ne, p, is, rfl, O5, hd.mono ((s3.trans sp).trans s5), bd.ok, SqL.of (s5 _ _ hp), by omega, hl.ok, dn, bn.ok, fun G6 H6 v' e' s6 O6 d6 o6 dd ww => ?_⟩
        have := bd.dep
        have := bd.wt
        have := bn.dep
        have := bn.wt
        exact q G6 H6 v' b5 (((s3.trans sp).trans s5).trans s6) O6 ⟨e', d6, o6, by omega, by omega⟩ B5
      refine x_seq (x_asgG (LT.go (K := K) (m := 2) (n := 40) (B := 16) ?lt O4 fun G5 H5 v5 s5 O5 l5 => ?_))
      case lt => walk_at "ft"
      obtain ⟨p5, ms, rfl, e5, le5, a5⟩ := l5
      walk_at "n1"
      walk_at "s"
      refine x_eq rfl ?_
      rw [int_eq]
      walk_at "s"
      have ha5 := ha.same ((s3.trans sp).trans s5)
      refine ite_b (fun c => ?_) (fun c => ?_)
      · walk_at "s"
        refine x_lenl (SqL.of (O5.sub _ _ ha5.1)) ?_
        rw [List.length_map]
        refine ⟨G5, R, b, ws.length, N + 4, b3', rfl, O5, B3, by omega, by omega, fun H6 r b6 r0 r1 O6 B6 => ?_⟩
        obtain ⟨j, rfl⟩ := Int.eq_ofNat_of_zero_le r0
        obtain ⟨ej, sj⟩ := ha5.at (i := j) (by omega)
        refine x_ixl (SqL.of (O6.sub _ _ ha5.1)) ej ?_
        walk_at "s"
        exact fin G5 H6 _ b6 s5 O6 ((Fn.str sj).mono (by omega) (by omega)) (B6.le (by omega))
      walk_at "s"
      refine x_eq rfl ?_
      rw [int_eq]
      walk_at "s"
      refine ite_b (fun c2 => ?_) (fun c2 => ?_)
      · walk_at "s"
        refine ⟨G5, R, b, 16, N + 4, b3', rfl, O5, B3, by decide, by decide, fun H6 r b6 r0 r1 O6 B6 => ?_⟩
        obtain ⟨j, rfl⟩ := Int.eq_ofNat_of_zero_le r0
        have hj : j < ms.length := by omega
        refine x_ixl (SqL.of (O6.sub _ _ e5)) (atI_nat (List.getElem?_eq_getElem hj)) ?_
        walk_at "s"
        exact fin G5 H6 _ b6 s5 O6 ((a5 _ (List.getElem_mem hj)).mono (by omega) (by omega)) (B6.le (by omega))
      have he5 := he.mono (sp.trans s5)
      walk_at "s"
      refine ⟨by decide, x_fix O5 fun p6 G6 H6 s6 O6 e6 => ?_⟩
      have he6 := he5.mono s6
      refine x_isiLT (O6.dt he6) (O6.sub _ _ e6) ?_
      walk_at "s"
      refine ite_b (fun c3 => ?_) (fun c3 => ?_)
      · obtain ⟨pa, xs, ds, rfl, hs, hdl, ed⟩ := Dt.sq he6 c3
        have fl : FnL K G6 (m - 1) n xs := ⟨ds, hdl, by rcases ed with rfl | rfl; exact bde.unlst; exact bde.untup⟩
        have hs6 := Own.sq O6 hs
        refine x_seq (x_asgG (x_eval (fun v' H' => ∃ (q : Addr) (G7 : Hp), v' = V.ref q ∧ Same G6 G7 ∧ Own G7 H' ((b, .lst b3') :: R) ∧ SqF K G7 q (m - 1) (2 * n)) (fun Q2 fin2 => ?_) ?_))
        · walk_at "s"
          refine x_eq rfl ?_
          rw [int_eq]
          walk_at "s"
          refine ite_b (fun c4 => ?_) (fun c4 => ?_)
          · walk_at "s"
            refine x_listLT hs6 (x_fix O6 fun q1 G7 H7 s7 O7 e7 => ?_)
            walk_at "s"
            refine x_slL (SqL.of (O7.sub _ _ e7)) (x_fix O7 fun q2 G8 H8 s8 O8 e8 => ?_)
            exact fin2 _ _ ⟨q2, G8, rfl, s7.trans s8, O8, _, .inl (SqL.of e8), ((fnl_cut fl _ _).same (s7.trans s8)).mono (Nat.le_refl _) (by omega)⟩
          · walk_at "s"
            refine x_listLT hs6 (x_fix O6 fun q1 G7 H7 s7 O7 e7 => ?_)
            walk_at "s"
            refine x_slL (SqL.of (O7.sub _ _ e7)) (x_fix O7 fun q2 G8 H8 s8 O8 e8 => ?_)
            walk_at "s"
            refine x_listLT (Own.sq O8 (sq_same (s7.trans s8) hs)) (x_fix O8 fun q3 G9 H9 s9 O9 e9 => ?_)
            have lx : xs.length ≤ n := fl.len
            have lc := cutV_length xs none (some 1)
            refine x_addl (O9.sub _ _ (s9 _ _ e8)) (O9.sub _ _ e9) (sz20 (by omega)) (x_fix O9 fun q4 Ga Ha sa Oa ea => ?_)
            have sx := ((s7.trans s8).trans s9).trans sa
            exact fin2 _ _ ⟨q4, Ga, rfl, sx, Oa, _, .inl (SqL.of ea), ((fnl_app (fnl_cut fl none (some 1)) fl).same sx).mono (by omega) (by omega)⟩
        · rintro v' H7 ⟨ql, G7, rfl, s7, O7, hless⟩
          walk_at "n1"
          have hplace : SqF K G7 pa (m - 1) n := ⟨xs, sq_same s7 hs, fl.same s7⟩
          have fpl : Fn K G7 m n (.ref pa) := ⟨e, he6.mono s7, bde⟩
          refine x_seq (x_asgG (LT.go (K := K) (m := m + 1) (n := 2 * n + 40) (B := 7) ?lt2 O7 fun G8 H8 v8 s8 O8 l8 => ?_))
          case lt2 => walk_at "ft"
          obtain ⟨p8, ms8, rfl, e8, le8, a8⟩ := l8
          walk_at "n1"
          walk_at "s"
          refine ⟨G8, R, b, 7, N + 4, b3', rfl, O8, B3, by decide, by decide, fun H9 r b9 r0 r1 O9 B9 => ?_⟩
          obtain ⟨j, rfl⟩ := Int.eq_ofNat_of_zero_le r0
          have hj : j < ms8.length := by omega
          refine x_ixl (SqL.of (O9.sub _ _ e8)) (atI_nat (List.getElem?_eq_getElem hj)) ?_
          walk_at "s"
          exact fin G8 H9 _ b9 (((s5.trans s6).trans s7).trans s8) O9 (a8 _ (List.getElem_mem hj)) (B9.le (by omega))
      · walk_at "s"
        refine x_isiS (O6.dt he6) ?_
        walk_at "s"
        refine ite_b (fun c4 => ?_) (fun c4 => ?_)
        · obtain ⟨x, rfl, rfl⟩ : ∃ x, pv = .str x ∧ e = .str x := by
            cases he6 with
            | str x => exact ⟨x, rfl, rfl⟩
            | _ => exact absurd c4 Bool.false_ne_true
          have sx : St n x := bde.unstr
          have fx : Fn K G6 0 n (.str x) := Fn.str sx
          refine x_seq (x_asgG (x_op (LT.go (K := K) (m := m + 1) (n := 2 * n + 40) (B := 7) ?lt2 O6 fun G8 H8 v8 s8 O8 l8 => ?_)))
          case lt2 => walk_at "ft"
          obtain ⟨p8, ms8, rfl, e8, le8, a8⟩ := l8
          walk_at "s"
          refine ⟨G8, R, b, 7, N + 4, b3', rfl, O8, B3, by decide, by decide, fun H9 r b9 r0 r1 O9 B9 => ?_⟩
          obtain ⟨j, rfl⟩ := Int.eq_ofNat_of_zero_le r0
          have hj : j < ms8.length := by omega
          refine x_ixl (SqL.of (O9.sub _ _ e8)) (atI_nat (List.getElem?_eq_getElem hj)) ?_
          walk_at "s"
          exact fin G8 H9 _ b9 ((s5.trans s6).trans s8) O9 (a8 _ (List.getElem_mem hj)) (B9.le (by omega))
        · walk_at "s"
          refine ⟨by show 2 ≤ sizeLine; decide, x_fix O6 fun p7 G7 H7 s7 O7 e7 => ?_⟩
          have fpl : Fn K G7 m n pv := ⟨e, he6.mono s7, bde⟩
          walk_at "s"
          exact fin G7 H7 _ b3' ((s5.trans s6).trans s7) O7 (((FnL.cons (Fn.str (n := 3) ⟨rfl, by decide⟩) (FnL.cons fpl FnL.nil)).tup (SqT.of e7)).mono (by omega) (by omega)) (B3.le (by omega))
end
end M74
set_option maxHeartbeats 4000000
namespace G
open PySem PySem.Spec PyProof.Rows L2
/-- a def called by names alone, written in the parameters' order turned round -/
def CalR (P : Program) (w : World) (K : PySem.W.Frag) (mg : Str → Option Value) (base : Heap) (k : Nat) (x : Str) (ps ks : List Str) (sp : Sp) : Prop :=
  ∃ f fd, FnG P w K mg base k f fd ps sp ∧ mg x = some (.ref f) ∧ PySem.W.keepIn K (.ref f) = true ∧ ∀ (s : Shared) (us : List Value), K.In s.heap → us.length = ks.length → BindsTo s fd ⟨[], ks.zip us⟩ (ps.zip us.reverse)
def tCallR (sp : Sp) (E : XK) (tk : TA) : TE := fun σ H Q => tk σ H fun vs H1 => sp vs.reverse H1 Q E
theorem CalR.up {P : Program} {w : World} {K : PySem.W.Frag} {mg : Str → Option Value} {base : Heap} {j k : Nat} {x : Str} {ps ks : List Str} {sp : Sp} (C : CalR P w K mg base j x ps ks sp) (h : j ≤ k) : CalR P w K mg base k x ps ks sp :=
  let ⟨f, fd, F, r⟩ := C
  ⟨f, fd, F.up h, r⟩
section
variable {X : Cx} {k : Nat} {ps ks : List Str} {sp : Sp} {E : XK} {x : Str} {p pos : Pos} {kws : List Keyword} {tk : TA}
theorem g_callR (C : CalR X.prog X.w X.K X.mg X.base k x ps ks sp) (r : Rm k X.A) (hg : Gl X x) (hx : Passes (L2.CX X.prog X.w) X E) (hkw : PK X kws tk) (hdb : (x == ("__debug__" : Str)) = false := by decide)
    (hall : (backToKw pos (keywordEach kws X.env)).all (·.1.isSome) = true := by rfl) (hks : (backToKw pos (keywordEach kws X.env)).filterMap (·.1) = ks := by rfl) (hln : kws.length = ks.length := by rfl)
    (hpl : ((backTo pos (starEach [] X.env)).any (·.1) || (backToKw pos (keywordEach kws X.env)).any (·.1.isNone)) = false := by rfl) (hpk : ps.length = ks.length := by rfl) :
    PE X (.Call (.Name x p) [] kws pos) (tCallR sp E tk) := by
  obtain ⟨f, fd, F, hm, hk, hb⟩ := C
  constructor
  intro pins s σ H Q I h
  apply wpAny_Call_Name_kw
  refine ld_glob I hg hm ?_ hdb
  refine PySem.W.callWith_KW0 (h₀ := X.base) I.ok.mod.kin hk hall ?_ hpl
  refine thn (hkw.run pos pins s σ H _ I h) ?_
  rintro ws s1 ⟨zs, H1, I1, rz, q⟩
  refine ⟨I1.kIn, ?_⟩
  rw [hks]
  have hz := F.arity _ _ _ _ q
  rw [List.length_reverse, hpk] at hz
  exact fn_go F r (hb s1 ws I1.kIn (by rw [← rz.length]; exact hz)) hx I1 rz.reverse q
end
end G
namespace M74
open PySem PySem.Spec PyProof.Rows L2 G
local macro_rules | `(tactic| walk_at "hp") => `(tactic| first | assumption | exact Own.at0 (by assumption) | exact Own.at1 (by assumption) | exact Own.at2 (by assumption) | exact Own.at3 (by assumption) | exact Own.sub (by assumption) _ _ (by assumption) | exact upd_same)
local macro_rules | `(tactic| walk_at "hl") => `(tactic| first | assumption | exact SqL.of (by walk_at "hp") | exact Own.seq (by assumption) (by assumption) | exact Own.seq (by assumption) (SqL.of (by assumption)))
local macro_rules | `(tactic| walk_at "ht") => `(tactic| first | assumption | exact SqT.of (by walk_at "hp") | exact Own.set (by assumption) (by assumption) | exact Own.set (by assumption) (SqT.of (by assumption)))
local macro_rules | `(tactic| walk_at "n") => `(tactic| (intros; (try dsimp only [List.set, wipe, List.map, List.set_cons_succ, List.set_cons_zero]); (try exact rfl)))
local macro_rules | `(tactic| walk_at "n1") => `(tactic| with_reducible first | (refine x_asgN (σ' := ?s) ?hs ?q; (case hs => walk_at "n")) | (refine x_gN (σ' := ?s) ?hs ?q; (case hs => walk_at "n")) | (refine And.intro (show wipe _ _ = _ from (by walk_at "n")) ?_) | (refine x_parN (σ' := ?s) ?hs ?q; (case hs => walk_at "n")) | (refine x_par3N (σ' := ?s) ?hs ?q; (case hs => walk_at "n")))
local macro_rules | `(tactic| walk_at "v1") => `(tactic| ((with_reducible refine x_var (v := ?v) ?h ?q); (case h => first | exact rfl | assumption)))
local macro_rules | `(tactic| walk_at "s1") => `(tactic| with_reducible first | refine x_op ?_ | refine x_acons ?_ | refine x_c ?_ | refine x_call ?_ | refine x_anil ?_ | refine x_cb ?_ | refine x_seq ?_ | refine x_asgG ?_ | refine x_gC ?_ | refine x_gNl ?_ | refine x_ret ?_ | refine x_ifs ?_ | refine x_test ?_ | refine x_testb ?_ | refine x_and ?_ | refine x_or ?_ | refine x_andV ?_ | refine x_isB ?_ | refine x_add ?_ | refine x_lt ?_ | refine x_inti ?_ | refine x_isI ?_ | refine x_lst ?_ | refine x_tup ?_ | refine x_slice ?_ | refine x_nop ?_ | refine x_part ?_ | refine x_bm ?_ | refine x_sub ?_ | refine x_rI0 ?_ | refine x_drop ?_ | refine x_next ?_ | refine x_brk ?_ | refine x_cnt ?_ | refine x_par2 ?_ | refine x_par33 ?_ | refine x_un ?_ | refine x_rU ?_ | refine x_le ?_ | refine x_gt ?_ | refine x_ge ?_ | refine x_lts ?_ | refine x_intb ?_ | refine x_abs ?_ | refine x_tru ?_ | refine x_trub ?_ | refine x_trui ?_ | refine x_not ?_ | refine x_orV ?_ | refine x_notV ?_ | refine x_if ?_ | refine x_isN ?_ | refine x_isnN ?_ | refine x_dict ?_ | refine x_bm0 ?_ | refine x_revL ?_ | refine x_lcR ?_ | refine x_lcS ?_ | refine x_forR ?_ | refine x_forS ?_ | refine x_yes ?_ | refine ite_t ?_ | refine ite_f ?_)
local macro_rules | `(tactic| walk_at "s") => `(tactic| repeat (first | walk_at "v1" | walk_at "s1" | walk_at "n1"))
local macro_rules | `(tactic| walk_at "bd") => `(tactic| first | decide | omega | exact Nat.le_refl _)
local macro_rules | `(tactic| walk_at "ft") => `(tactic| first
  | with_reducible exact la_nil | with_reducible exact fa_nil | with_reducible exact ft_non | with_reducible exact ft_bl | with_reducible exact ft_dict | ((with_reducible refine ft_str (n := 10) (x := ?x) ?h); (case h => exact And.intro rfl (by decide))) | ((with_reducible refine ft_int (i := ?i) ?h); (case h => decide))
  | ((with_reducible refine ft_var (v := ?v) (m := ?m) (n := ?n) ?h ?f); (case h => exact rfl); (case f => assumption))
  | ((with_reducible refine fa_cons (m1 := ?a) (n1 := ?b) (m2 := ?c) (n2 := ?d) ?f ?g); (case f => walk_at "ft"); (case g => walk_at "ft"))
  | ((with_reducible refine ft_tup (m := ?m) (n := ?n) ?f ?h); (case f => walk_at "ft"); (case h => walk_at "bd"))
  | ((with_reducible refine ft_lst (m := ?m) (n := ?n) ?f ?h); (case f => walk_at "ft"); (case h => walk_at "bd"))
  | ((with_reducible refine la_cons (m1 := ?a) (n1 := ?b) (B := ?c) ?f ?g ?h ?i); (case f => walk_at "ft"); (case h => walk_at "bd"); (case i => walk_at "bd"); (case g => walk_at "ft"))
  | ((with_reducible refine lt_var (v := ?v) (m := ?m) (n := ?n) (B := ?b) ?h ?f); (case h => exact rfl); (case f => assumption))
  | ((with_reducible refine lt_add (B1 := ?a) (B2 := ?b) ?f ?g ?h); (case f => walk_at "ft"); (case g => walk_at "ft"); (case h => walk_at "bd"))
  | ((with_reducible refine ft_addsv (x := ?x) (m := ?m) (n := 10) ?h ?s ?a ?z); (case h => exact rfl); (case s => assumption); (case a => exact And.intro rfl (by decide)); (case z => decide))
  | ((with_reducible refine lt_lst ?f ?h); (case f => walk_at "ft"); (case h => walk_at "bd")))
section
variable {P : Program} {w : World} {K : PySem.W.Frag} {mg : Str → Option Value} {base : Heap} {k : Nat}
theorem x_chain {r r' : R2} {ta tb tc : TE} {σ : L2.St} {H : Hp} {Q : VK} (h : ta σ H fun x H1 => tb σ H1 fun y H2 => r x y H2 fun z H3 => ∃ k, z = .bl k ∧ (if k = true then tc σ H3 fun w' H4 => r' y w' H4 Q else Q (.bl false) H3)) : tChain r r' ta tb tc σ H Q := h
theorem x_callR {sp : Sp} {E : XK} {tk : TA} {σ : L2.St} {H : Hp} {Q : VK} (h : tk σ H fun vs H1 => sp vs.reverse H1 Q E) : tCallR sp E tk σ H Q := h
abbrev s__law_asked_right : Stmt := top 31
theorem sc__law_asked_right : FnScope ["ways", "tests", "value", "by_name", "due", "before", "turn", "told", "item"] ["ways", "tests", "value", "by_name"] (defScope s__law_asked_right) := ⟨rfl, rfl, rfl, by decide +kernel, rfl, by decide +kernel, by decide +kernel⟩
/-- ways as handed in: their data, too -/
def HW (K : PySem.W.Frag) (G : Hp) (a : Addr) (xs : List Str) : Prop := ∃ ys, (SqL K G a ys ∨ SqT K G a ys) ∧ WyL K G ys xs ∧ Fn K G 2 400 (.ref a)
def HT' (K : PySem.W.Frag) (G : Hp) (t : Addr) (ts : List Str) : Prop := (SqL K G t (ts.map V.str) ∨ SqT K G t (ts.map V.str)) ∧ Fn K G 1 400 (.ref t)
theorem HW.same {G G' : Hp} {a : Addr} {xs : List Str} (h : HW K G a xs) (s : Same G G') : HW K G' a xs := let ⟨ys, h1, h2, h3⟩ := h; ⟨ys, sq_same s h1, h2.same s, h3.same s⟩
theorem HT'.same {G G' : Hp} {t : Addr} {ts : List Str} (h : HT' K G t ts) (s : Same G G') : HT' K G' t ts := ⟨sq_same s h.1, h.2.same s⟩
def sp_asked (K : PySem.W.Frag) : Sp := fun vs H Q _ => ∃ (G : Hp) (R : List (Addr × HO)) (a t : Addr) (xs ts : List Str) (v : V) (c : Bool), vs = [.ref a, .ref t, v, .bl c] ∧ Own G H R ∧ HW K G a xs ∧ xs.length ≤ 1000 ∧ HT' K G t ts ∧ Fn K G 25 100000 v ∧
  ∀ (G' H' : Hp), Same G G' → Own G' H' R → Q (.bl true) H'
theorem ok_asked {f : Addr} {fd : FuncData} (F : Fun K "_law_asked_right" "_law_asked_right" s__law_asked_right f fd) (B : Bt mg) (C__law_deep : Cal P w K mg base k "_law_deep" ["names", "tests", "value"] (sp_deep K 30))
    (C_is_formula : Cal P w K mg base k "is_formula" ["ways", "tests", "value"] (sp_isf K)) (C_is_formula_k : CalR P w K mg base k "is_formula" ["ways", "tests", "value"] ["value", "tests", "ways"] (sp_isf K)) :
    FnG P w K mg base (k + 1) f fd ["ways", "tests", "value", "by_name"] (sp_asked K) := by
  refine fnG_of F sc__law_asked_right (fun vs H Q E h => ?_) (fun cdv A outer s H vs Q E r h => ?_)
  · obtain ⟨_, _, a, t, xs, ts, v, c, rfl, _⟩ := h
    rfl
  · obtain ⟨G, R, a, t, xs, ts, v, c, rfl, O, hw, lx, ht, ⟨d, hd, bd⟩, q⟩ := h
    refine ⟨_, (pss_cons (ps_par (i := 4) (j := 5) rfl sc__law_asked_right.nd rfl rfl (by decide) rfl rfl (pa_cons (pe_chain oLe oLe pe_int (g_call C__law_deep r (by rfl) passL (pa_cons (pe_lc (own := [("item", 8)]) rfl sc__law_asked_right.nd (pi_sqK (K := K) rfl (pv 0)) (blkOk_by (N := ["ways", "tests", "value", "by_name", "due", "before", "turn", "told", "item"]) (sc := defScope s__law_asked_right) (by decide +kernel)) (fun _ _ _ _ _ => (pg_name (i := 8) sc__law_asked_right.nd rfl (Or.inl rfl))) (fun _ _ _ _ _ => pts_nil) (fun _ _ _ _ _ => (pe_ix (ixK (K := K) rfl) (pv 8) pe_int (fun _ _ => rfl)))) (pa_cons (pv 1) (pa_cons (pv 2) pa_nil)))) pe_int) (pa_cons (pe_callB (cReprK (K := K) rfl r) (by rfl) B.repr (by decide +kernel) (pa_cons (d_lst (pa_cons (pv 0) (pa_cons (pv 1) (pa_cons (pv 2) pa_nil)))) pa_nil)) pa_nil)) (by rfl))
       (pss_cons (ps_for (passes_of rfl) rfl (pi_range1 (by rfl) B.range (pa_cons pe_int pa_nil)) (pg_name (i := 6) sc__law_asked_right.nd rfl (Or.inl rfl))
       (pss_cons (ps_set (i := 7) sc__law_asked_right.nd rfl (Or.inl rfl) (pe_ifExp (pt_truK (K := K) rfl (pv 3)) (g_callR C_is_formula_k r (by rfl) passL (pk_cons (pv 2) (pk_cons (pv 1) (pk_cons (pv 0) pk_nil)))) (g_call C_is_formula r (by rfl) passL (pa_cons (pv 0) (pa_cons (pv 1) (pa_cons (pv 2) pa_nil))))))
       (pss_one (ps_if (PW.pt (pw_or (pt_cmpR (oNeK (K := K) rfl r) (pe_callB (cReprK (K := K) rfl r) (by rfl) B.repr (by decide +kernel) (pa_cons (pv 7) pa_nil)) (pe_callB (cReprK (K := K) rfl r) (by rfl) B.repr (by decide +kernel) (pa_cons (pv 4) pa_nil)) (nomark _)) (pw_or1 (pt_cmpR (oNeK (K := K) rfl r) (pe_callB (cReprK (K := K) rfl r) (by rfl) B.repr (by decide +kernel) (pa_cons (d_lst (pa_cons (pv 0) (pa_cons (pv 1) (pa_cons (pv 2) pa_nil)))) pa_nil)) (pv 5) (nomark _)))))
       (pss_one (ps_ret pe_bl))
       pss_nil))))
       (pss_one (ps_ret pe_bl)))), ?_⟩
    try dsimp only [cxOf]
    refine x_start (σ' := [some _, some _, some _, some _, none, none, none, none, none]) rfl ?_
    obtain ⟨ys, hy, wy, fw⟩ := hw
    obtain ⟨dw, hdw, bw⟩ := fw
    obtain ⟨dt, hdt, bt⟩ := ht.2
    have bl : Bd 26 100803 (.list [dw, dt, d]) := ((BdL.cons bw (BdL.cons bt (BdL.cons bd BdL.nil))).lst).mono (by decide) (by decide)
    have shw : ∀ (σ0 : L2.St) (G1 H1 : Hp) (Q2 : VK), Same G G1 → Own G1 H1 R → (∀ G2 H2, Same G1 G2 → Own G2 H2 R → Q2 (.str (PyData.list [dw, dt, d]).shown) H2) → nw (.lst [V.ref a, V.ref t, v]) H1 (fun y H2 => tNil σ0 H2 fun zs H3 => rRepr K (y :: zs) H3 Q2) := fun σ0 G1 H1 Q2 s1 O1 k => by
      refine x_fix O1 fun p G2 H2 s2 O2 e2 => ?_
      have s12 := s1.trans s2
      refine x_anil ?_
      exact x_reprB (.lst (SqL.of (O2.sub _ _ e2)) (.cons (O2.dt (hdw.mono s12)) (.cons (O2.dt (hdt.mono s12)) (.cons (O2.dt (hd.mono s12)) .nil)))) bl (by decide) (by decide) (k G2 H2 s2 O2)
    walk_at "s"
    have lcn : ∀ J Gd (W : Walk J ys.length Gd (YAt ys)) (hG : ∀ (G' H' : Hp) (D : Addr) (acc : List V), Same G G' → Own G' H' ((D, .lst acc) :: R) → Gd H') (Q2 : VK),
        (∀ (G' H' : Hp) (p : Addr), Same G G' → Own G' H' R → G' p = some (.lst (xs.map V.str)) → Q2 (.ref p) H') →
        tLc (iAt J) (gName 8) tYes (tOp (rIx K) (tVar 8) (tC (V.int 0))) (List.map (fun x => x.snd) [(Str.ofString "item", 8)]) [some (V.ref a), some (V.ref t), some v, some (V.bl c), none, none, none, none, none] H Q2 := by
      intro J Gd W hG Q2 k2
      refine lc_map (by walk_at "n") W O (by rw [wy.1]; omega) (fun _ i y => ∃ x, xs[i]? = some x ∧ y = V.str x) (fun _ _ _ _ _ z => z) hG ?_ gm_name ?_
      · rintro i x G' H' H2 D acc hi s' O' ⟨rfl, ex⟩ kk
        obtain ⟨y, z, b, ey, rfl, hb⟩ := wy.2 i x ex
        walk_at "s"
        refine x_ixt (i := 0) (O'.set (same_t s' hb)) at_0 ?_
        exact kk _ _ _ (Same.refl _) O' ⟨_, ey, rfl⟩
      intro G9 H9 p9 bs s9 O9 e9 l9 r9
      refine k2 G9 H9 p9 s9 O9 ?_
      rw [e9, eq_of_ix (by rw [l9, wy.1]) r9]
    have both : ∀ Q2 : VK, (∀ (G' H' : Hp) (p : Addr), Same G G' → Own G' H' R → G' p = some (.lst (xs.map V.str)) → Q2 (.ref p) H') →
        ∃ a_1 xs_1, V.ref a = .ref a_1 ∧ ((SqL K H a_1 xs_1 ∧ tLc (iAt (Itl K a_1)) (gName 8) tYes (tOp (rIx K) (tVar 8) (tC (V.int 0))) (List.map (fun x => x.snd) [(Str.ofString "item", 8)]) [some (V.ref a), some (V.ref t), some v, some (V.bl c), none, none, none, none, none] H Q2) ∨
          (SqT K H a_1 xs_1 ∧ tLc (iAt (Itt K a_1)) (gName 8) tYes (tOp (rIx K) (tVar 8) (tC (V.int 0))) (List.map (fun x => x.snd) [(Str.ofString "item", 8)]) [some (V.ref a), some (V.ref t), some v, some (V.bl c), none, none, none, none, none] H Q2)) := fun Q2 k2 => by
      rcases hy with h | h
      · exact x_sqL (O.seq h) (lcn _ _ walk_list (fun G' H' D acc s' O' => O'.seq (s'.seq h)) _ k2)
      · exact x_sqT (O.set h) (lcn _ _ walk_tup (fun G' H' D acc s' O' => O'.set (same_t s' h)) _ k2)
    refine x_eval (fun v' H' => ∃ G' : Hp, v' = V.bl (wf xs ts 5 d) ∧ Same G G' ∧ Own G' H' R) (fun Q2 fin2 => x_chain ?_) ?_
    · walk_at "s"
      refine both _ fun G1 H1 p1 s1 O1 e1 => ?_
      walk_at "s"
      refine ⟨G1, R, p1, t, xs, ts, v, d, rfl, O1, .inl (SqL.of e1), sq_same s1 ht.1, hd.mono s1, bd.wt, by have := bd.dep; omega, fun G2 H2 s2 O2 => ?_⟩
      have s12 := s1.trans s2
      walk_at "s"
      refine ite_b (fun c1 => ?_) (fun c1 => ?_)
      · walk_at "s"
        refine fin2 _ _ ⟨G2, ?_, s12, O2⟩
        rw [wf_eq]
        refine congrArg V.bl (decide_eq_decide.mpr ?_)
        have := of_decide_eq_true c1
        omega
      · refine fin2 _ _ ⟨G2, ?_, s12, O2⟩
        rw [wf_eq]
        have := of_decide_eq_false c1
        refine congrArg V.bl (decide_eq_false ?_).symm
        omega
    rintro v' H3 ⟨G3, rfl, s3, O3⟩
    generalize hT : (PyData.list [dw, dt, d]).shown = T at shw
    walk_at "s"
    refine ⟨by show 3 ≤ sizeLine; decide, shw _ G3 H3 _ s3 O3 fun G4 H4 s4' O4 => ?_⟩
    have s4 := s3.trans s4'
    refine x_anil (x_par2 (x_seq ?_))
    refine x_forR ?_
    walk_at "s"
    refine x_rg (by decide) (by decide) ?_
    refine for_own walk_range O4 (fun i σ G' L' => ∃ (x6 x7 : Option V), σ = [some (.ref a), some (.ref t), some v, some (.bl c), some (.bl (wf xs ts 5 d)), some (.str T), x6, x7, none] ∧ R = L') ⟨none, none, rfl, rfl⟩ (fun _ _ _ _ _ _ _ _ => True.intro) ?_ ?_
    · rintro i x σ G' H' H2 L' hi s' O' ⟨x6, x7, rfl, rfl⟩ ⟨rfl, rfl⟩
      have s5 := s4.trans s'
      walk_at "n1"
      have hw5 : HW K G' a xs := HW.same ⟨ys, hy, wy, dw, hdw, bw⟩ s5
      have spec : ∀ Q2 : VK, (∀ G6 H6, Same G' G6 → Own G6 H6 R → Q2 (.bl (wf xs ts 5 d)) H6) → sp_isf K [V.ref a, V.ref t, v] H2 Q2 E0 := fun Q2 k2 =>
        ⟨G', R, a, t, ys, xs, ts, v, d, rfl, O', sq_same s5 hy, wy.same s5, lx, sq_same s5 ht.1, hd.mono s5, bd.wt, k2⟩
      refine x_seq (x_asgG (x_eval (fun v' H' => ∃ G6 : Hp, v' = V.bl (wf xs ts 5 d) ∧ Same G' G6 ∧ Own G6 H' R) (fun Q2 fin2 => ?_) ?_))
      · walk_at "s"
        cases c with
        | true =>
          walk_at "s"
          refine x_callR ?_
          walk_at "s"
          exact spec _ fun G6 H6 s6 O6 => fin2 _ _ ⟨G6, rfl, s6, O6⟩
        | false =>
          walk_at "s"
          exact spec _ fun G6 H6 s6 O6 => fin2 _ _ ⟨G6, rfl, s6, O6⟩
      rintro v' H6 ⟨G6, rfl, s6, O6⟩
      have s56 := s5.trans s6
      walk_at "s"
      refine x_reprB (.bl _) (m := 0) (n := 0) ⟨rfl, Nat.le_refl _, Nat.le_refl _⟩ (by decide) (by decide) ?_
      walk_at "s"
      refine x_reprB (.bl _) (m := 0) (n := 0) ⟨rfl, Nat.le_refl _, Nat.le_refl _⟩ (by decide) (by decide) ?_
      refine x_ne rfl ?_
      rw [decide_eq_true rfl]
      walk_at "s"
      refine ite_f ?_
      walk_at "s"
      refine ⟨by show 3 ≤ sizeLine; decide, shw _ G6 H6 _ s56 O6 fun G7 H7 s7 O7 => ?_⟩
      walk_at "s"
      refine x_ne rfl ?_
      rw [decide_eq_true rfl]
      walk_at "s"
      refine ite_f ?_
      walk_at "s"
      exact fvh ((s'.trans s6).trans s7) O7 ⟨_, _, rfl, rfl⟩
    · rintro σ G' H' L' s' O' ⟨x6, x7, rfl, rfl⟩
      walk_at "s"
      exact q G' H' (s4.trans s') O'
end
end M74
set_option maxHeartbeats 4000000
namespace M74
open PySem PySem.Spec PyProof.Rows L2 G
local macro_rules | `(tactic| walk_at "hp") => `(tactic| first | assumption | exact Own.at0 (by assumption) | exact Own.at1 (by assumption) | exact Own.at2 (by assumption) | exact Own.at3 (by assumption) | exact Own.sub (by assumption) _ _ (by assumption) | exact upd_same)
local macro_rules | `(tactic| walk_at "hl") => `(tactic| first | assumption | exact SqL.of (by walk_at "hp") | exact Own.seq (by assumption) (by assumption) | exact Own.seq (by assumption) (SqL.of (by assumption)))
local macro_rules | `(tactic| walk_at "ht") => `(tactic| first | assumption | exact SqT.of (by walk_at "hp") | exact Own.set (by assumption) (by assumption) | exact Own.set (by assumption) (SqT.of (by assumption)))
local macro_rules | `(tactic| walk_at "n") => `(tactic| (intros; (try dsimp only [List.set, wipe, List.map, List.set_cons_succ, List.set_cons_zero]); (try exact rfl)))
local macro_rules | `(tactic| walk_at "n1") => `(tactic| with_reducible first | (refine x_asgN (σ' := ?s) ?hs ?q; (case hs => walk_at "n")) | (refine x_gN (σ' := ?s) ?hs ?q; (case hs => walk_at "n")) | (refine And.intro (show wipe _ _ = _ from (by walk_at "n")) ?_) | (refine x_parN (σ' := ?s) ?hs ?q; (case hs => walk_at "n")) | (refine x_par3N (σ' := ?s) ?hs ?q; (case hs => walk_at "n")))
local macro_rules | `(tactic| walk_at "v1") => `(tactic| ((with_reducible refine x_var (v := ?v) ?h ?q); (case h => first | exact rfl | assumption)))
local macro_rules | `(tactic| walk_at "s1") => `(tactic| with_reducible first | refine x_op ?_ | refine x_acons ?_ | refine x_c ?_ | refine x_call ?_ | refine x_anil ?_ | refine x_cb ?_ | refine x_seq ?_ | refine x_asgG ?_ | refine x_gC ?_ | refine x_gNl ?_ | refine x_ret ?_ | refine x_ifs ?_ | refine x_test ?_ | refine x_testb ?_ | refine x_and ?_ | refine x_or ?_ | refine x_andV ?_ | refine x_isB ?_ | refine x_add ?_ | refine x_lt ?_ | refine x_inti ?_ | refine x_isI ?_ | refine x_lst ?_ | refine x_tup ?_ | refine x_slice ?_ | refine x_nop ?_ | refine x_part ?_ | refine x_bm ?_ | refine x_sub ?_ | refine x_rI0 ?_ | refine x_drop ?_ | refine x_next ?_ | refine x_brk ?_ | refine x_cnt ?_ | refine x_par2 ?_ | refine x_par33 ?_ | refine x_un ?_ | refine x_rU ?_ | refine x_le ?_ | refine x_gt ?_ | refine x_ge ?_ | refine x_lts ?_ | refine x_intb ?_ | refine x_abs ?_ | refine x_tru ?_ | refine x_trub ?_ | refine x_trui ?_ | refine x_not ?_ | refine x_orV ?_ | refine x_notV ?_ | refine x_if ?_ | refine x_isN ?_ | refine x_isnN ?_ | refine x_dict ?_ | refine x_bm0 ?_ | refine x_revL ?_ | refine x_lcR ?_ | refine x_lcS ?_ | refine x_forR ?_ | refine x_forS ?_ | refine x_yes ?_ | refine ite_t ?_ | refine ite_f ?_)
local macro_rules | `(tactic| walk_at "s") => `(tactic| repeat (first | walk_at "v1" | walk_at "s1" | walk_at "n1"))
local macro_rules | `(tactic| walk_at "bd") => `(tactic| first | decide | omega | exact Nat.le_refl _)
local macro_rules | `(tactic| walk_at "ft") => `(tactic| first
  | with_reducible exact la_nil | with_reducible exact fa_nil | with_reducible exact ft_non | with_reducible exact ft_bl | with_reducible exact ft_dict | ((with_reducible refine ft_str (n := 10) (x := ?x) ?h); (case h => exact And.intro rfl (by decide))) | ((with_reducible refine ft_int (i := ?i) ?h); (case h => decide))
  | ((with_reducible refine ft_var (v := ?v) (m := ?m) (n := ?n) ?h ?f); (case h => exact rfl); (case f => assumption))
  | ((with_reducible refine fa_cons (m1 := ?a) (n1 := ?b) (m2 := ?c) (n2 := ?d) ?f ?g); (case f => walk_at "ft"); (case g => walk_at "ft"))
  | ((with_reducible refine ft_tup (m := ?m) (n := ?n) ?f ?h); (case f => walk_at "ft"); (case h => walk_at "bd"))
  | ((with_reducible refine ft_lst (m := ?m) (n := ?n) ?f ?h); (case f => walk_at "ft"); (case h => walk_at "bd"))
  | ((with_reducible refine la_cons (m1 := ?a) (n1 := ?b) (B := ?c) ?f ?g ?h ?i); (case f => walk_at "ft"); (case h => walk_at "bd"); (case i => walk_at "bd"); (case g => walk_at "ft"))
  | ((with_reducible refine lt_var (v := ?v) (m := ?m) (n := ?n) (B := ?b) ?h ?f); (case h => exact rfl); (case f => assumption))
  | ((with_reducible refine lt_add (B1 := ?a) (B2 := ?b) ?f ?g ?h); (case f => walk_at "ft"); (case g => walk_at "ft"); (case h => walk_at "bd"))
  | ((with_reducible refine ft_addsv (x := ?x) (m := ?m) (n := 10) ?h ?s ?a ?z); (case h => exact rfl); (case s => assumption); (case a => exact And.intro rfl (by decide)); (case z => decide))
  | ((with_reducible refine lt_lst ?f ?h); (case f => walk_at "ft"); (case h => walk_at "bd")))
section
variable {P : Program} {w : World} {K : PySem.W.Frag} {mg : Str → Option Value} {base : Heap} {k : Nat}
theorem wys {G : Hp} : ∀ {ys : List V}, (∀ y ∈ ys, Wy K G y) → ∃ xs : List Str, WyL K G ys xs ∧ (∀ x ∈ xs, St 10 x) ∧ ∀ y ∈ ys, Fn K G 1 22 y
  | [], _ => ⟨[], ⟨rfl, fun i y e => by simp at e⟩, (fun _ z => nomatch z), fun _ z => nomatch z⟩
  | y :: ys, h => by
    obtain ⟨a, x, z, rfl, ht, sx, sz⟩ := h y List.mem_cons_self
    obtain ⟨xs, hw, hx, hf⟩ := wys fun w hw => h w (List.mem_cons_of_mem _ hw)
    refine ⟨x :: xs, ⟨by rw [List.length_cons, List.length_cons, hw.1], fun i y e => ?_⟩, fun w hw' => ?_, fun w hw' => ?_⟩
    · cases i with
      | zero =>
        rw [List.getElem?_cons_zero] at e
        cases e
        exact ⟨x, z, a, rfl, rfl, ht⟩
      | succ i =>
        rw [List.getElem?_cons_succ] at e
        obtain ⟨x', z', a', e1, e2, e3⟩ := hw.2 i y e
        exact ⟨x', z', a', by rw [List.getElem?_cons_succ]; exact e1, e2, e3⟩
    · rcases List.mem_cons.mp hw' with rfl | hw'
      · exact sx
      · exact hx w hw'
    · rcases List.mem_cons.mp hw' with rfl | hw'
      · exact ((FnL.cons (Fn.str sx) (FnL.cons (Fn.str sz) FnL.nil)).tup ht).mono (by decide) (by decide)
      · exact hf w hw'
theorem Nm.ht {G : Hp} {t : Addr} {ts : List Str} (h : Nm G t ts) (l : ts.length ≤ 20) : HT' K G t ts :=
  ⟨.inl (SqL.of h.1), ((FnL.strs h.2).lst (SqL.of h.1)).mono (by omega) (by omega)⟩
theorem tup_ht {G : Hp} {t : Addr} {ts : List Str} (h : SqT K G t (ts.map V.str)) (hx : ∀ x ∈ ts, St 10 x) (l : ts.length ≤ 20) : HT' K G t ts :=
  ⟨.inr h, ((FnL.strs hx).tup h).mono (by omega) (by omega)⟩
theorem cut_strs (xs : List Str) (lo hi : Option Int) : ∃ zs : List Str, cutV (xs.map V.str) lo hi = zs.map V.str ∧ zs.length ≤ xs.length ∧ ∀ z ∈ zs, z ∈ xs := by
  refine ⟨(xs.drop (HT.sIx (xs.map V.str).length 0 lo)).take (HT.sIx (xs.map V.str).length (xs.map V.str).length hi - HT.sIx (xs.map V.str).length 0 lo), ?_, ?_, fun z hz => List.mem_of_mem_drop (List.mem_of_mem_take hz)⟩
  · unfold cutV
    rw [List.map_take, List.map_drop]
  · rw [List.length_take, List.length_drop]
    omega
/-- one of the seven is not among six -/
theorem pigeon : ∀ {ls ts : List Str}, ls.Nodup → ts.length < ls.length → ∃ x ∈ ls, ts.contains x = false
  | [], ts, _, h => absurd h (Nat.not_lt_zero _)
  | l :: ls, ts, nd, h => by
    cases hc : ts.contains l with
    | false => exact ⟨l, List.mem_cons_self, hc⟩
    | true =>
      have nd' := List.nodup_cons.mp nd
      have hm : l ∈ ts := by simpa using hc
      obtain ⟨x, hx, hn⟩ := pigeon (ls := ls) (ts := ts.erase l) nd'.2 (by rw [List.length_erase_of_mem hm]; rw [List.length_cons] at h; have := List.length_pos_of_mem hm; omega)
      refine ⟨x, List.mem_cons_of_mem _ hx, ?_⟩
      have hne : x ≠ l := fun e => nd'.1 (e ▸ hx)
      cases hc2 : ts.contains x with
      | false => rfl
      | true =>
        have hm2 : x ∈ ts := by simpa using hc2
        have : x ∈ ts.erase l := (List.mem_erase_of_ne hne).mpr hm2
        rw [show (ts.erase l).contains x = true by simpa using this] at hn
        cases hn
theorem num_st {i : Int} (h0 : 0 ≤ i) (h1 : i < 9) : St 1 (Str.ofString (toString i)) := by
  have : ∀ n : Fin 9, (asc (Str.ofString (toString (n.val : Int))) && decide ((Str.ofString (toString (n.val : Int))).length ≤ 1)) = true := by decide +kernel
  obtain ⟨n, rfl⟩ := Int.eq_ofNat_of_zero_le h0
  have z := this ⟨n, by omega⟩
  simp only [Bool.and_eq_true, decide_eq_true_eq] at z
  exact z
theorem ft_at0 {G0 : Hp} {σ : L2.St} {i : Nat} {p : Addr} {us : List Str} (h : σ[i]? = some (some (.ref p))) (a : Nm G0 p us) (l : 1 ≤ us.length) : FT K G0 σ 0 10 (tOp (rIx K) (tVar i) (tC (.int 0))) := fun G H L Q s O kk => by
  obtain ⟨e, se⟩ := (a.same s).at (i := 0) (by omega)
  exact x_op (x_var h (x_c (x_ixl (i := 0) (SqL.of (O.sub _ _ (a.same s).1)) e (kk G H _ (Same.refl _) O (Fn.str se)))))
local macro_rules | `(tactic| walk_at "ft") => `(tactic| ((with_reducible refine ft_at0 (p := ?p) (us := ?u) ?h ?a ?l); (case h => exact rfl); (case a => assumption); (case l => assumption)))
abbrev s__law_cell_right : Stmt := top 32
theorem sc__law_cell_right : FnScope ["box", "many", "size", "by_name", "spot", "like", "deep", "ways", "names", "tests", "word", "free", "handed", "right", "chain", "level", "more", "test", "extra", "value", "words", "turn", "item", "one"] ["box"] (defScope s__law_cell_right) := ⟨rfl, rfl, rfl, by decide +kernel, rfl, by decide +kernel, by decide +kernel⟩
def sp_cr : Sp := fun vs H Q _ => ∃ (G : Hp) (R : List (Addr × HO)) (b : Addr) (bx : List V), vs = [.ref b] ∧ Own G H ((b, .lst bx) :: R) ∧ Box 1000000000 bx ∧
  ∀ (G' H' : Hp) bx', Same G G' → Own G' H' ((b, .lst bx') :: R) → Q (.bl true) H'
theorem ok_cr {f : Addr} {fd : FuncData} (F : Fun K "_law_cell_right" "_law_cell_right" s__law_cell_right f fd) (B : Bt mg) (C__law_take : Cal P w K mg base k "_law_take" ["box", "many"] sp_take)
    (C__law_ways : Cal P w K mg base k "_law_ways" ["box"] (sp_ways K)) (C__law_names : Cal P w K mg base k "_law_names" ["box", "many"] sp_names) (C__law_taboo : Cal P w K mg base k "_law_taboo" [] sp_taboo)
    (C__law_formula : Cal P w K mg base k "_law_formula" ["box", "names", "tests", "deep", "full"] (sp_formula K 6)) (C__law_asked_right : Cal P w K mg base k "_law_asked_right" ["ways", "tests", "value", "by_name"] (sp_asked K))
    (C__law_part : Cal P w K mg base k "_law_part" ["box", "names", "tests"] (sp_part K)) (C__law_odds : Cal P w K mg base k "_law_odds" ["names", "t", "word", "free"] (sp_odds K))
    (C__law_within : Cal P w K mg base k "_law_within" ["box", "value", "many", "test"] (sp_within K)) (C__law_changed : Cal P w K mg base k "_law_changed" ["box", "value", "words"] (sp_changed K)) :
    FnG P w K mg base (k + 1) f fd ["box"] sp_cr := by
  refine fnG_of F sc__law_cell_right (fun vs H Q E h => ?_) (fun cdv A outer s H vs Q E r h => ?_)
  · obtain ⟨_, _, b, bx, rfl, _⟩ := h
    rfl
  · obtain ⟨G, R, b, bx, rfl, O, bo, q⟩ := h
    refine ⟨_, (pss_cons (ps_asg (d_tup (pa_cons (g_call C__law_take r (by rfl) passL (pa_cons (pv 0) (pa_cons pe_int pa_nil))) (pa_cons (g_call C__law_take r (by rfl) passL (pa_cons (pv 0) (pa_cons pe_int pa_nil))) (pa_cons (pe_cmpR (oEqK (K := K) rfl r) (g_call C__law_take r (by rfl) passL (pa_cons (pv 0) (pa_cons pe_int pa_nil))) pe_int (nomark _)) (pa_cons (g_call C__law_take r (by rfl) passL (pa_cons (pv 0) (pa_cons pe_int pa_nil))) pa_nil))))) (pg_tupK (K := K) (n := 4) rfl rfl (pgs_cons (pg_name (i := 1) sc__law_cell_right.nd rfl (Or.inl rfl)) (pgs_cons (pg_name (i := 2) sc__law_cell_right.nd rfl (Or.inl rfl)) (pgs_cons (pg_name (i := 3) sc__law_cell_right.nd rfl (Or.inl rfl)) (pgs_cons (pg_name (i := 4) sc__law_cell_right.nd rfl (Or.inl rfl)) pgs_nil))))))
       (pss_cons (ps_par3 (i := 5) (j := 6) (l := 7) rfl sc__law_cell_right.nd rfl rfl rfl (by decide) (by decide) (by decide) rfl rfl rfl (pa_cons (g_call C__law_take r (by rfl) passL (pa_cons (pv 0) (pa_cons pe_int pa_nil))) (pa_cons (pe_op (oAddK (K := K) rfl) pe_int (g_call C__law_take r (by rfl) passL (pa_cons (pv 0) (pa_cons pe_int pa_nil)))) (pa_cons (g_call C__law_ways r (by rfl) passL (pa_cons (pv 0) pa_nil)) pa_nil))) (by rfl))
       (pss_cons (ps_asg (d_tup (pa_cons (pe_lc (own := [("item", 22)]) rfl sc__law_cell_right.nd (pi_sqK (K := K) rfl (pv 7)) (blkOk_by (N := ["box", "many", "size", "by_name", "spot", "like", "deep", "ways", "names", "tests", "word", "free", "handed", "right", "chain", "level", "more", "test", "extra", "value", "words", "turn", "item", "one"]) (sc := defScope s__law_cell_right) (by decide +kernel)) (fun _ _ _ _ _ => (pg_name (i := 22) sc__law_cell_right.nd rfl (Or.inl rfl))) (fun _ _ _ _ _ => pts_nil) (fun _ _ _ _ _ => (pe_ix (ixK (K := K) rfl) (pv 22) pe_int (fun _ _ => rfl)))) (pa_cons (g_call C__law_names r (by rfl) passL (pa_cons (pv 0) (pa_cons (pe_op (oAddK (K := K) rfl) pe_int (pv 1)) pa_nil))) pa_nil))) (pg_tupK (K := K) (n := 2) rfl rfl (pgs_cons (pg_name (i := 8) sc__law_cell_right.nd rfl (Or.inr rfl)) (pgs_cons (pg_name (i := 9) sc__law_cell_right.nd rfl (Or.inr rfl)) pgs_nil))))
       (pss_cons (ps_if (pt_cmpR (oEqK (K := K) rfl r) (pv 5) pe_int (nomark _))
       (pss_one (ps_set (i := 9) sc__law_cell_right.nd rfl (Or.inr rfl) (pe_slice (oSlK (K := K) rfl) (pe_op (oAddK (K := K) rfl) (pv 8) (pe_lc (own := [("one", 23)]) rfl sc__law_cell_right.nd (pi_sqK (K := K) rfl (pv 9)) (blkOk_by (N := ["box", "many", "size", "by_name", "spot", "like", "deep", "ways", "names", "tests", "word", "free", "handed", "right", "chain", "level", "more", "test", "extra", "value", "words", "turn", "item", "one"]) (sc := defScope s__law_cell_right) (by decide +kernel)) (fun _ _ _ _ _ => (pg_name (i := 23) sc__law_cell_right.nd rfl (Or.inl rfl))) (fun _ _ _ _ _ => (pts_one (pt_cmpR (oNinK (K := K) rfl) (pv 23) (pv 8) (by rfl)))) (fun _ _ _ _ _ => (pv 23)))) po_none (po_some (pe_op (oAddK (K := K) rfl) pe_int (pv 1))))))
       pss_nil)
       (pss_cons (ps_par (i := 10) (j := 11) rfl sc__law_cell_right.nd rfl rfl (by decide) rfl rfl (pa_cons (pe_ix (ixK (K := K) rfl) (g_call0 C__law_taboo r (by rfl) passL) (pv 4) (fun _ _ => rfl)) (pa_cons (pe_op (oAddK (K := K) rfl) (pe_slice (oSlK (K := K) rfl) (pe_ix (ixK (K := K) rfl) (pv 8) pe_int (fun _ _ => rfl)) po_none (po_some pe_int)) pe_str) pa_nil)) (by rfl))
       (pss_cons (ps_set (i := 12) sc__law_cell_right.nd rfl (Or.inl rfl) (pe_ix (ixK (K := K) rfl) (d_lst (pa_cons (pv 7) (pa_cons (pe_callTy (cTupleK (K := K) rfl) (by rfl) B.tuple (by decide +kernel) (pa_cons (pv 7) pa_nil)) pa_nil))) (pe_op op_modN (pe_callTy cInt (by rfl) B.int (by decide +kernel) (pa_cons (pv 4) pa_nil)) pe_int) (fun _ _ => rfl)))
       (pss_cons (ps_set (i := 13) sc__law_cell_right.nd rfl (Or.inl rfl) (g_call C__law_formula r (by rfl) passL (pa_cons (pv 0) (pa_cons (pv 8) (pa_cons (pv 9) (pa_cons (pe_ifExp (pt_cmpR (oEqK (K := K) rfl r) (pv 2) pe_int (nomark _)) pe_int (pv 6)) (pa_cons (pe_cmpR (oEqK (K := K) rfl r) (pv 2) pe_int (nomark _)) pa_nil)))))))
       (pss_cons (ps_if (PW.pt (pw_or (pt_not (pt_truK (K := K) rfl (g_call C__law_asked_right r (by rfl) passL (pa_cons (pv 12) (pa_cons (pv 9) (pa_cons (pv 13) (pa_cons (pv 3) pa_nil))))))) (pw_or1 (pt_not (pt_truK (K := K) rfl (g_call C__law_asked_right r (by rfl) passL (pa_cons (pv 7) (pa_cons (pe_callTy (cTupleK (K := K) rfl) (by rfl) B.tuple (by decide +kernel) (pa_cons (pv 9) pa_nil)) (pa_cons (pv 13) (pa_cons (pe_not (pv 3)) pa_nil))))))))))
       (pss_one (ps_ret pe_bl))
       pss_nil)
       (pss_cons (ps_if (PW.pt (pw_or (pt_not (pt_truK (K := K) rfl (g_call C__law_asked_right r (by rfl) passL (pa_cons (pv 7) (pa_cons (d_lst pa_nil) (pa_cons (pv 13) (pa_cons (pv 3) pa_nil))))))) (pw_or1 (pt_not (pt_truK (K := K) rfl (g_call C__law_asked_right r (by rfl) passL (pa_cons (pv 7) (pa_cons (pe_slice (oSlK (K := K) rfl) (pv 9) (po_some pe_int) po_none) (pa_cons (pv 13) (pa_cons (pv 3) pa_nil))))))))))
       (pss_one (ps_ret pe_bl))
       pss_nil)
       (pss_cons (ps_set (i := 14) sc__law_cell_right.nd rfl (Or.inl rfl) (g_call C__law_part r (by rfl) passL (pa_cons (pv 0) (pa_cons (pv 8) (pa_cons (pv 9) pa_nil)))))
       (pss_cons (ps_for (passes_of rfl) rfl (pi_range1 (by rfl) B.range (pa_cons pe_int pa_nil)) (pg_name (i := 15) sc__law_cell_right.nd rfl (Or.inl rfl))
       (pss_cons (ps_if (pt_not (pt_truK (K := K) rfl (g_call C__law_asked_right r (by rfl) passL (pa_cons (pv 7) (pa_cons (pv 9) (pa_cons (pv 14) (pa_cons (pv 3) pa_nil)))))))
       (pss_one (ps_ret pe_bl))
       pss_nil)
       (pss_one (ps_set (i := 14) sc__law_cell_right.nd rfl (Or.inl rfl) (pe_ix (ixK (K := K) rfl) (d_lst (pa_cons (d_tup (pa_cons pe_str (pa_cons (pv 14) pa_nil))) (pa_cons (d_tup (pa_cons pe_str (pa_cons (d_tup (pa_cons pe_str (pa_cons (pe_ix (ixK (K := K) rfl) (pv 9) pe_int (fun _ _ => rfl)) pa_nil))) (pa_cons (pv 14) pa_nil)))) (pa_cons (d_tup (pa_cons pe_str (pa_cons (pv 14) (pa_cons (d_tup (pa_cons pe_str (pa_cons (pe_ix (ixK (K := K) rfl) (pv 9) pe_int (fun _ _ => rfl)) pa_nil))) pa_nil)))) pa_nil)))) (g_call C__law_take r (by rfl) passL (pa_cons (pv 0) (pa_cons pe_int pa_nil))) (fun _ _ => rfl))))))
       (pss_cons (ps_par (i := 16) (j := 17) rfl sc__law_cell_right.nd rfl rfl (by decide) rfl rfl (pa_cons (pe_ix (ixK (K := K) rfl) (d_lst (pa_cons (pe_op (oAddK (K := K) rfl) pe_str (pe_callTy cStr (by rfl) B.str (by decide +kernel) (pa_cons (g_call C__law_take r (by rfl) passL (pa_cons (pv 0) (pa_cons pe_int pa_nil))) pa_nil))) (pa_cons pe_str pa_nil))) (g_call C__law_take r (by rfl) passL (pa_cons (pv 0) (pa_cons pe_int pa_nil))) (fun _ _ => rfl)) (pa_cons (pe_ix (ixK (K := K) rfl) (pv 9) (g_call C__law_take r (by rfl) passL (pa_cons (pv 0) (pa_cons (pe_callB (cLenK (K := K) rfl) (by rfl) B.len (by decide +kernel) (pa_cons (pv 9) pa_nil)) pa_nil))) (fun _ _ => rfl)) pa_nil)) (by rfl))
       (pss_cons (ps_set (i := 18) sc__law_cell_right.nd rfl (Or.inl rfl) (pe_ix (ixK (K := K) rfl) (pe_lc (own := [("one", 23)]) rfl sc__law_cell_right.nd (pi_sqK (K := K) rfl (d_lst (pa_cons pe_str (pa_cons pe_str (pa_cons pe_str (pa_cons pe_str (pa_cons pe_str (pa_cons pe_str (pa_cons pe_str pa_nil))))))))) (blkOk_by (N := ["box", "many", "size", "by_name", "spot", "like", "deep", "ways", "names", "tests", "word", "free", "handed", "right", "chain", "level", "more", "test", "extra", "value", "words", "turn", "item", "one"]) (sc := defScope s__law_cell_right) (by decide +kernel)) (fun _ _ _ _ _ => (pg_name (i := 23) sc__law_cell_right.nd rfl (Or.inl rfl))) (fun _ _ _ _ _ => (pts_one (pt_cmpR (oNinK (K := K) rfl) (pv 23) (pv 9) (by rfl)))) (fun _ _ _ _ _ => (pv 23))) pe_int (fun _ _ => rfl)))
       (pss_cons (ps_for (passes_of rfl) rfl (pi_sqK (K := K) rfl (g_call C__law_odds r (by rfl) passL (pa_cons (pv 8) (pa_cons (pv 17) (pa_cons (pv 10) (pa_cons (pe_ifExp (pt_cmpR (oNinK (K := K) rfl) (pv 11) (pv 9) (by rfl)) (pv 11) pe_str) pa_nil)))))) (pg_name (i := 19) sc__law_cell_right.nd rfl (Or.inl rfl))
       (pss_cons (ps_if (pt_not (pt_truK (K := K) rfl (g_call C__law_asked_right r (by rfl) passL (pa_cons (pv 7) (pa_cons (pv 9) (pa_cons (pv 19) (pa_cons (pv 3) pa_nil)))))))
       (pss_one (ps_ret pe_bl))
       pss_nil)
       (pss_one (ps_if (pt_not (pt_truK (K := K) rfl (g_call C__law_asked_right r (by rfl) passL (pa_cons (pv 7) (pa_cons (pe_slice (oSlK (K := K) rfl) (pe_op (oAddK (K := K) rfl) (pv 9) (d_lst (pa_cons (pv 18) pa_nil))) (po_some (pe_un un_neg pe_int)) po_none) (pa_cons (g_call C__law_within r (by rfl) passL (pa_cons (pv 0) (pa_cons (pv 19) (pa_cons (pe_op (oAddK (K := K) rfl) pe_int (g_call C__law_take r (by rfl) passL (pa_cons (pv 0) (pa_cons pe_int pa_nil)))) (pa_cons (pv 18) pa_nil))))) (pa_cons (pv 3) pa_nil)))))))
       (pss_one (ps_ret pe_bl))
       pss_nil))))
       (pss_cons (ps_set (i := 20) sc__law_cell_right.nd rfl (Or.inl rfl) (pe_op (oAddK (K := K) rfl) (pe_op (oAddK (K := K) rfl) (pv 8) (pv 9)) (d_lst (pa_cons pe_str (pa_cons pe_str (pa_cons pe_str (pa_cons pe_str (pa_cons pe_str (pa_cons pe_str (pa_cons pe_str (pa_cons (pv 16) pa_nil)))))))))))
       (pss_cons (ps_for (passes_of rfl) rfl (pi_range1 (by rfl) B.range (pa_cons pe_int pa_nil)) (pg_name (i := 21) sc__law_cell_right.nd rfl (Or.inl rfl))
       (pss_one (ps_if (pt_not (pt_truK (K := K) rfl (g_call C__law_asked_right r (by rfl) passL (pa_cons (pv 7) (pa_cons (pv 9) (pa_cons (g_call C__law_changed r (by rfl) passL (pa_cons (pv 0) (pa_cons (pv 13) (pa_cons (pv 20) pa_nil)))) (pa_cons (pv 3) pa_nil)))))))
       (pss_one (ps_ret pe_bl))
       pss_nil)))
       (pss_one (ps_ret (g_call C__law_asked_right r (by rfl) passL (pa_cons (pv 7) (pa_cons (pv 9) (pa_cons (pv 13) (pa_cons (pv 3) pa_nil))))))))))))))))))))))), ?_⟩
    try dsimp only [cxOf]
    refine x_start (σ' := [some _, none, none, none, none, none, none, none, none, none, none, none, none, none, none, none, none, none, none, none, none, none, none, none]) rfl ?_
    refine x_seq (x_asgG ?_)
    walk_at "s"
    refine ⟨G, R, b, 6, 999999000, bx, rfl, O, bo.le (by decide), by decide, by decide, fun H1 many b1 m0 m1 O1 B1 => ?_⟩
    walk_at "s"
    refine ⟨G, R, b, 8, 999998000, b1, rfl, O1, B1.le (by decide), by decide, by decide, fun H2 size b2 z0 z1 O2 B2 => ?_⟩
    walk_at "s"
    refine ⟨G, R, b, 2, 999997000, b2, rfl, O2, B2.le (by decide), by decide, by decide, fun H3 byn b3 n0 n1 O3 B3 => ?_⟩
    walk_at "s"
    refine x_eq rfl ?_
    rw [int_eq]
    generalize decide (byn = 1) = bn
    walk_at "s"
    refine ⟨G, R, b, 15, 999996000, b3, rfl, O3, B3.le (by decide), by decide, by decide, fun H4 spot b4 p0 p1 O4 B4 => ?_⟩
    walk_at "s"
    refine ⟨by show 4 ≤ sizeLine; decide, x_fix O4 fun q1 G5 H5 s5 O5 e5 => ?_⟩
    refine x_gT (SqT.of (O5.sub _ _ e5)) rfl ?_
    walk_at "s"
    refine ⟨G5, R, b, 4, 999995000, b4, rfl, O5, B4.le (by decide), by decide, by decide, fun H6 like b6 i0 i1 O6 B6 => ?_⟩
    walk_at "s"
    refine ⟨G5, R, b, 6, 999994000, b6, rfl, O6, B6.le (by decide), by decide, by decide, fun H7 deep b7 d0 d1 O7 B7 => ?_⟩
    walk_at "s"
    refine ⟨G5, R, b, 999993000, b7, rfl, O7, B7.le (by decide), fun G8 H8 pw ys b8 s8 O8 e8 y0 y1 hy B8 => ?_⟩
    obtain ⟨xs, wyl, hxs, fys⟩ := wys hy
    have lxs : xs.length ≤ 4 := by rw [← wyl.1]; exact y1
    have lx0 : 1 ≤ xs.length := by rw [← wyl.1]; exact y0
    have hw8 : HW K G8 pw xs := ⟨ys, .inl (SqL.of e8), wyl, ((FnL.all fys).lst (SqL.of e8)).mono (by decide) (by omega)⟩
    walk_at "s"
    refine x_sqL (SqL.of (O8.sub _ _ e8)) ?_
    refine lc_map (by walk_at "n") walk_list O8 (by omega) (fun _ i y => ∃ x, xs[i]? = some x ∧ y = V.str x) (fun _ _ _ _ _ z => z) (fun G' H' D acc s' O' => SqL.of (O'.sub _ _ (s' _ _ e8))) ?_ gm_name ?_
    · rintro i x G' H' H2 D acc hi s' O' ⟨rfl, ex⟩ kk
      obtain ⟨y, z, b, ey, rfl, hb⟩ := wyl.2 i x ex
      walk_at "s"
      refine x_ixt (i := 0) (O'.set (same_t s' hb)) at_0 ?_
      exact kk _ _ _ (Same.refl _) O' ⟨_, ey, rfl⟩
    intro G9 H9 pn bs s9 O9 e9 l9 r9
    have hn9 : Nm G9 pn xs := ⟨by rw [e9, eq_of_ix (by rw [l9, wyl.1]) r9], hxs⟩
    obtain ⟨mm, rfl⟩ := Int.eq_ofNat_of_zero_le m0
    walk_at "s"
    refine ⟨G9, R, b, 1 + mm, 999992000, b8, by rw [show (1 : Int) + (mm : Int) = ((1 + mm : Nat) : Int) by omega], O9, B8.le (by decide), by omega, fun Ga Ha pt ts ba sa Oa ea lt hts Ba => ?_⟩
    walk_at "s"
    refine ⟨by show 2 ≤ sizeLine; decide, x_fix Oa fun q2 Gb Hb sb Ob eb => ?_⟩
    refine x_gT (SqT.of (Ob.sub _ _ eb)) rfl ?_
    have hnb : Nm Gb pn xs := hn9.same (sa.trans sb)
    have htb : Nm Gb pt ts := ⟨sb _ _ ea, hts⟩
    have hwb : HW K Gb pw xs := hw8.same ((s9.trans sa).trans sb)
    refine x_gC ?_
    walk_at "n1"
    refine x_gC ?_
    walk_at "n1"
    refine x_gNl ?_
    refine x_seq (x_cutV 9 (by walk_at "n") (fun v H' => ∃ (Gz : Hp) (pz : Addr) (zs : List Str), v = V.ref pz ∧ Same Gb Gz ∧ Own Gz H' ((b, .lst ba) :: R) ∧ Nm Gz pz zs ∧ 1 ≤ zs.length ∧ zs.length ≤ 6) (fun nx fin => ?_) ?_)
    · have same0 : nx _ Hb := fin (.ref pt) Hb ⟨Gb, pt, ts, rfl, Same.refl _, Ob, htb, by omega, by omega⟩
      walk_at "s"
      refine x_eq rfl ?_
      walk_at "s"
      refine ite_b (fun c => ?_) (fun c => same0)
      walk_at "s"
      refine x_sqL (SqL.of (Ob.sub _ _ htb.1)) ?_
      refine lc_filt (by walk_at "n") walk_list (fun _ _ _ _ _ y => y) Ob (by rw [List.length_map]; omega) (fun v => match v with | .str x => !xs.contains x | _ => false) (fun G' H' D acc s' O' => SqL.of (O'.sub _ _ (s' _ _ htb.1))) ?_ ?_
      · rintro i x G' H' D acc hi ex s' O' kT kF
        obtain ⟨y, hy', rfl⟩ := List.mem_map.mp (List.mem_of_getElem? ex)
        walk_at "s"
        refine x_ninS (.inl (SqL.of (O'.sub _ _ (s' _ _ hnb.1)))) ?_
        walk_at "s"
        refine ite_b (fun c1 => ?_) (fun c1 => ?_)
        · exact kT _ _ _ (Same.refl _) O' c1 rfl
        · exact kF _ _ (Same.refl _) O' c1
      intro Gd Hd pd sd Od ed
      have efl : ∃ zs : List Str, ((ts.map V.str).filter fun v => match v with | .str x => !xs.contains x | _ => false) = zs.map V.str ∧ (∀ z ∈ zs, St 10 z) ∧ zs.length ≤ ts.length := by
        refine ⟨ts.filter fun x => !xs.contains x, ?_, fun z hz => hts z (List.mem_filter.mp hz).1, List.length_filter_le _ _⟩
        rw [List.filter_map]
        rfl
      obtain ⟨zs, ezs, szs, lzs⟩ := efl
      rw [ezs] at ed
      refine x_addl (Od.sub _ _ (sd _ _ hnb.1)) (Od.sub _ _ ed) (sz20 (by rw [List.length_map, List.length_map]; omega)) (x_fix Od fun pe Ge He se Oe ee => ?_)
      walk_at "s"
      refine x_slL (SqL.of (Oe.sub _ _ ee)) (x_fix Oe fun pf Gf Hf sf Of ef => ?_)
      rw [← List.map_append] at ef
      have lf : (cutV ((xs ++ zs).map V.str) none (some (1 + (mm : Int)))).length = min (1 + mm) (xs.length + zs.length) := by
        unfold cutV
        rw [List.length_take, List.length_drop, List.length_map, List.length_append, show ((1 : Int) + (mm : Int)) = ((1 + mm : Nat) : Int) by omega, HT.sIx_nat, HT.sIx_none]
        omega
      obtain ⟨us, eus, lus, mus⟩ := cut_strs (xs ++ zs) none (some (1 + (mm : Int)))
      rw [eus] at ef
      rw [eus, List.length_map] at lf
      walk_at "s"
      exact fin (.ref pf) _ ⟨Gf, pf, us, rfl, (sd.trans se).trans sf, Of, ⟨ef, fun u hu => by
        rcases List.mem_append.mp (mus u hu) with h | h
        · exact hxs u h
        · exact szs u h⟩, by omega, by omega⟩
    · rintro v Hc ⟨Gc, pc, us, rfl, sc, Oc, hc, u0, u1⟩
      have hnc := hnb.same sc
      have hwc := hwb.same sc
      obtain ⟨sn, rfl⟩ := Int.eq_ofNat_of_zero_le p0
      walk_at "s"
      refine ⟨Gc, _, rfl, Oc, fun Gd Hd pd tb sd Od ed ltb htb' => ?_⟩
      walk_at "s"
      have hsn : sn < tb.length := by omega
      refine x_ixl (SqL.of (Od.sub _ _ ed)) (Nm.at ⟨ed, fun x hx => (htb' x hx).mono (by decide)⟩ hsn).1 ?_
      have swd : St 10 tb[sn] := (htb' _ (List.getElem_mem hsn)).mono (by decide)
      generalize tb[sn] = wd at swd
      walk_at "s"
      obtain ⟨ef0, sf0⟩ := hnc.at (i := 0) (by omega)
      refine x_ixl (i := 0) (SqL.of (Od.sub _ _ (sd _ _ hnc.1))) ef0 ?_
      generalize xs[0] = x0 at sf0
      walk_at "s"
      refine x_slS (sz20 (by have := sf0.2; omega)) ?_
      walk_at "s"
      have s7 : St 9 (cutS x0 none (some 7)) := by
        have z := sf0.cut none (some 7)
        refine ⟨z.1, ?_⟩
        unfold cutS
        rw [len_l]
        show (List.take _ (List.drop _ _)).length ≤ 9
        rw [List.length_take, HT.sIx_none]
        have := HT.sIx_nat x0.length x0.length 7
        rw [show HT.sIx x0.length x0.length (some 7) = min 7 x0.length from this]
        omega
      refine x_adds (sz20 (by have := s7.2; show _ + 1 ≤ _; omega)) ?_
      have sfr : St 10 (cutS x0 none (some 7) ++ Str.ofString "q") := s7.app (show St 1 (Str.ofString "q") from ⟨rfl, by decide⟩)
      generalize cutS x0 none (some 7) ++ Str.ofString "q" = fr at sfr
      have hwd := hwc.same sd
      walk_at "s"
      obtain ⟨ys', hy', wy', fy'⟩ := id hwd
      have s8d := (((s9.trans sa).trans sb).trans sc).trans sd
      have e8d : Gd pw = some (.lst ys) := s8d _ _ e8
      refine x_tupleL (SqL.of (Od.sub _ _ e8d)) (x_fix Od fun pg Gg Hg sg Og eg => ?_)
      walk_at "s"
      refine ⟨by show 2 ≤ sizeLine; decide, x_fix Og fun ph Gh Hh sh Oh eh => ?_⟩
      walk_at "s"
      refine x_rI (by decide) ?_
      have sdh := sg.trans sh
      have hpick : ∃ hp, atI [V.ref pw, V.ref pg] ((sn : Int).fmod 2) = some (.ref hp) ∧ HW K Gh hp xs := by
        rw [Int.fmod_eq_emod_of_nonneg _ (by decide)]
        rcases (show (sn : Int) % 2 = 0 ∨ (sn : Int) % 2 = 1 by omega) with h | h
        · exact ⟨pw, by rw [h]; rfl, hwd.same sdh⟩
        · refine ⟨pg, by rw [h]; rfl, ys, .inr (SqT.of (sh _ _ eg)), wyl.same (s8d.trans sdh), ?_⟩
          exact ((FnL.all fun y h => (fys y h).same (s8d.trans sdh)).tup (SqT.of (sh _ _ eg))).mono (by decide) (by omega)
      obtain ⟨hp, ehp, hhp⟩ := hpick
      refine x_ixl (SqL.of (Oh.sub _ _ eh)) ehp ?_
      walk_at "n1"
      have hnh := hnc.same (sd.trans sdh)
      have hch := hc.same (sd.trans sdh)
      have hwh := hwd.same sdh
      obtain ⟨dn, rfl⟩ := Int.eq_ofNat_of_zero_le d0
      refine x_seq (x_asgG (x_eval (fun v' H' => ∃ (G' : Hp) (bx' : List V), Same Gh G' ∧ Own G' H' ((b, .lst bx') :: R) ∧ Box 999900000 bx' ∧ Fn K G' 7 9580 v') (fun Q2 fin2 => ?_) ?_))
      · walk_at "s"
        refine x_eq rfl ?_
        rw [int_eq]
        walk_at "s"
        refine ite_b (fun c => ?_) (fun c => ?_)
        · walk_at "s"
          refine x_eq rfl ?_
          rw [int_eq]
          walk_at "s"
          refine ⟨Gh, R, b, pn, pc, xs, us, 5, _, 999900000, ba, rfl, Oh, hnh, by omega, hch, u0, by omega, by decide, by decide, by decide, Ba.le (by decide), fun Gi Hi vi bi si Oi fi Bi => ?_⟩
          exact fin2 _ _ ⟨Gi, bi, si, Oi, Bi, fi.mono (by decide) (by decide)⟩
        · walk_at "s"
          refine x_eq rfl ?_
          rw [int_eq]
          walk_at "s"
          have h3 := p3 (show 1 + dn ≤ 6 by omega)
          have h2 := p2 (show 1 + dn ≤ 6 by omega)
          refine ⟨Gh, R, b, pn, pc, xs, us, 1 + dn, _, 999900000, ba, by rw [show (1 : Int) + (dn : Int) = ((1 + dn : Nat) : Int) by omega], Oh, hnh, by omega, hch, u0, by omega, by omega, by omega, by omega, Ba.le (by omega), fun Gi Hi vi bi si Oi fi Bi => ?_⟩
          exact fin2 _ _ ⟨Gi, bi, si, Oi, Bi, fi.mono (by omega) (by omega)⟩
      rintro vr Hi ⟨Gi, bi, si, Oi, Bi, fr'⟩
      walk_at "n1"
      have hni := hnh.same si
      have hci := hch.same si
      have hwi := hwh.same si
      have hpi := hhp.same si
      have fri : Fn K Gi 25 100000 vr := fr'.mono (by decide) (by decide)
      walk_at "s"
      refine ⟨Gi, _, hp, pc, xs, us, vr, bn, rfl, Oi, hpi, by omega, Nm.ht hci (by omega), fri, fun Gj Hj sj Oj => ?_⟩
      walk_at "s"
      refine ite_f ?_
      walk_at "s"
      refine x_tupleL (SqL.of (Oj.sub _ _ (sj _ _ hci.1))) (x_fix Oj fun pk Gk Hk sk Ok ek => ?_)
      walk_at "s"
      have sjk := sj.trans sk
      refine ⟨Gk, _, pw, pk, xs, us, vr, !bn, rfl, Ok, hwi.same sjk, by omega, tup_ht (SqT.of ek) hci.2 (by omega), fri.same sjk, fun Gl Hl sl Ol => ?_⟩
      walk_at "s"
      refine ite_f ?_
      walk_at "s"
      have sl' := sjk.trans sl
      refine ⟨by decide, x_fix Ol fun pm Gm Hm sm Om em => ?_⟩
      walk_at "s"
      have hnil : Nm Gm pm [] := ⟨em, fun _ z => nomatch z⟩
      have sim := sl'.trans sm
      refine ⟨Gm, _, pw, pm, xs, [], vr, bn, rfl, Om, hwi.same sim, by omega, Nm.ht hnil (by decide), fri.same sim, fun Gn Hn sn' On => ?_⟩
      walk_at "s"
      refine ite_f ?_
      walk_at "s"
      have sin := sim.trans sn'
      refine x_slL (SqL.of (On.sub _ _ (hci.same sin).1)) (x_fix On fun po Go Ho so Oo eo => ?_)
      obtain ⟨us2, eus2, lus2, mus2⟩ := cut_strs us (some 1) none
      rw [eus2] at eo
      walk_at "s"
      have sio := sin.trans so
      refine ⟨Go, _, pw, po, xs, us2, vr, bn, rfl, Oo, hwi.same sio, by omega, Nm.ht ⟨eo, fun u hu => hci.2 u (mus2 u hu)⟩ (by omega), fri.same sio, fun Gp Hp' sp' Op => ?_⟩
      walk_at "s"
      refine ite_f ?_
      have sip := sio.trans sp'
      walk_at "s"
      refine ⟨Gp, R, b, pn, pc, xs, us, 999800000, bi, rfl, Op, hni.same sip, by omega, hci.same sip, u0, by omega, Bi.le (by decide), fun Gq Hq vc bq sq Oq fc Bq => ?_⟩
      have siq := sip.trans sq
      have hnq := hni.same siq
      have hcq := hci.same siq
      have hwq := hwi.same siq
      have frq := fri.same siq
      walk_at "n1"
      refine x_seq (x_forR ?_)
      walk_at "s"
      refine x_rg (by decide) (by decide) ?_
      refine for_own walk_range Oq (fun i σ G' L' => ∃ (vc : V) (x15 : Option V) (bx' : List V), σ = [some (.ref b), some (.int (mm : Int)), some (.int size), some (.bl bn), some (.int (sn : Int)), some (.int like), some (.int (1 + (dn : Int))), some (.ref pw), some (.ref pn), some (.ref pc), some (.str wd), some (.str fr), some (.ref hp), some vr, some vc, x15, none, none, none, none, none, none, none, none] ∧ (b, .lst bx') :: R = L' ∧ Fn K G' (2 + i) (130 + 40 * i) vc ∧ Box (999700000 + (6 - i)) bx') ⟨vc, none, bq, rfl, rfl, fc, Bq.le (by decide)⟩ (fun _ _ _ _ _ _ _ _ => True.intro) ?_ ?_
      · rintro i x σ G' H' H2 L' hi s' O' ⟨vc, x15, bx', rfl, rfl, f', bo'⟩ ⟨rfl, rfl⟩
        have hi6 : i < 6 := hi
        walk_at "s"
        refine ⟨G', _, pw, pc, xs, us, vc, bn, rfl, O', hwq.same s', by omega, Nm.ht (hcq.same s') (by omega), f'.mono (by omega) (by omega), fun G3 H3 s3 O3 => ?_⟩
        walk_at "s"
        refine ite_f (x_next ?_)
        have hc3 := hcq.same (s'.trans s3)
        have f3 := f'.same s3
        refine x_asgG (x_op (LT.go (K := K) (m := 2 + (i + 1)) (n := 130 + 40 * (i + 1)) (B := 3) ?lt3 O3 fun G4 H4 v4 s4 O4 l4 => ?_))
        case lt3 => walk_at "ft"
        obtain ⟨p4, ms, rfl, e4, le4, a4⟩ := l4
        walk_at "s"
        refine ⟨G4, R, b, 3, 999700000 + (6 - (i + 1)), bx', rfl, O4, bo'.le (by omega), by decide, by decide, fun H5 r b5 r0 r1 O5 B5 => ?_⟩
        obtain ⟨j, rfl⟩ := Int.eq_ofNat_of_zero_le r0
        have hj : j < ms.length := by omega
        refine x_ixl (SqL.of (O5.sub _ _ e4)) (atI_nat (List.getElem?_eq_getElem hj)) ?_
        walk_at "n1"
        exact fvh ((s'.trans s3).trans s4) O5 ⟨_, _, b5, rfl, rfl, a4 _ (List.getElem_mem hj), B5⟩
      rintro σ Gr Hr L' sr Or ⟨vc, x15, br, rfl, rfl, fc', Br⟩
      have hnr := hnq.same sr
      have hcr := hcq.same sr
      have hwr := hwq.same sr
      have frr := frq.same sr
      clear fc'
      walk_at "s"
      refine ⟨Gr, R, b, 9, 999699999, br, rfl, Or, Br.le (by decide), by decide, by decide, fun Hs r9 bs' r90 r91 Os Bs => ?_⟩
      walk_at "s"
      refine ⟨r9, rfl, small_log (by omega), ?_⟩
      have s9t := num_st r90 r91
      refine x_adds (sz20 (by have := s9t.2; show 1 + _ ≤ _; omega)) ?_
      walk_at "s"
      refine ⟨by show 2 ≤ sizeLine; decide, x_fix Os fun pu Gu Hu su Ou eu => ?_⟩
      walk_at "s"
      refine ⟨Gu, R, b, 2, 999699998, bs', rfl, Ou, Bs.le (by decide), by decide, by decide, fun Hv r2 bv r20 r21 Ov Bv => ?_⟩
      have hmore : ∃ mo : Str, St 10 mo ∧ atI [V.str (Str.ofString "x" ++ Str.ofString (toString r9)), V.str (Str.ofString "x")] r2 = some (.str mo) := by
        rcases (show r2 = 0 ∨ r2 = 1 by omega) with rfl | rfl
        · exact ⟨_, ((show St 1 (Str.ofString "x") from ⟨rfl, by decide⟩).app s9t).mono (by decide), rfl⟩
        · exact ⟨_, ⟨rfl, by decide⟩, rfl⟩
      obtain ⟨mo, smo, emo⟩ := hmore
      refine x_ixl (SqL.of (Ov.sub _ _ eu)) emo ?_
      walk_at "s"
      refine x_lenl (SqL.of (Ov.sub _ _ (su _ _ hcr.1))) ?_
      rw [List.length_map]
      refine ⟨Gu, R, b, us.length, 999699997, bv, rfl, Ov, Bv.le (by decide), by omega, by omega, fun Hw r1' bw' r10 r11 Ow Bw => ?_⟩
      obtain ⟨jt, rfl⟩ := Int.eq_ofNat_of_zero_le r10
      obtain ⟨ejt, sjt⟩ := (hcr.same su).at (i := jt) (by omega)
      refine x_ixl (SqL.of (Ow.sub _ _ (su _ _ hcr.1))) ejt ?_
      generalize us[jt] = tt at sjt
      walk_at "s"
      refine ⟨by decide, x_fix Ow fun px Gx Hx sx Ox ex => ?_⟩
      generalize hls : (["x", "y", "z", "w", "v", "u", "t"] : List Str) = ls
      have ex' : Gx px = some (.lst (ls.map V.str)) := by rw [← hls]; exact ex
      have lls : ls.length = 7 := by rw [← hls]; rfl
      have nls : ls.Nodup := by rw [← hls]; decide +kernel
      have sls : ∀ l ∈ ls, St 1 l := by rw [← hls]; exact st_dec (by decide +kernel)
      have hcx := hcr.same (su.trans sx)
      refine x_sqL (SqL.of (Ox.sub _ _ ex')) ?_
      refine lc_filt (by walk_at "n") walk_list (fun _ _ _ _ _ y => y) Ox (by rw [List.length_map]; omega) (fun v => match v with | .str x => !us.contains x | _ => false) (fun G' H' D acc s' O' => SqL.of (O'.sub _ _ (s' _ _ ex'))) ?_ ?_
      · rintro i x G' H' D acc hi ex s' O' kT kF
        obtain ⟨y, hy', rfl⟩ := List.mem_map.mp (List.mem_of_getElem? ex)
        walk_at "s"
        refine x_ninS (.inl (SqL.of (O'.sub _ _ (s' _ _ hcx.1)))) ?_
        walk_at "s"
        refine ite_b (fun c1 => ?_) (fun c1 => ?_)
        · exact kT _ _ _ (Same.refl _) O' c1 rfl
        · exact kF _ _ (Same.refl _) O' c1
      intro Gy Hy py sy Oy ey
      have hext : ∃ (e0 : Str) (rest : List V), ((ls.map V.str).filter fun v => match v with | .str x => !us.contains x | _ => false) = V.str e0 :: rest ∧ St 10 e0 := by
        obtain ⟨x, hx, hn⟩ := pigeon (ls := ls) (ts := us) nls (by omega)
        have e1 : ((ls.map V.str).filter fun v => match v with | .str x => !us.contains x | _ => false) = (ls.filter fun x => !us.contains x).map V.str := by rw [List.filter_map]; rfl
        have hm : x ∈ ls.filter fun x => !us.contains x := List.mem_filter.mpr ⟨hx, by rw [hn]; rfl⟩
        cases hf : ls.filter fun x => !us.contains x with
        | nil => rw [hf] at hm; exact nomatch hm
        | cons e0 rest =>
          refine ⟨e0, rest.map V.str, by rw [e1, hf]; rfl, ?_⟩
          have : e0 ∈ ls.filter fun x => !us.contains x := by rw [hf]; exact List.mem_cons_self
          exact (sls e0 (List.mem_filter.mp this).1).mono (by decide)
      obtain ⟨e0, rest, ee0, se0⟩ := hext
      rw [ee0] at ey
      walk_at "s"
      refine x_ixl (i := 0) (SqL.of (Oy.sub _ _ ey)) at_0 ?_
      walk_at "n1"
      have sry := (su.trans sx).trans sy
      have hny := hnr.same sry
      have hcy := hcx.same sy
      have hwy := hwr.same sry
      have fry := frr.same sry
      refine x_seq (x_forS (x_eval (fun v' H' => ∃ (G' : Hp) (Bn : Nat), Same Gy G' ∧ Own G' H' ((b, .lst bw') :: R) ∧ Ls K G' 3 400 Bn v' ∧ Bn ≤ 1000) (fun Q2 fin2 => ?_) ?_))
      · walk_at "s"
        refine x_ninS (.inl (SqL.of (Oy.sub _ _ hcy.1))) ?_
        walk_at "s"
        refine ite_b (fun c => ?_) (fun c => ?_)
        · walk_at "s"
          exact ⟨Gy, _, pn, xs, tt, wd, fr, rfl, Oy, hny, by omega, by omega, sjt, swd, sfr, fun G' H' Bn v s' O' l lb => fin2 _ _ ⟨G', Bn, s', O', l, lb⟩⟩
        · walk_at "s"
          exact ⟨Gy, _, pn, xs, tt, wd, _, rfl, Oy, hny, by omega, by omega, sjt, swd, ⟨rfl, by decide⟩, fun G' H' Bn v s' O' l lb => fin2 _ _ ⟨G', Bn, s', O', l, lb⟩⟩
      rintro v' Hz ⟨Gz, Bn, sz, Oz, ⟨pz, os, rfl, ez, lz, az'⟩, lb⟩
      refine x_sqL (SqL.of (Oz.sub _ _ ez)) ?_
      have hnz := hny.same sz
      have hcz := hcy.same sz
      have hwz := hwy.same sz
      have frz := fry.same sz
      refine for_own walk_list Oz (fun i σ G' L' => ∃ (x19 : Option V) (bx' : List V), σ = [some (.ref b), some (.int (mm : Int)), some (.int size), some (.bl bn), some (.int (sn : Int)), some (.int like), some (.int (1 + (dn : Int))), some (.ref pw), some (.ref pn), some (.ref pc), some (.str wd), some (.str fr), some (.ref hp), some vr, some vc, x15, some (.str mo), some (.str tt), some (.str e0), x19, none, none, none, none] ∧ (b, .lst bx') :: R = L' ∧ Box (999000000 + 10 * (Bn - i)) bx') ⟨none, bw', rfl, rfl, Bw.le (by omega)⟩ (fun i σ G' H' L' s' O' _ => SqL.of (O'.sub _ _ (s' _ _ ez))) ?_ ?_
      · rintro i x σ G' H' H2 L' hi s' O' ⟨x19, bx', rfl, rfl, bo'⟩ ⟨rfl, exx⟩
        have fx := (az' x (List.mem_of_getElem? exx)).same s'
        have hin : i < Bn := by rw [← lz]; exact hi
        walk_at "s"
        refine ⟨G', _, pw, pc, xs, us, x, bn, rfl, O', hwz.same s', by omega, Nm.ht (hcz.same s') (by omega), fx.mono (by decide) (by decide), fun G3 H3 s3 O3 => ?_⟩
        walk_at "s"
        refine ite_f (x_next ?_)
        have hc3 := hcz.same (s'.trans s3)
        walk_at "s"
        refine ⟨by show 1 ≤ sizeLine; decide, x_fix O3 fun p4 G4 H4 s4 O4 e4 => ?_⟩
        refine x_addl (O4.sub _ _ (s4 _ _ hc3.1)) (O4.sub _ _ e4) (sz20 (by rw [List.length_map]; show _ + 1 ≤ _; omega)) (x_fix O4 fun p5 G5 H5 s5 O5 e5 => ?_)
        have e5' : G5 p5 = some (.lst ((us ++ [e0]).map V.str)) := by rw [List.map_append]; exact e5
        walk_at "s"
        refine x_slL (SqL.of (O5.sub _ _ e5')) (x_fix O5 fun p6 G6 H6 s6 O6 e6 => ?_)
        obtain ⟨us6, eus6, lus6, mus6⟩ := cut_strs (us ++ [e0]) (some (-6)) none
        rw [eus6] at e6
        have l6 : (us ++ [e0]).length = us.length + 1 := List.length_append
        have h6 : Nm G6 p6 us6 := ⟨e6, fun u hu => by
          rcases List.mem_append.mp (mus6 u hu) with h | h
          · exact hcz.2 u h
          · rw [List.mem_singleton.mp h]; exact se0⟩
        walk_at "s"
        refine ⟨G6, R, b, 3, 999000000 + 10 * (Bn - (i + 1)) + 5, bx', rfl, O6, bo'.le (by omega), by decide, by decide, fun H7 r7 b7 r70 r71 O7 B7 => ?_⟩
        obtain ⟨j7, rfl⟩ := Int.eq_ofNat_of_zero_le r70
        walk_at "s"
        have s36 := (s3.trans s4).trans (s5.trans s6)
        refine ⟨G6, R, b, x, 1 + j7, 3, 400, e0, 999000000 + 10 * (Bn - (i + 1)), b7, by rw [show (1 : Int) + (j7 : Int) = ((1 + j7 : Nat) : Int) by omega], O7, fx.same s36, by decide, by decide, se0, by omega, B7.le (by omega), fun G8 H8 v8 b8 s8 O8 f8 B8 => ?_⟩
        walk_at "s"
        have s38 := s36.trans s8
        refine ⟨G8, _, pw, p6, xs, us6, v8, bn, rfl, O8, hwz.same (s'.trans s38), by omega, Nm.ht (h6.same s8) (by omega), f8.mono (by omega) (by omega), fun G9 H9 s9' O9 => ?_⟩
        walk_at "s"
        refine ite_f ?_
        walk_at "s"
        exact fvh ((s'.trans s38).trans s9') O9 ⟨_, b8, rfl, rfl, B8⟩
      · rintro σ GA HA L' sA OA ⟨x19, bA, rfl, rfl, BA⟩
        have hnA := hnz.same sA
        have hcA := hcz.same sA
        have hwA := hwz.same sA
        have frA := frz.same sA
        have frT := ((((fr'.same siq).same sr).same sry).same sz).same sA
        walk_at "s"
        refine x_addl (OA.sub _ _ hnA.1) (OA.sub _ _ hcA.1) (sz20 (by rw [List.length_map, List.length_map]; omega)) (x_fix OA fun pB GB HB sB OB eB => ?_)
        rw [← List.map_append] at eB
        walk_at "s"
        refine ⟨by show 8 ≤ sizeLine; decide, x_fix OB fun pC GC HC sC OC eC => ?_⟩
        refine x_addl (OC.sub _ _ (sC _ _ eB)) (OC.sub _ _ eC) (sz20 (by rw [List.length_map, List.length_append]; show _ + 8 ≤ _; omega)) (x_fix OC fun pD GD HD sD OD eD => ?_)
        have hwords : ∃ ws : List Str, GD pD = some (.lst (ws.map V.str)) ∧ (∀ x ∈ ws, St 10 x) ∧ 1 ≤ ws.length ∧ ws.length ≤ 100 := by
          refine ⟨(xs ++ us) ++ (["is", "first", "last", "stands", "seen", "both", "not", mo] : List Str), by rw [List.map_append]; exact eD, fun x hx => ?_, ?_, ?_⟩
          · rcases List.mem_append.mp hx with h | h
            · rcases List.mem_append.mp h with h | h
              · exact hnA.2 x h
              · exact hcA.2 x h
            · have sc8 : ∀ y ∈ (["is", "first", "last", "stands", "seen", "both", "not"] : List Str), St 10 y := st_dec (by decide +kernel)
              rcases List.mem_append.mp (show x ∈ (["is", "first", "last", "stands", "seen", "both", "not"] : List Str) ++ [mo] from h) with h | h
              · exact sc8 x h
              · rw [List.mem_singleton.mp h]; exact smo
          · rw [List.length_append]; show 1 ≤ _ + 8; omega
          · rw [List.length_append, List.length_append]; show _ + 8 ≤ 100; omega
        obtain ⟨ws, ews, sws, lw1, lw2⟩ := hwords
        have hws : Nm GD pD ws := ⟨ews, sws⟩
        have sAD := sB.trans (sC.trans sD)
        walk_at "n1"
        refine x_seq (x_forR ?_)
        walk_at "s"
        refine x_rg (by decide) (by decide) ?_
        refine for_own walk_range OD (fun i σ G' L' => ∃ (x21 : Option V) (bx' : List V), σ = [some (.ref b), some (.int (mm : Int)), some (.int size), some (.bl bn), some (.int (sn : Int)), some (.int like), some (.int (1 + (dn : Int))), some (.ref pw), some (.ref pn), some (.ref pc), some (.str wd), some (.str fr), some (.ref hp), some vr, some vc, x15, some (.str mo), some (.str tt), some (.str e0), x19, some (.ref pD), x21, none, none] ∧ (b, .lst bx') :: R = L' ∧ Box (998000000 + 20 * (6 - i)) bx') ⟨none, bA, rfl, rfl, BA.le (by omega)⟩ (fun _ _ _ _ _ _ _ _ => True.intro) ?_ ?_
        · rintro i x σ G' H' H2 L' hi s' O' ⟨x21, bx', rfl, rfl, bo'⟩ ⟨rfl, rfl⟩
          have hi6 : i < 6 := hi
          have sX := sAD.trans s'
          walk_at "s"
          refine ⟨G', R, b, pD, vr, ws, 7, 9580, 998000000 + 20 * (6 - (i + 1)), bx', rfl, O', frT.same sX, by decide, by decide, hws.same s', lw1, lw2, bo'.le (by omega), fun G3 H3 v3 b3' s3 O3 f3 B3 => ?_⟩
          walk_at "s"
          have sX3 := sX.trans s3
          refine ⟨G3, _, pw, pc, xs, us, v3, bn, rfl, O3, hwA.same sX3, by omega, Nm.ht (hcA.same sX3) (by omega), f3.mono (by decide) (by decide), fun G4 H4 s4 O4 => ?_⟩
          walk_at "s"
          refine ite_f ?_
          walk_at "s"
          exact fvh ((s'.trans s3).trans s4) O4 ⟨_, b3', rfl, rfl, B3⟩
        · rintro σ GE HE L' sE OE ⟨x21, bE, rfl, rfl, BE⟩
          have sX := sAD.trans sE
          walk_at "s"
          refine ⟨GE, _, pw, pc, xs, us, vr, bn, rfl, OE, hwA.same sX, by omega, Nm.ht (hcA.same sX) (by omega), frA.same sX, fun G4 H4 s4 O4 => ?_⟩
          walk_at "s"
          have t1 := (((s5.trans s8).trans s9).trans sa).trans sb
          have t2 := (((t1.trans sc).trans sd).trans sdh).trans si
          have t3 := ((((t2.trans siq).trans sr).trans sry).trans sz).trans sA
          exact q G4 H4 bE ((t3.trans sX).trans s4) O4
end
end M74
set_option maxHeartbeats 4000000
namespace M74
open PySem PySem.Spec PyProof.Rows L2 G
local macro_rules | `(tactic| walk_at "hp") => `(tactic| first | assumption | exact Own.at0 (by assumption) | exact Own.at1 (by assumption) | exact Own.at2 (by assumption) | exact Own.at3 (by assumption) | exact Own.sub (by assumption) _ _ (by assumption) | exact upd_same)
local macro_rules | `(tactic| walk_at "hl") => `(tactic| first | assumption | exact SqL.of (by walk_at "hp") | exact Own.seq (by assumption) (by assumption) | exact Own.seq (by assumption) (SqL.of (by assumption)))
local macro_rules | `(tactic| walk_at "ht") => `(tactic| first | assumption | exact SqT.of (by walk_at "hp") | exact Own.set (by assumption) (by assumption) | exact Own.set (by assumption) (SqT.of (by assumption)))
local macro_rules | `(tactic| walk_at "n") => `(tactic| (intros; (try dsimp only [List.set, wipe, List.map, List.set_cons_succ, List.set_cons_zero]); (try exact rfl)))
local macro_rules | `(tactic| walk_at "n1") => `(tactic| with_reducible first | (refine x_asgN (σ' := ?s) ?hs ?q; (case hs => walk_at "n")) | (refine x_gN (σ' := ?s) ?hs ?q; (case hs => walk_at "n")) | (refine And.intro (show wipe _ _ = _ from (by walk_at "n")) ?_) | (refine x_parN (σ' := ?s) ?hs ?q; (case hs => walk_at "n")) | (refine x_par3N (σ' := ?s) ?hs ?q; (case hs => walk_at "n")))
local macro_rules | `(tactic| walk_at "v1") => `(tactic| ((with_reducible refine x_var (v := ?v) ?h ?q); (case h => first | exact rfl | assumption)))
local macro_rules | `(tactic| walk_at "s1") => `(tactic| with_reducible first | refine x_op ?_ | refine x_acons ?_ | refine x_c ?_ | refine x_call ?_ | refine x_anil ?_ | refine x_cb ?_ | refine x_seq ?_ | refine x_asgG ?_ | refine x_gC ?_ | refine x_gNl ?_ | refine x_ret ?_ | refine x_ifs ?_ | refine x_test ?_ | refine x_testb ?_ | refine x_and ?_ | refine x_or ?_ | refine x_andV ?_ | refine x_isB ?_ | refine x_add ?_ | refine x_lt ?_ | refine x_inti ?_ | refine x_isI ?_ | refine x_lst ?_ | refine x_tup ?_ | refine x_slice ?_ | refine x_nop ?_ | refine x_part ?_ | refine x_bm ?_ | refine x_sub ?_ | refine x_rI0 ?_ | refine x_drop ?_ | refine x_next ?_ | refine x_brk ?_ | refine x_cnt ?_ | refine x_par2 ?_ | refine x_par33 ?_ | refine x_un ?_ | refine x_rU ?_ | refine x_le ?_ | refine x_gt ?_ | refine x_ge ?_ | refine x_lts ?_ | refine x_intb ?_ | refine x_abs ?_ | refine x_tru ?_ | refine x_trub ?_ | refine x_trui ?_ | refine x_not ?_ | refine x_orV ?_ | refine x_notV ?_ | refine x_if ?_ | refine x_isN ?_ | refine x_isnN ?_ | refine x_dict ?_ | refine x_bm0 ?_ | refine x_revL ?_ | refine x_lcR ?_ | refine x_lcS ?_ | refine x_forR ?_ | refine x_forS ?_ | refine x_yes ?_ | refine ite_t ?_ | refine ite_f ?_)
local macro_rules | `(tactic| walk_at "s") => `(tactic| repeat (first | walk_at "v1" | walk_at "s1" | walk_at "n1"))
local macro_rules | `(tactic| walk_at "bd") => `(tactic| first | decide | omega | exact Nat.le_refl _)
local macro_rules | `(tactic| walk_at "ft") => `(tactic| first
  | with_reducible exact la_nil | with_reducible exact fa_nil | with_reducible exact ft_non | with_reducible exact ft_bl | with_reducible exact ft_dict | ((with_reducible refine ft_str (n := 10) (x := ?x) ?h); (case h => exact And.intro rfl (by decide))) | ((with_reducible refine ft_int (i := ?i) ?h); (case h => decide))
  | ((with_reducible refine ft_var (v := ?v) (m := ?m) (n := ?n) ?h ?f); (case h => exact rfl); (case f => assumption))
  | ((with_reducible refine fa_cons (m1 := ?a) (n1 := ?b) (m2 := ?c) (n2 := ?d) ?f ?g); (case f => walk_at "ft"); (case g => walk_at "ft"))
  | ((with_reducible refine ft_tup (m := ?m) (n := ?n) ?f ?h); (case f => walk_at "ft"); (case h => walk_at "bd"))
  | ((with_reducible refine ft_lst (m := ?m) (n := ?n) ?f ?h); (case f => walk_at "ft"); (case h => walk_at "bd"))
  | ((with_reducible refine la_cons (m1 := ?a) (n1 := ?b) (B := ?c) ?f ?g ?h ?i); (case f => walk_at "ft"); (case h => walk_at "bd"); (case i => walk_at "bd"); (case g => walk_at "ft"))
  | ((with_reducible refine lt_var (v := ?v) (m := ?m) (n := ?n) (B := ?b) ?h ?f); (case h => exact rfl); (case f => assumption))
  | ((with_reducible refine lt_add (B1 := ?a) (B2 := ?b) ?f ?g ?h); (case f => walk_at "ft"); (case g => walk_at "ft"); (case h => walk_at "bd"))
  | ((with_reducible refine ft_addsv (x := ?x) (m := ?m) (n := 10) ?h ?s ?a ?z); (case h => exact rfl); (case s => assumption); (case a => exact And.intro rfl (by decide)); (case z => decide))
  | ((with_reducible refine lt_lst ?f ?h); (case f => walk_at "ft"); (case h => walk_at "bd")))
section
variable {P : Program} {w : World} {K : PySem.W.Frag} {mg : Str → Option Value} {base : Heap} {k : Nat}
abbrev s_law : Stmt := top 33
theorem sc_law : FnScope ["script", "k"] ["script"] (defScope s_law) := ⟨rfl, rfl, rfl, by decide +kernel, rfl, by decide +kernel, by decide +kernel⟩
def sp_law (K : PySem.W.Frag) : Sp := fun vs H Q _ => ∃ (a : Addr) (is : List Int), vs = [.ref a] ∧ SqL K H a (is.map V.int) ∧ is.length ≤ 63 ∧ ∀ H', Q (.bl true) H'
theorem ok_law {f : Addr} {fd : FuncData} (F : Fun K "law" "law" s_law f fd) (B : Bt mg) (C__law_cell : Cal P w K mg base k "_law_cell" ["script", "k"] (sp_cell K)) (C__law_box : Cal P w K mg base k "_law_box" ["great"] sp_box)
    (C__law_cell_right : Cal P w K mg base k "_law_cell_right" ["box"] sp_cr) : FnG P w K mg base (k + 1) f fd ["script"] (sp_law K) := by
  refine fnG_of F sc_law (fun vs H Q E h => ?_) (fun cdv A outer s H vs Q E r h => ?_)
  · obtain ⟨a, is, rfl, _⟩ := h
    rfl
  · obtain ⟨a, is, rfl, ha, hl, q⟩ := h
    have O : Own H H [] := ⟨Same.refl _, fun _ z => (nomatch z), List.nodup_nil⟩
    refine ⟨_, (pss_cons (ps_for (passes_of rfl) rfl (pi_range1 (by rfl) B.range (pa_cons (pe_callB (cMax2 rfl) (by rfl) B.max (by decide +kernel) (pa_cons pe_int (pa_cons (pe_callB (cMin2 rfl) (by rfl) B.min (by decide +kernel) (pa_cons pe_int (pa_cons (pe_callB (cLenK (K := K) rfl) (by rfl) B.len (by decide +kernel) (pa_cons (pv 0) pa_nil)) pa_nil))) pa_nil))) pa_nil)) (pg_name (i := 1) sc_law.nd rfl (Or.inl rfl))
       (pss_one (ps_if (pt_not (pt_truK (K := K) rfl (g_call C__law_cell_right r (by rfl) passL (pa_cons (g_call C__law_box r (by rfl) passL (pa_cons (g_call C__law_cell r (by rfl) passL (pa_cons (pv 0) (pa_cons (pv 1) pa_nil))) pa_nil)) pa_nil))))
       (pss_one (ps_ret pe_bl))
       pss_nil)))
       (pss_one (ps_ret pe_bl))), ?_⟩
    try dsimp only [cxOf]
    refine x_start (σ' := [some _, none]) rfl ?_
    refine x_seq (x_forR ?_)
    walk_at "s"
    refine x_lenl ha ?_
    rw [List.length_map]
    walk_at "s"
    refine ⟨_, _, rfl, ?_⟩
    walk_at "s"
    refine ⟨_, _, rfl, ?_⟩
    walk_at "s"
    generalize hz : (if (if (is.length : Int) < 6 then (is.length : Int) else 6) > 2 then (if (is.length : Int) < 6 then (is.length : Int) else 6) else 2) = z
    have z0 : 0 ≤ z ∧ z ≤ 6 := by
      rw [← hz]
      split <;> split <;> omega
    refine x_rg (by omega) (by omega) ?_
    refine for_own walk_range O (fun i σ G' L' => ∃ x1 : Option V, σ = [some (.ref a), x1] ∧ [] = L') ⟨none, rfl, rfl⟩ (fun _ _ _ _ _ _ _ _ => True.intro) ?_ ?_
    · rintro i x σ G' H' H2 L' hi s' O' ⟨x1, rfl, rfl⟩ ⟨rfl, rfl⟩
      have hi6 : i < 6 := by omega
      walk_at "s"
      rw [Int.zero_add]
      refine ⟨G', _, a, is, i, rfl, O', s'.seq ha, hl, by omega, fun G3 H3 v s3 O3 => ?_⟩
      walk_at "s"
      refine ⟨G3, _, v, rfl, O3, fun H4 p bx O4 B4 => ?_⟩
      walk_at "s"
      refine ⟨G3, _, p, bx, rfl, O4, B4, fun G5 H5 bx5 s5 O5 => ?_⟩
      walk_at "s"
      refine ite_f ?_
      walk_at "s"
      exact fvh ((s'.trans s3).trans s5) O5.tail ⟨_, rfl, rfl⟩
    · rintro σ G' H' L' s' O' ⟨x1, rfl, rfl⟩
      walk_at "s"
      exact q H'
end
end M74
set_option maxHeartbeats 4000000
namespace M74
open PySem PySem.Spec PyProof.Rows L2 G
theorem parts_in {K : PySem.W.Frag} {pd : Addr} {t1 t2 t3 u1 u2 u3 : Tok} {h1 h2 h3 : Int} {n : Nat} {sl : Array (Option Value)} {od : Option Addr} {cl : Value}
    (e : K.lookup pd = some ⟨cl, od, .dict #[⟨h1, .str "both" t1, .int 2 u1⟩, ⟨h2, .str "either" t2, .int 2 u2⟩, ⟨h3, .str "not" t3, .int 1 u3⟩] n, sl⟩) (z : Str) :
    ∃ r : Option Value, PySem.W.nsIn K pd z = some r ∧ (ptN z = 0 → r = none) ∧ (ptN z ≠ 0 → ∃ t, r = some (.int (ptN z) t)) := by
  unfold PySem.W.nsIn
  rw [e]
  simp only [List.find?, Value.isStr, ptN]
  cases c1 : (("both" : Str) == z) with
  | true =>
    obtain rfl := eq_of_beq c1
    exact ⟨_, rfl, fun h => absurd h (show ¬ (2 : Nat) = 0 by decide), fun _ => ⟨_, rfl⟩⟩
  | false =>
    cases c2 : (("either" : Str) == z) with
    | true =>
      obtain rfl := eq_of_beq c2
      exact ⟨_, rfl, fun h => absurd h (show ¬ (2 : Nat) = 0 by decide), fun _ => ⟨_, rfl⟩⟩
    | false =>
      cases c3 : (("not" : Str) == z) with
      | true =>
        obtain rfl := eq_of_beq c3
        exact ⟨_, rfl, fun h => absurd h (show ¬ (1 : Nat) = 0 by decide), fun _ => ⟨_, rfl⟩⟩
      | false =>
        rw [BEq.comm (a := z), BEq.comm (a := z) (b := "either"), BEq.comm (a := z) (b := "not"), c1, c2, c3]
        exact ⟨_, rfl, fun _ => rfl, fun h => absurd rfl h⟩
set_option linter.unusedVariables false
theorem all_mk {l : PySem.W.OpenLaw} {w : World} {K : PySem.W.Frag} {h : Heap} {mg : Str → Option Value} {fa ea aa pd f1 f2 f3 f4 f5 f6 f7 f8 f9 f10 f11 f12 f13 f14 f15 f16 f17 f18 f19 f20 f21 f22 f23 f24 f25 f26 : Addr} (X : K.In h) (G : h.Ns mainGlobals mg) (hfa : mg "law" = some (.ref fa))
    {od1 an1 od2 an2 od3 an3 od4 an4 od5 an5 od6 an6 od7 an7 od8 an8 od9 an9 od10 an10 od11 an11 od12 an12 od13 an13 od14 an14 od15 an15 od16 an16 od17 an17 od18 an18 od19 an19 od20 an20 od21 an21 od22 an22 od23 an23 od24 an24 od25 an25 od26 an26 odE odA : Option Addr} {sl1 sl2 sl3 sl4 sl5 sl6 sl7 sl8 sl9 sl10 sl11 sl12 sl13 sl14 sl15 sl16 sl17 sl18 sl19 sl20 sl21 sl22 sl23 sl24 sl25 sl26 slE slA : Array (Option Value)} {oc1 kV1 dc1 pm1 cd1 ct1 oc2 kV2 dc2 pm2 cd2 ct2 oc3 kV3 dc3 pm3 cd3 ct3 oc4 kV4 dc4 pm4 cd4 ct4 oc5 kV5 dc5 pm5 cd5 ct5 oc6 kV6 dc6 pm6 cd6 ct6 oc7 kV7 dc7 pm7 cd7 ct7 oc8 kV8 dc8 pm8 cd8 ct8 oc9 kV9 dc9 pm9 cd9 ct9 oc10 kV10 dc10 pm10 cd10 ct10 oc11 kV11 dc11 pm11 cd11 ct11 oc12 kV12 dc12 pm12 cd12 ct12 oc13 kV13 dc13 pm13 cd13 ct13 oc14 kV14 dc14 pm14 cd14 ct14 oc15 kV15 dc15 pm15 cd15 ct15 oc16 kV16 dc16 pm16 cd16 ct16 oc17 kV17 dc17 pm17 cd17 ct17 oc18 kV18 dc18 pm18 cd18 ct18 oc19 kV19 dc19 pm19 cd19 ct19 oc20 kV20 dc20 pm20 cd20 ct20 oc21 kV21 dc21 pm21 cd21 ct21 oc22 kV22 dc22 pm22 cd22 ct22 oc23 kV23 dc23 pm23 cd23 ct23 oc24 kV24 dc24 pm24 cd24 ct24 oc25 kV25 dc25 pm25 cd25 ct25 oc26 kV26 dc26 pm26 cd26 ct26 : Value}
    {tS tM e1 e2 e3 e4 e5 t1 t2 t3 u1 u2 u3 : Tok} {h1 h2 h3 : Int} {nE nA nP : Nat}
    (a1 : PySem.W.nsIn K mainGlobals "_law_take" = some (some (.ref f1))) (l1 : K.lookup f1 = some ⟨oc1, od1, .func (PySem.W.fnOf "_law_take" "_law_take" (defArgs s__law_take) (defBody s__law_take) (defScope s__law_take) .none kV1 dc1 pm1 an1 cd1 ct1), sl1⟩) (c1 : PySem.W.codeIn K cd1 "_law_take" = true) (k1 : PySem.W.keepIn K (.ref f1) = true)
    (a2 : PySem.W.nsIn K mainGlobals "_law_cell" = some (some (.ref f2))) (l2 : K.lookup f2 = some ⟨oc2, od2, .func (PySem.W.fnOf "_law_cell" "_law_cell" (defArgs s__law_cell) (defBody s__law_cell) (defScope s__law_cell) .none kV2 dc2 pm2 an2 cd2 ct2), sl2⟩) (c2 : PySem.W.codeIn K cd2 "_law_cell" = true) (k2 : PySem.W.keepIn K (.ref f2) = true)
    (a3 : PySem.W.nsIn K mainGlobals "_law_box" = some (some (.ref f3))) (l3 : K.lookup f3 = some ⟨oc3, od3, .func (PySem.W.fnOf "_law_box" "_law_box" (defArgs s__law_box) (defBody s__law_box) (defScope s__law_box) .none kV3 dc3 pm3 an3 cd3 ct3), sl3⟩) (c3 : PySem.W.codeIn K cd3 "_law_box" = true) (k3 : PySem.W.keepIn K (.ref f3) = true)
    (a4 : PySem.W.nsIn K mainGlobals "_law_letters" = some (some (.ref f4))) (l4 : K.lookup f4 = some ⟨oc4, od4, .func (PySem.W.fnOf "_law_letters" "_law_letters" (defArgs s__law_letters) (defBody s__law_letters) (defScope s__law_letters) .none kV4 dc4 pm4 an4 cd4 ct4), sl4⟩) (c4 : PySem.W.codeIn K cd4 "_law_letters" = true) (k4 : PySem.W.keepIn K (.ref f4) = true)
    (a5 : PySem.W.nsIn K mainGlobals "_law_mixed" = some (some (.ref f5))) (l5 : K.lookup f5 = some ⟨oc5, od5, .func (PySem.W.fnOf "_law_mixed" "_law_mixed" (defArgs s__law_mixed) (defBody s__law_mixed) (defScope s__law_mixed) .none kV5 dc5 pm5 an5 cd5 ct5), sl5⟩) (c5 : PySem.W.codeIn K cd5 "_law_mixed" = true) (k5 : PySem.W.keepIn K (.ref f5) = true)
    (a6 : PySem.W.nsIn K mainGlobals "_law_taboo" = some (some (.ref f6))) (l6 : K.lookup f6 = some ⟨oc6, od6, .func (PySem.W.fnOf "_law_taboo" "_law_taboo" (defArgs s__law_taboo) (defBody s__law_taboo) (defScope s__law_taboo) .none kV6 dc6 pm6 an6 cd6 ct6), sl6⟩) (c6 : PySem.W.codeIn K cd6 "_law_taboo" = true) (k6 : PySem.W.keepIn K (.ref f6) = true)
    (a7 : PySem.W.nsIn K mainGlobals "_law_names" = some (some (.ref f7))) (l7 : K.lookup f7 = some ⟨oc7, od7, .func (PySem.W.fnOf "_law_names" "_law_names" (defArgs s__law_names) (defBody s__law_names) (defScope s__law_names) .none kV7 dc7 pm7 an7 cd7 ct7), sl7⟩) (c7 : PySem.W.codeIn K cd7 "_law_names" = true) (k7 : PySem.W.keepIn K (.ref f7) = true)
    (a8 : PySem.W.nsIn K mainGlobals "_law_ways" = some (some (.ref f8))) (l8 : K.lookup f8 = some ⟨oc8, od8, .func (PySem.W.fnOf "_law_ways" "_law_ways" (defArgs s__law_ways) (defBody s__law_ways) (defScope s__law_ways) .none kV8 dc8 pm8 an8 cd8 ct8), sl8⟩) (c8 : PySem.W.codeIn K cd8 "_law_ways" = true) (k8 : PySem.W.keepIn K (.ref f8) = true)
    (a9 : PySem.W.nsIn K mainGlobals "_law_marks" = some (some (.ref f9))) (l9 : K.lookup f9 = some ⟨oc9, od9, .func (PySem.W.fnOf "_law_marks" "_law_marks" (defArgs s__law_marks) (defBody s__law_marks) (defScope s__law_marks) .none kV9 dc9 pm9 an9 cd9 ct9), sl9⟩) (c9 : PySem.W.codeIn K cd9 "_law_marks" = true) (k9 : PySem.W.keepIn K (.ref f9) = true)
    (a10 : PySem.W.nsIn K mainGlobals "_law_part" = some (some (.ref f10))) (l10 : K.lookup f10 = some ⟨oc10, od10, .func (PySem.W.fnOf "_law_part" "_law_part" (defArgs s__law_part) (defBody s__law_part) (defScope s__law_part) .none kV10 dc10 pm10 an10 cd10 ct10), sl10⟩) (c10 : PySem.W.codeIn K cd10 "_law_part" = true) (k10 : PySem.W.keepIn K (.ref f10) = true)
    (a11 : PySem.W.nsIn K mainGlobals "_law_formula" = some (some (.ref f11))) (l11 : K.lookup f11 = some ⟨oc11, od11, .func (PySem.W.fnOf "_law_formula" "_law_formula" (defArgs s__law_formula) (defBody s__law_formula) (defScope s__law_formula) .none kV11 dc11 pm11 an11 cd11 ct11), sl11⟩) (c11 : PySem.W.codeIn K cd11 "_law_formula" = true) (k11 : PySem.W.keepIn K (.ref f11) = true)
    (a12 : PySem.W.nsIn K mainGlobals "_law_with" = some (some (.ref f12))) (l12 : K.lookup f12 = some ⟨oc12, od12, .func (PySem.W.fnOf "_law_with" "_law_with" (defArgs s__law_with) (defBody s__law_with) (defScope s__law_with) .none kV12 dc12 pm12 an12 cd12 ct12), sl12⟩) (c12 : PySem.W.codeIn K cd12 "_law_with" = true) (k12 : PySem.W.keepIn K (.ref f12) = true)
    (a13 : PySem.W.nsIn K mainGlobals "_law_within" = some (some (.ref f13))) (l13 : K.lookup f13 = some ⟨oc13, od13, .func (PySem.W.fnOf "_law_within" "_law_within" (defArgs s__law_within) (defBody s__law_within) (defScope s__law_within) .none kV13 dc13 pm13 an13 cd13 ct13), sl13⟩) (c13 : PySem.W.codeIn K cd13 "_law_within" = true) (k13 : PySem.W.keepIn K (.ref f13) = true)
    (a14 : PySem.W.nsIn K mainGlobals "is_row" = some (some (.ref f14))) (l14 : K.lookup f14 = some ⟨oc14, od14, .func (PySem.W.fnOf "is_row" "is_row" (defArgs s_is_row) (defBody s_is_row) (defScope s_is_row) .none kV14 dc14 pm14 an14 cd14 ct14), sl14⟩) (c14 : PySem.W.codeIn K cd14 "is_row" = true) (k14 : PySem.W.keepIn K (.ref f14) = true)
    (a15 : PySem.W.nsIn K mainGlobals "ascends" = some (some (.ref f15))) (l15 : K.lookup f15 = some ⟨oc15, od15, .func (PySem.W.fnOf "ascends" "ascends" (defArgs s_ascends) (defBody s_ascends) (defScope s_ascends) .none kV15 dc15 pm15 an15 cd15 ct15), sl15⟩) (c15 : PySem.W.codeIn K cd15 "ascends" = true) (k15 : PySem.W.keepIn K (.ref f15) = true)
    (a16 : PySem.W.nsIn K mainGlobals "is_among" = some (some (.ref f16))) (l16 : K.lookup f16 = some ⟨oc16, od16, .func (PySem.W.fnOf "is_among" "is_among" (defArgs s_is_among) (defBody s_is_among) (defScope s_is_among) .none kV16 dc16 pm16 an16 cd16 ct16), sl16⟩) (c16 : PySem.W.codeIn K cd16 "is_among" = true) (k16 : PySem.W.keepIn K (.ref f16) = true)
    (a17 : PySem.W.nsIn K mainGlobals "are_marks" = some (some (.ref f17))) (l17 : K.lookup f17 = some ⟨oc17, od17, .func (PySem.W.fnOf "are_marks" "are_marks" (defArgs s_are_marks) (defBody s_are_marks) (defScope s_are_marks) .none kV17 dc17 pm17 an17 cd17 ct17), sl17⟩) (c17 : PySem.W.codeIn K cd17 "are_marks" = true) (k17 : PySem.W.keepIn K (.ref f17) = true)
    (a18 : PySem.W.nsIn K mainGlobals "is_formula_within" = some (some (.ref f18))) (l18 : K.lookup f18 = some ⟨oc18, od18, .func (PySem.W.fnOf "is_formula_within" "is_formula_within" (defArgs s_is_formula_within) (defBody s_is_formula_within) (defScope s_is_formula_within) .none kV18 dc18 pm18 an18 cd18 ct18), sl18⟩) (c18 : PySem.W.codeIn K cd18 "is_formula_within" = true) (k18 : PySem.W.keepIn K (.ref f18) = true)
    (a19 : PySem.W.nsIn K mainGlobals "is_formula" = some (some (.ref f19))) (l19 : K.lookup f19 = some ⟨oc19, od19, .func (PySem.W.fnOf "is_formula" "is_formula" (defArgs s_is_formula) (defBody s_is_formula) (defScope s_is_formula) .none kV19 dc19 pm19 an19 cd19 ct19), sl19⟩) (c19 : PySem.W.codeIn K cd19 "is_formula" = true) (k19 : PySem.W.keepIn K (.ref f19) = true)
    (a20 : PySem.W.nsIn K mainGlobals "_law_marks_due" = some (some (.ref f20))) (l20 : K.lookup f20 = some ⟨oc20, od20, .func (PySem.W.fnOf "_law_marks_due" "_law_marks_due" (defArgs s__law_marks_due) (defBody s__law_marks_due) (defScope s__law_marks_due) .none kV20 dc20 pm20 an20 cd20 ct20), sl20⟩) (c20 : PySem.W.codeIn K cd20 "_law_marks_due" = true) (k20 : PySem.W.keepIn K (.ref f20) = true)
    (a21 : PySem.W.nsIn K mainGlobals "_law_deep" = some (some (.ref f21))) (l21 : K.lookup f21 = some ⟨oc21, od21, .func (PySem.W.fnOf "_law_deep" "_law_deep" (defArgs s__law_deep) (defBody s__law_deep) (defScope s__law_deep) .none kV21 dc21 pm21 an21 cd21 ct21), sl21⟩) (c21 : PySem.W.codeIn K cd21 "_law_deep" = true) (k21 : PySem.W.keepIn K (.ref f21) = true)
    (a22 : PySem.W.nsIn K mainGlobals "_law_asked_right" = some (some (.ref f22))) (l22 : K.lookup f22 = some ⟨oc22, od22, .func (PySem.W.fnOf "_law_asked_right" "_law_asked_right" (defArgs s__law_asked_right) (defBody s__law_asked_right) (defScope s__law_asked_right) .none kV22 dc22 pm22 an22 cd22 ct22), sl22⟩) (c22 : PySem.W.codeIn K cd22 "_law_asked_right" = true) (k22 : PySem.W.keepIn K (.ref f22) = true)
    (a23 : PySem.W.nsIn K mainGlobals "_law_odds" = some (some (.ref f23))) (l23 : K.lookup f23 = some ⟨oc23, od23, .func (PySem.W.fnOf "_law_odds" "_law_odds" (defArgs s__law_odds) (defBody s__law_odds) (defScope s__law_odds) .none kV23 dc23 pm23 an23 cd23 ct23), sl23⟩) (c23 : PySem.W.codeIn K cd23 "_law_odds" = true) (k23 : PySem.W.keepIn K (.ref f23) = true)
    (a24 : PySem.W.nsIn K mainGlobals "_law_changed" = some (some (.ref f24))) (l24 : K.lookup f24 = some ⟨oc24, od24, .func (PySem.W.fnOf "_law_changed" "_law_changed" (defArgs s__law_changed) (defBody s__law_changed) (defScope s__law_changed) .none kV24 dc24 pm24 an24 cd24 ct24), sl24⟩) (c24 : PySem.W.codeIn K cd24 "_law_changed" = true) (k24 : PySem.W.keepIn K (.ref f24) = true)
    (a25 : PySem.W.nsIn K mainGlobals "_law_cell_right" = some (some (.ref f25))) (l25 : K.lookup f25 = some ⟨oc25, od25, .func (PySem.W.fnOf "_law_cell_right" "_law_cell_right" (defArgs s__law_cell_right) (defBody s__law_cell_right) (defScope s__law_cell_right) .none kV25 dc25 pm25 an25 cd25 ct25), sl25⟩) (c25 : PySem.W.codeIn K cd25 "_law_cell_right" = true) (k25 : PySem.W.keepIn K (.ref f25) = true)
    (a26 : PySem.W.nsIn K mainGlobals "law" = some (some (.ref f26))) (l26 : K.lookup f26 = some ⟨oc26, od26, .func (PySem.W.fnOf "law" "law" (defArgs s_law) (defBody s_law) (defScope s_law) .none kV26 dc26 pm26 an26 cd26 ct26), sl26⟩) (c26 : PySem.W.codeIn K cd26 "law" = true) (k26 : PySem.W.keepIn K (.ref f26) = true)
    (z_len : PySem.W.nsIn K mainGlobals "len" = some none)
    (z_range : PySem.W.nsIn K mainGlobals "range" = some none)
    (z_abs : PySem.W.nsIn K mainGlobals "abs" = some none)
    (z_int : PySem.W.nsIn K mainGlobals "int" = some none)
    (z_str : PySem.W.nsIn K mainGlobals "str" = some none)
    (z_bool : PySem.W.nsIn K mainGlobals "bool" = some none)
    (z_list : PySem.W.nsIn K mainGlobals "list" = some none)
    (z_tuple : PySem.W.nsIn K mainGlobals "tuple" = some none)
    (z_dict : PySem.W.nsIn K mainGlobals "dict" = some none)
    (z_sum : PySem.W.nsIn K mainGlobals "sum" = some none)
    (z_all : PySem.W.nsIn K mainGlobals "all" = some none)
    (z_any : PySem.W.nsIn K mainGlobals "any" = some none)
    (z_max : PySem.W.nsIn K mainGlobals "max" = some none)
    (z_min : PySem.W.nsIn K mainGlobals "min" = some none)
    (z_sorted : PySem.W.nsIn K mainGlobals "sorted" = some none)
    (z_repr : PySem.W.nsIn K mainGlobals "repr" = some none)
    (z_isinstance : PySem.W.nsIn K mainGlobals "isinstance" = some none)
    (z_enumerate : PySem.W.nsIn K mainGlobals "enumerate" = some none)
    (z_zip : PySem.W.nsIn K mainGlobals "zip" = some none)
    (pS : PySem.W.nsIn K mainGlobals "SAME" = some (some (.str "is" tS))) (pM : PySem.W.nsIn K mainGlobals "MOST_DEEP" = some (some (.int 5 tM)))
    (pE : PySem.W.nsIn K mainGlobals "ENDS" = some (some (.ref ea))) (pA : PySem.W.nsIn K mainGlobals "ASKED" = some (some (.ref aa))) (pP : PySem.W.nsIn K mainGlobals "PARTS" = some (some (.ref pd)))
    (uE : K.lookup ea = some ⟨.type "tuple", odE, .seq #[.str "first" e1, .str "last" e2] nE, slE⟩) (uA : K.lookup aa = some ⟨.type "tuple", odA, .seq #[.str "seen" e3, .str "odd" e4, .str "just" e5] nA, slA⟩)
    (uP : K.lookup pd = some ⟨.type "dict", none, .dict #[⟨h1, .str "both" t1, .int 2 u1⟩, ⟨h2, .str "either" t2, .int 2 u2⟩, ⟨h3, .str "not" t3, .int 1 u3⟩] nP, #[]⟩)
    (dP : PySem.W.KeysLit w.params #[⟨h1, .str "both" t1, .int 2 u1⟩, ⟨h2, .str "either" t2, .int 2 u2⟩, ⟨h3, .str "not" t3, .int 1 u3⟩].toList) (sP : (pd == sysModules) = false)
    : ∃ fd : FuncData, (∀ (s : Shared) (v : Value), BindsTo s fd ⟨[v], []⟩ [("script", v)]) ∧ ∀ base : Heap, K.In base → base.Ns mainGlobals mg → FnG l.prog w K mg base 34 fa fd ["script"] (sp_law K) := by
  have e := hfa.symm.trans (PySem.W.mg_of X G a26)
  cases e
  have B : Bt mg := ⟨PySem.W.mg_none_of X G z_len, PySem.W.mg_none_of X G z_range, PySem.W.mg_none_of X G z_abs, PySem.W.mg_none_of X G z_int, PySem.W.mg_none_of X G z_str, PySem.W.mg_none_of X G z_bool, PySem.W.mg_none_of X G z_list, PySem.W.mg_none_of X G z_tuple, PySem.W.mg_none_of X G z_dict, PySem.W.mg_none_of X G z_sum, PySem.W.mg_none_of X G z_all, PySem.W.mg_none_of X G z_any, PySem.W.mg_none_of X G z_max, PySem.W.mg_none_of X G z_min, PySem.W.mg_none_of X G z_sorted, PySem.W.mg_none_of X G z_repr, PySem.W.mg_none_of X G z_isinstance, PySem.W.mg_none_of X G z_enumerate, PySem.W.mg_none_of X G z_zip⟩
  have T : Ct K w mg pd #[⟨h1, .str "both" t1, .int 2 u1⟩, ⟨h2, .str "either" t2, .int 2 u2⟩, ⟨h3, .str "not" t3, .int 1 u3⟩] nP ea aa :=
    ⟨⟨_, PySem.W.mg_of X G pS, ⟨_, rfl⟩⟩, ⟨_, PySem.W.mg_of X G pM, ⟨_, rfl⟩⟩, ⟨_, PySem.W.mg_of X G pE, rfl⟩, ⟨_, PySem.W.mg_of X G pA, rfl⟩, ⟨_, PySem.W.mg_of X G pP, rfl⟩, ⟨uP, dP, sP⟩,
      fun _ => .inr ⟨_, _, _, uE, rfl, rfl, (show 2 ≤ sizeLine by decide), .cons ⟨_, rfl⟩ (.cons ⟨_, rfl⟩ .nil)⟩, fun _ => .inr ⟨_, _, _, uA, rfl, rfl, (show 3 ≤ sizeLine by decide), .cons ⟨_, rfl⟩ (.cons ⟨_, rfl⟩ (.cons ⟨_, rfl⟩ .nil))⟩, parts_in uP⟩
  have F1 := fun_mk (st := s__law_take) l1 c1 k1
  have b1 := F1.binds (ps := ["box", "many"]) fun _ _ _ _ _ _ us hl => match us, hl with | [_, _], _ => rfl
  have F2 := fun_mk (st := s__law_cell) l2 c2 k2
  have b2 := F2.binds (ps := ["script", "k"]) fun _ _ _ _ _ _ us hl => match us, hl with | [_, _], _ => rfl
  have F3 := fun_mk (st := s__law_box) l3 c3 k3
  have b3 := F3.binds (ps := ["great"]) fun _ _ _ _ _ _ us hl => match us, hl with | [_], _ => rfl
  have F4 := fun_mk (st := s__law_letters) l4 c4 k4
  have b4 := F4.binds (ps := ["box", "many"]) fun _ _ _ _ _ _ us hl => match us, hl with | [_, _], _ => rfl
  have F5 := fun_mk (st := s__law_mixed) l5 c5 k5
  have b5 := F5.binds (ps := ["box", "items"]) fun _ _ _ _ _ _ us hl => match us, hl with | [_, _], _ => rfl
  have F6 := fun_mk (st := s__law_taboo) l6 c6 k6
  have b6 := F6.binds (ps := ([] : List Str)) fun _ _ _ _ _ _ us hl => match us, hl with | [], _ => rfl
  have F7 := fun_mk (st := s__law_names) l7 c7 k7
  have b7 := F7.binds (ps := ["box", "many"]) fun _ _ _ _ _ _ us hl => match us, hl with | [_, _], _ => rfl
  have F8 := fun_mk (st := s__law_ways) l8 c8 k8
  have b8 := F8.binds (ps := ["box"]) fun _ _ _ _ _ _ us hl => match us, hl with | [_], _ => rfl
  have F9 := fun_mk (st := s__law_marks) l9 c9 k9
  have b9 := F9.binds (ps := ["box", "names"]) fun _ _ _ _ _ _ us hl => match us, hl with | [_, _], _ => rfl
  have F10 := fun_mk (st := s__law_part) l10 c10 k10
  have b10 := F10.binds (ps := ["box", "names", "tests"]) fun _ _ _ _ _ _ us hl => match us, hl with | [_, _, _], _ => rfl
  have F11 := fun_mk (st := s__law_formula) l11 c11 k11
  have b11 := F11.binds (ps := ["box", "names", "tests", "deep", "full"]) fun _ _ _ _ _ _ us hl => match us, hl with | [_, _, _, _, _], _ => rfl
  have F12 := fun_mk (st := s__law_with) l12 c12 k12
  have b12 := F12.binds (ps := ["value", "path", "new"]) fun _ _ _ _ _ _ us hl => match us, hl with | [_, _, _], _ => rfl
  have F13 := fun_mk (st := s__law_within) l13 c13 k13
  have b13 := F13.binds (ps := ["box", "value", "many", "test"]) fun _ _ _ _ _ _ us hl => match us, hl with | [_, _, _, _], _ => rfl
  have F14 := fun_mk (st := s_is_row) l14 c14 k14
  have b14 := F14.binds (ps := ["value", "many"]) fun _ _ _ _ _ _ us hl => match us, hl with | [_, _], _ => rfl
  have F15 := fun_mk (st := s_ascends) l15 c15 k15
  have b15 := F15.binds (ps := ["items"]) fun _ _ _ _ _ _ us hl => match us, hl with | [_], _ => rfl
  have F16 := fun_mk (st := s_is_among) l16 c16 k16
  have b16 := F16.binds (ps := ["names", "value"]) fun _ _ _ _ _ _ us hl => match us, hl with | [_, _], _ => rfl
  have F17 := fun_mk (st := s_are_marks) l17 c17 k17
  have b17 := F17.binds (ps := ["names", "value"]) fun _ _ _ _ _ _ us hl => match us, hl with | [_, _], _ => rfl
  have F18 := fun_mk (st := s_is_formula_within) l18 c18 k18
  have b18 := F18.binds (ps := ["names", "tests", "value", "deep"]) fun _ _ _ _ _ _ us hl => match us, hl with | [_, _, _, _], _ => rfl
  have F19 := fun_mk (st := s_is_formula) l19 c19 k19
  have b19 := F19.binds (ps := ["ways", "tests", "value"]) fun _ _ _ _ _ _ us hl => match us, hl with | [_, _, _], _ => rfl
  have F20 := fun_mk (st := s__law_marks_due) l20 c20 k20
  have b20 := F20.binds (ps := ["names", "value"]) fun _ _ _ _ _ _ us hl => match us, hl with | [_, _], _ => rfl
  have F21 := fun_mk (st := s__law_deep) l21 c21 k21
  have b21 := F21.binds (ps := ["names", "tests", "value"]) fun _ _ _ _ _ _ us hl => match us, hl with | [_, _, _], _ => rfl
  have F22 := fun_mk (st := s__law_asked_right) l22 c22 k22
  have b22 := F22.binds (ps := ["ways", "tests", "value", "by_name"]) fun _ _ _ _ _ _ us hl => match us, hl with | [_, _, _, _], _ => rfl
  have F23 := fun_mk (st := s__law_odds) l23 c23 k23
  have b23 := F23.binds (ps := ["names", "t", "word", "free"]) fun _ _ _ _ _ _ us hl => match us, hl with | [_, _, _, _], _ => rfl
  have F24 := fun_mk (st := s__law_changed) l24 c24 k24
  have b24 := F24.binds (ps := ["box", "value", "words"]) fun _ _ _ _ _ _ us hl => match us, hl with | [_, _, _], _ => rfl
  have F25 := fun_mk (st := s__law_cell_right) l25 c25 k25
  have b25 := F25.binds (ps := ["box"]) fun _ _ _ _ _ _ us hl => match us, hl with | [_], _ => rfl
  have F26 := fun_mk (st := s_law) l26 c26 k26
  refine ⟨PySem.W.fnOf "law" "law" (defArgs s_law) (defBody s_law) (defScope s_law) .none kV26 dc26 pm26 an26 cd26 ct26, fun s v => .of_eq rfl, fun base _ _ => ?_⟩
  have G1 : Cal l.prog w K mg base 1 "_law_take" ["box", "many"] sp_take := ⟨f1, _, ok_take (k := 0) F1 B, PySem.W.mg_of X G a1, k1, b1⟩
  have G2 : Cal l.prog w K mg base 1 "_law_cell" ["script", "k"] (sp_cell K) := ⟨f2, _, ok_cell (k := 0) F2 B, PySem.W.mg_of X G a2, k2, b2⟩
  have G3 : Cal l.prog w K mg base 1 "_law_box" ["great"] sp_box := ⟨f3, _, ok_box (k := 0) F3 B, PySem.W.mg_of X G a3, k3, b3⟩
  have G4 : Cal l.prog w K mg base 2 "_law_letters" ["box", "many"] sp_letters := ⟨f4, _, ok_letters (k := 1) F4 B (G1.up (by decide)), PySem.W.mg_of X G a4, k4, b4⟩
  have G5 : Cal l.prog w K mg base 2 "_law_mixed" ["box", "items"] (sp_mixed K) := ⟨f5, _, ok_mixed (k := 1) F5 B (G1.up (by decide)), PySem.W.mg_of X G a5, k5, b5⟩
  have G6 : Cal l.prog w K mg base 1 "_law_taboo" [] sp_taboo := ⟨f6, _, ok_taboo (k := 0) F6 B, PySem.W.mg_of X G a6, k6, b6⟩
  have G7 : Cal l.prog w K mg base 3 "_law_names" ["box", "many"] sp_names := ⟨f7, _, ok_names (k := 2) F7 B (G1.up (by decide)) (G4.up (by decide)) (G6.up (by decide)) (G5.up (by decide)), PySem.W.mg_of X G a7, k7, b7⟩
  have G8 : Cal l.prog w K mg base 4 "_law_ways" ["box"] (sp_ways K) := ⟨f8, _, ok_ways (k := 3) F8 B (G1.up (by decide)) (G7.up (by decide)), PySem.W.mg_of X G a8, k8, b8⟩
  have G9 : Cal l.prog w K mg base 3 "_law_marks" ["box", "names"] (sp_marks K) := ⟨f9, _, ok_marks (k := 2) F9 B (G1.up (by decide)) (G5.up (by decide)), PySem.W.mg_of X G a9, k9, b9⟩
  have G10 : Cal l.prog w K mg base 4 "_law_part" ["box", "names", "tests"] (sp_part K) := ⟨f10, _, ok_part (k := 3) F10 B (G1.up (by decide)) (G9.up (by decide)), PySem.W.mg_of X G a10, k10, b10⟩
  have G11 : Cal l.prog w K mg base 10 "_law_formula" ["box", "names", "tests", "deep", "full"] (sp_formula K 6) := ⟨f11, _, ok_formula (k := 4) F11 B (PySem.W.mg_of X G a11) k11 b11 (G1.up (by decide)) (G10.up (by decide)) 6, PySem.W.mg_of X G a11, k11, b11⟩
  have G12 : Cal l.prog w K mg base 8 "_law_with" ["value", "path", "new"] (sp_with K 8) := ⟨f12, _, ok_with (k := 0) F12 B (PySem.W.mg_of X G a12) k12 b12 8, PySem.W.mg_of X G a12, k12, b12⟩
  have G13 : Cal l.prog w K mg base 2 "_law_within" ["box", "value", "many", "test"] (sp_within K) := ⟨f13, _, ok_within (k := 1) F13 B (G1.up (by decide)), PySem.W.mg_of X G a13, k13, b13⟩
  have G14 : Cal l.prog w K mg base 1 "is_row" ["value", "many"] (sp_row K) := ⟨f14, _, ok_row (k := 0) F14 B, PySem.W.mg_of X G a14, k14, b14⟩
  have G15 : Cal l.prog w K mg base 1 "ascends" ["items"] (sp_asc K) := ⟨f15, _, ok_asc (k := 0) F15 B, PySem.W.mg_of X G a15, k15, b15⟩
  have G16 : Cal l.prog w K mg base 1 "is_among" ["names", "value"] (sp_among K) := ⟨f16, _, ok_among (k := 0) F16 B, PySem.W.mg_of X G a16, k16, b16⟩
  have G17 : Cal l.prog w K mg base 2 "are_marks" ["names", "value"] (sp_ams K) := ⟨f17, _, ok_ams (k := 1) F17 B T (G15.up (by decide)), PySem.W.mg_of X G a17, k17, b17⟩
  have G18 : Cal l.prog w K mg base 8 "is_formula_within" ["names", "tests", "value", "deep"] (sp_fw K 6) := ⟨f18, _, ok_fw (k := 2) F18 B T (PySem.W.mg_of X G a18) k18 b18 (G16.up (by decide)) (G14.up (by decide)) (G17.up (by decide)) 6, PySem.W.mg_of X G a18, k18, b18⟩
  have G19 : Cal l.prog w K mg base 9 "is_formula" ["ways", "tests", "value"] (sp_isf K) := ⟨f19, _, ok_isf (k := 8) F19 B T (G18.up (by decide)), PySem.W.mg_of X G a19, k19, b19⟩
  have R19 : CalR l.prog w K mg base 9 "is_formula" ["ways", "tests", "value"] ["value", "tests", "ways"] (sp_isf K) := ⟨f19, _, ok_isf (k := 8) F19 B T (G18.up (by decide)), PySem.W.mg_of X G a19, k19, fun s us _ hl => match us, hl with | [_, _, _], _ => .of_eq rfl⟩
  have G20 : Cal l.prog w K mg base 1 "_law_marks_due" ["names", "value"] (sp_md K) := ⟨f20, _, ok_md (k := 0) F20 B, PySem.W.mg_of X G a20, k20, b20⟩
  have G21 : Cal l.prog w K mg base 31 "_law_deep" ["names", "tests", "value"] (sp_deep K 30) := ⟨f21, _, ok_deep (k := 1) F21 B (PySem.W.mg_of X G a21) k21 b21 (G20.up (by decide)) 30, PySem.W.mg_of X G a21, k21, b21⟩
  have G22 : Cal l.prog w K mg base 32 "_law_asked_right" ["ways", "tests", "value", "by_name"] (sp_asked K) := ⟨f22, _, ok_asked (k := 31) F22 B (G21.up (by decide)) (G19.up (by decide)) (R19.up (by decide)), PySem.W.mg_of X G a22, k22, b22⟩
  have G23 : Cal l.prog w K mg base 1 "_law_odds" ["names", "t", "word", "free"] (sp_odds K) := ⟨f23, _, ok_odds (k := 0) F23 B, PySem.W.mg_of X G a23, k23, b23⟩
  have G24 : Cal l.prog w K mg base 9 "_law_changed" ["box", "value", "words"] (sp_changed K) := ⟨f24, _, ok_changed (k := 8) F24 B (G1.up (by decide)) (G12.up (by decide)), PySem.W.mg_of X G a24, k24, b24⟩
  have G25 : Cal l.prog w K mg base 33 "_law_cell_right" ["box"] sp_cr := ⟨f25, _, ok_cr (k := 32) F25 B (G1.up (by decide)) (G8.up (by decide)) (G7.up (by decide)) (G6.up (by decide)) (G11.up (by decide)) (G22.up (by decide)) (G10.up (by decide)) (G23.up (by decide)) (G13.up (by decide)) (G24.up (by decide)), PySem.W.mg_of X G a25, k25, b25⟩
  exact ok_law (k := 33) F26 B (G2.up (by decide)) (G3.up (by decide)) (G25.up (by decide))
end M74
set_option maxHeartbeats 0
open PySem PySem.W PyProof.Rows
open_top head for PySem.Challenge.rw_mayforget_k74_formulas_judged
open PySem PySem.W PyProof.Rows in
set_option maxRecDepth 100000 in
set_option maxHeartbeats 0 in
theorem PySem.Challenge.cw_mayforget_k74_formulas_judged_holds : PySem.Challenge.rw_mayforget_k74_formulas_judged.Holds := by
  w_on; o_law; k_head; (case hw => w_witness2)
  k_fill
  refine G.walk (l := PySem.Challenge.rw_mayforget_k74_formulas_judged) (n := 63) (k := 34) (arg := "script") (sp := M74.sp_law) rfl (by decide) rfl ⟨rfl, by decide, by decide⟩ (fun w h Y => PySem.W.kIn_of Y) ?F ?K
  case K => exact fun _ _ a ns hl _ hS => ⟨a, ns, rfl, hS, hl, fun _ => rfl⟩
  case F =>
    intro w mg fa h Y KX G hmg
    refine' M74.all_mk KX G hmg ?a1 ?l1 ?c1 ?k1 ?a2 ?l2 ?c2 ?k2 ?a3 ?l3 ?c3 ?k3 ?a4 ?l4 ?c4 ?k4 ?a5 ?l5 ?c5 ?k5 ?a6 ?l6 ?c6 ?k6 ?a7 ?l7 ?c7 ?k7 ?a8 ?l8 ?c8 ?k8 ?a9 ?l9 ?c9 ?k9 ?a10 ?l10 ?c10 ?k10 ?a11 ?l11 ?c11 ?k11 ?a12 ?l12 ?c12 ?k12 ?a13 ?l13 ?c13 ?k13 ?a14 ?l14 ?c14 ?k14 ?a15 ?l15 ?c15 ?k15 ?a16 ?l16 ?c16 ?k16 ?a17 ?l17 ?c17 ?k17 ?a18 ?l18 ?c18 ?k18 ?a19 ?l19 ?c19 ?k19 ?a20 ?l20 ?c20 ?k20 ?a21 ?l21 ?c21 ?k21 ?a22 ?l22 ?c22 ?k22 ?a23 ?l23 ?c23 ?k23 ?a24 ?l24 ?c24 ?k24 ?a25 ?l25 ?c25 ?k25 ?a26 ?l26 ?c26 ?k26 ?z_len ?z_range ?z_abs ?z_int ?z_str ?z_bool ?z_list ?z_tuple ?z_dict ?z_sum ?z_all ?z_any ?z_max ?z_min ?z_sorted ?z_repr ?z_isinstance ?z_enumerate ?z_zip ?pS ?pM ?pE ?pA ?pP ?uE ?uA ?uP ?dP ?sP
    (case a1 => k_is)
    (case l1 => k_is)
    (case c1 => k_is)
    (case k1 => k_is)
    (case a2 => k_is)
    (case l2 => k_is)
    (case c2 => k_is)
    (case k2 => k_is)
    (case a3 => k_is)
    (case l3 => k_is)
    (case c3 => k_is)
    (case k3 => k_is)
    (case a4 => k_is)
    (case l4 => k_is)
    (case c4 => k_is)
    (case k4 => k_is)
    (case a5 => k_is)
    (case l5 => k_is)
    (case c5 => k_is)
    (case k5 => k_is)
    (case a6 => k_is)
    (case l6 => k_is)
    (case c6 => k_is)
    (case k6 => k_is)
    (case a7 => k_is)
    (case l7 => k_is)
    (case c7 => k_is)
    (case k7 => k_is)
    (case a8 => k_is)
    (case l8 => k_is)
    (case c8 => k_is)
    (case k8 => k_is)
    (case a9 => k_is)
    (case l9 => k_is)
    (case c9 => k_is)
    (case k9 => k_is)
    (case a10 => k_is)
    (case l10 => k_is)
    (case c10 => k_is)
    (case k10 => k_is)
    (case a11 => k_is)
    (case l11 => k_is)
    (case c11 => k_is)
    (case k11 => k_is)
    (case a12 => k_is)
    (case l12 => k_is)
    (case c12 => k_is)
    (case k12 => k_is)
    (case a13 => k_is)
    (case l13 => k_is)
    (case c13 => k_is)
    (case k13 => k_is)
    (case a14 => k_is)
    (case l14 => k_is)
    (case c14 => k_is)
    (case k14 => k_is)
    (case a15 => k_is)
    (case l15 => k_is)
    (case c15 => k_is)
    (case k15 => k_is)
    (case a16 => k_is)
    (case l16 => k_is)
    (case c16 => k_is)
    (case k16 => k_is)
    (case a17 => k_is)
    (case l17 => k_is)
    (case c17 => k_is)
    (case k17 => k_is)
    (case a18 => k_is)
    (case l18 => k_is)
    (case c18 => k_is)
    (case k18 => k_is)
    (case a19 => k_is)
    (case l19 => k_is)
    (case c19 => k_is)
    (case k19 => k_is)
    (case a20 => k_is)
    (case l20 => k_is)
    (case c20 => k_is)
    (case k20 => k_is)
    (case a21 => k_is)
    (case l21 => k_is)
    (case c21 => k_is)
    (case k21 => k_is)
    (case a22 => k_is)
    (case l22 => k_is)
    (case c22 => k_is)
    (case k22 => k_is)
    (case a23 => k_is)
    (case l23 => k_is)
    (case c23 => k_is)
    (case k23 => k_is)
    (case a24 => k_is)
    (case l24 => k_is)
    (case c24 => k_is)
    (case k24 => k_is)
    (case a25 => k_is)
    (case l25 => k_is)
    (case c25 => k_is)
    (case k25 => k_is)
    (case a26 => k_is)
    (case l26 => k_is)
    (case c26 => k_is)
    (case k26 => k_is)
    (case z_len => k_is)
    (case z_range => k_is)
    (case z_abs => k_is)
    (case z_int => k_is)
    (case z_str => k_is)
    (case z_bool => k_is)
    (case z_list => k_is)
    (case z_tuple => k_is)
    (case z_dict => k_is)
    (case z_sum => k_is)
    (case z_all => k_is)
    (case z_any => k_is)
    (case z_max => k_is)
    (case z_min => k_is)
    (case z_sorted => k_is)
    (case z_repr => k_is)
    (case z_isinstance => k_is)
    (case z_enumerate => k_is)
    (case z_zip => k_is)
    (case pS => k_is)
    (case pM => k_is)
    (case pE => k_is)
    (case pA => k_is)
    (case pP => k_is)
    (case uE => k_is)
    (case uA => k_is)
    (case uP => k_is)
    (case dP => exact ⟨⟨_, _, rfl, rfl⟩, ⟨_, _, rfl, rfl⟩, ⟨_, _, rfl, rfl⟩, trivial⟩)
    (case sP => first | rfl | decide)
