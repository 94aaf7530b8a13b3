import PyProof.Rows.All
import Wide.All
import OpenK.AllK
import Wide.FinOn
import KE.KStateDown
import HandS.ForExc
import HandS.ForMost
import HandS.Defaults
import HandS.HeadHook1
import HandS.HeadHook2
import HandS.IsInst
import HandS.SetFor
import HandS.Wide
import HandS.WideBits
import HandS.Property
import HandS.OwnEq
import HandS.MakeKw
import HandS.TryOnly
import HandS.TryMany
import HandS.More
import KE.SortData
import HandS.Style
import HandS.Conv
import PyProof.InstNe
import KE.DataMinMax
import HandS.FStr
import Lean
import HandS.Base
import HandS.Call
import HandS.Ends
import HandS.Words
import HandS.WordsExc
import HandS.Head0
import HandS.Head1
import HandS.Head2
import HandS.HeadEnd
import PySem.Challenge.RW_toldpushes_k49_whole_built_barred_lots
set_option Elab.async false
set_option linter.all false
set_option maxRecDepth 100000
set_option maxHeartbeats 4000000
/-! Tp0: promises of defs that are called while no repr runs. -/
namespace Tp
open PySem PySem.Spec L2
open PyProof.Rows hiding St

structure RG (k : Nat) (A : Around) : Prop where
  r : Room k A
  g : A.guards = some []
theorem RG.mono {j k : Nat} {A : Around} (h : RG k A) (l : j ≤ k) : RG j A := ⟨h.r.mono l, h.g⟩
theorem RG.deeper {k : Nat} {A : Around} (h : RG (k + 1) A) (env : Env) : RG k (A.deeper env) := ⟨h.r.deeper env, h.g⟩
theorem RG.in1 {k : Nat} {A : Around} (h : RG (k + 1) A) : RG k A.in1 := ⟨h.r.in1, h.g⟩
theorem make_guards (C : Addr) (us : List Value) (kw : List (Str × Value)) : (Code.builtin "type.__call__" ⟨.ref C :: us, kw⟩).guards = [] := by
  have e : ¬ "type.__call__" ∈ guardIds := by decide +kernel
  simp [Code.guards, Code.isGuard, e]
theorem RG.make {k : Nat} {A : Around} (h : RG (k + 1) A) (C : Addr) (us : List Value) (kw : List (Str × Value)) : RG k (A.under (.builtin "type.__call__" ⟨.ref C :: us, kw⟩)) := by
  refine ⟨h.r.make C us kw, ?_⟩
  have e : (A.under (.builtin "type.__call__" ⟨.ref C :: us, kw⟩)).guards = pushGuards (Code.builtin "type.__call__" ⟨.ref C :: us, kw⟩).guards A.guards := by simp [Around.under]
  rw [e, make_guards]
  exact h.g

/-- a def keeps its promise wherever no repr runs -/
structure FnG (P : Program) (w : World) (K : PySem.W.Frag) (mg : Str → Option Value) (base : Heap) (k : Nat) (f : Addr) (fd : FuncData) (ps : List Str) (sp : Sp) : Prop where
  len : ∀ vs H Q E, sp vs H Q E → vs.length = ps.length
  run : ∀ (A : Around) (outer : List Env) (s : Shared) (H : Hp) (args : Args) (us : List Value) (vs : List V) (Q : VK) (E : XK), RG k A → Env0 P w K mg base A outer s H → BindsTo s fd args (ps.zip us) → Vals vs us → sp vs H Q E →
    codeAny (model P w) A (.call (.ref f) args) (CR (L2.CX P w) outer P w H s Q E) s
section
variable {P : Program} {w : World} {K : PySem.W.Frag} {mg : Str → Option Value} {base : Heap}
theorem FnG.mono {j k : Nat} {f : Addr} {fd : FuncData} {ps : List Str} {sp : Sp} (F : FnG P w K mg base j f fd ps sp) (h : j ≤ k) : FnG P w K mg base k f fd ps sp :=
  ⟨F.len, fun A outer s H args us vs Q E hr => F.run A outer s H args us vs Q E (hr.mono h)⟩
theorem FnG.imp {k : Nat} {f : Addr} {fd : FuncData} {ps : List Str} {sp sp' : Sp} (F : FnG P w K mg base k f fd ps sp) (h : ∀ vs H Q E, sp' vs H Q E → sp vs H Q E) : FnG P w K mg base k f fd ps sp' :=
  ⟨fun vs H Q E q => F.len vs H Q E (h _ _ _ _ q), fun A outer s H args us vs Q E hr he hb hv hs => F.run A outer s H args us vs Q E hr he hb hv (h _ _ _ _ hs)⟩

/-- a def's body keeps its promise -/
theorem fnG_of {k : Nat} {f : Addr} {name qual : Str} {params : Arguments} {body : List Stmt} {scope : Scope} {dvs : List V} {kws : List (Str × V)} {fd : FuncData} {N ps : List Str} {sp : Sp} (F : FunD K name qual params body scope dvs kws f fd) (S : FnScope N ps scope)
    (len : ∀ vs H Q E, sp vs H Q E → vs.length = ps.length)
    (hbody : ∀ (cdv : Value) (A : Around) (outer : List Env) (s : Shared) (H : Hp) (vs : List V) (Q : VK) (E : XK), RG k (A.deeper (envOfC qual scope s.heap.objs.size f cdv)) → sp vs H Q E →
      ∃ t, PSs (cxOf (L2.CX P w) P w K mg base N qual scope f cdv A outer s H E) body t ∧ t { nx := fun _ H' => Q .non H', rt := Q } (L2.start N vs) H) : FnG P w K mg base (k + 1) f fd ps sp := by
  obtain ⟨oc, od, dV, kV, doc, pm, an, cdv, ct, osl, rfl, lk, hcd, _, _⟩ := F.ex
  constructor
  · exact len
  intro A outer s H args us vs Q E hr e0 hb r hsp
  have size_eq := len _ _ _ _ hsp
  have hK : K.In s.heap := e0.mod.kin.keeps fun b o e => (e0.bs b o e).1
  have noLim : s.heap.NoLimit := e0.mod.nolimit.keeps fun b o e => (e0.bs b o e).1
  have kinds : ∀ q ∈ ps.zip us, scope.names.lookup q.1 = some .local ∨ (scope.names.lookup q.1 = some .cell ∧ ((cellsFrom (s.heap.objs.size + 1) scope.names []).lookup q.1).isSome = true) := fun ⟨n, v⟩ hy =>
    (S.par n (List.of_mem_zip hy).1).elim .inl fun q => .inr ⟨q, PySem.W.cellsFrom_some _ _ _ (.inl q)⟩
  refine codeAny_call_function hr.r.depth (hK _ _ lk) rfl S.co S.gen rfl (PySem.W.codeRec_of hK hcd) (hb _ _ _ _ ?_)
  refine wpAny_newFunctionEnv_cells S.kind kinds fun env he s1 x => ?_
  subst he
  refine ⟨noLim.keeps x.toInCall.keep, codeAny_func ?_⟩
  obtain ⟨t, ht, hq⟩ := hbody cdv A outer s H vs Q E (hr.deeper _) hsp
  have I := inv_start (CX := L2.CX P w) (P := P) (w := w) (K := K) (mg := mg) (base := base) (f := f) (cd := cdv) (E := E) S hr.r.hd e0 size_eq r x
  refine wpAny_mono (ht.run [] s1 (L2.start N vs) H _ I hq) (fun fl s' out => ?_) fun e s' out => out
  cases fl with
  | ret u => exact let ⟨v, _, H', J, rv, q⟩ := out; ⟨v, H', J.os, J.bare, J.base, J.hok, rv, q⟩
  | next => exact let ⟨_, H', J, q⟩ := out; ⟨V.non, H', J.os, J.bare, J.base, J.hok, rfl, q⟩
  | brk => exact let ⟨_, _, _, q⟩ := out; q.elim
  | cont => exact let ⟨_, _, _, q⟩ := out; q.elim
end

section
variable {X : Cx} {k : Nat} {f C : Addr} {fd : FuncData} {ps : List Str} {sp : Sp} {dvs : List V} {ds : List Value} {x m : Str} {p pos apos : Pos} {e o : Expr} {es : List Expr} {ta : TE} {t : TA}
/-- the wish about exceptions, at the slots as they stand -/
def PassG (X : Cx) (E : St → XK) : Prop := ∀ (pins : List (Addr × Obj)) (σ : St) (H : Hp) (s : Shared) (e : Value) (s' : Shared), Inv X pins σ H s → L2.CX X.prog X.w X.stack H s (E σ) e s' → X.xe e s'
theorem passG {W : WX} (tk : Takes X W) : PassG X (WE W) := fun _ _ _ _ e s' I c => tk e s' (XE.of_call I (fun _ _ _ h => h) c)
/-- the callee runs, however its arguments are bound -/
theorem run_G {pins : List (Addr × Obj)} {σ : St} {H : Hp} {s : Shared} {Q : VK} {E : St → XK} {args : Args} {us : List Value} {vs : List V} (F : FnG X.prog X.w X.K X.mg X.base k f fd ps sp) (hr : RG k X.A) (hx : PassG X E)
    (I : Inv X pins σ H s) (hb : us.length = ps.length → BindsTo s fd args (ps.zip us)) (r : Vals vs us) (h : sp vs H Q (E σ)) : wpAny (model X.prog X.w) X.A (call (.ref f) args.pos args.kw) (EP X pins σ Q) X.xe s := by
  have hl : us.length = ps.length := r.length.symm.trans (F.len _ _ _ _ h)
  refine wpAny_call (codeAny_mono (F.run X.A X.stack s H args us vs Q (E σ) hr I.env0 (hb hl) r h) fun out s' hq => ?_)
  cases out with
  | error e => exact hx pins σ H s e s' I hq
  | ok fl =>
    cases fl with
    | ret u => exact I.after hq
    | next => exact hq.elim
    | brk => exact hq.elim
    | cont => exact hq.elim
def tCallG (sp : Sp) (dvs : List V) (E : St → XK) (t : TA) : TE := fun σ H Q => t σ H fun vs H1 => sp (vs ++ dvs) H1 Q (E σ)
theorem pe_callG {E : St → XK} (F : FnG X.prog X.w X.K X.mg X.base k f fd ps sp) (hr : RG k X.A) (hg : Gl X x) (hm : X.mg x = some (.ref f)) (hk : PySem.W.keepIn X.K (.ref f) = true) (hb : Binds X.K fd ps ds) (hd : Vals dvs ds) (hx : PassG X E)
    (ha : PA X (e :: es) t) (hdb : (x == ("__debug__" : Str)) = false) (he : starEach (e :: es) X.env = (false, eval e X.env) :: starEach es X.env) (hpl : (backTo pos (starEach es X.env)).any (·.1) = false) :
    PE X (.Call (.Name x p) (e :: es) [] pos) (tCallG sp dvs E t) :=
  ⟨fun pins s σ H Q I h => wpAny_Call_Name_kw (ld_glob I hg hm (PySem.W.callWith_K (h₀ := X.base) I.ok.mod.kin hk (thn (ha.run pos pins s σ H _ I h) fun us s1 ⟨vs, H1, I1, r, q⟩ =>
    ⟨I1.kIn, run_G (args := ⟨us, []⟩) F hr hx I1 (hb s1 us I1.kIn) (r.append hd) q⟩) he hpl) hdb)⟩
theorem pe_callG0 {E : St → XK} (F : FnG X.prog X.w X.K X.mg X.base k f fd ps sp) (hr : RG k X.A) (hg : Gl X x) (hm : X.mg x = some (.ref f)) (hk : PySem.W.keepIn X.K (.ref f) = true) (hb : Binds X.K fd ps ds) (hd : Vals dvs ds) (hx : PassG X E)
    (hdb : (x == ("__debug__" : Str)) = false) : PE X (.Call (.Name x p) [] [] pos) (tCallG sp dvs E tNil) :=
  ⟨fun pins s σ H Q I h => wpAny_Call_Name_kw (ld_glob I hg hm (PySem.W.callWith_K0 I.kIn hk (run_G (args := ⟨[], []⟩) F hr hx I (hb s [] I.kIn) (Vals.append .nil hd) h)) hdb)⟩
/-- with keywords behind -/
def tCallGK (sp : Sp) (gV : List V → List V → List V) (E : St → XK) (t tk : TA) : TE := fun σ H Q => t σ H fun vs H1 => tk σ H1 fun zs H2 => sp (gV vs zs) H2 Q (E σ)
theorem pe_callGK {E : St → XK} {ks : List Str} {kws : List Keyword} {tk : TA} {g : List Value → List Value → List Value} {gV : List V → List V → List V} (F : FnG X.prog X.w X.K X.mg X.base k f fd ps sp) (hr : RG k X.A) (hg : Gl X x) (hm : X.mg x = some (.ref f))
    (hk : PySem.W.keepIn X.K (.ref f) = true) (hb : KBinds X.K fd ps ks g gV) (hx : PassG X E) (ha : PA X (e :: es) t) (hkw : PK X kws tk) (hall : (backToKw pos (keywordEach kws X.env)).all (·.1.isSome) = true) (hks : (backToKw pos (keywordEach kws X.env)).filterMap (·.1) = ks)
    (hdb : (x == ("__debug__" : Str)) = false) (he : starEach (e :: es) X.env = (false, eval e X.env) :: starEach es X.env)
    (hpl : ((backTo pos (starEach (e :: es) X.env)).any (·.1) || (backToKw pos (keywordEach kws X.env)).any (·.1.isNone)) = false) : PE X (.Call (.Name x p) (e :: es) kws pos) (tCallGK sp gV E t tk) :=
  ⟨fun pins s σ H Q I h => wpAny_Call_Name_kw (ld_glob I hg hm (PySem.W.callWith_KW (h₀ := X.base) I.ok.mod.kin hk hall (thn (ha.run pos pins s σ H _ I h) fun us s1 ⟨vs, H1, I1, r, q⟩ =>
    thn (hkw.run pos pins s1 σ H1 _ I1 q) fun ws s2 ⟨zs, H2, I2, rz, q2⟩ => ⟨I2.kIn, by
      rw [hks]
      exact run_G (args := ⟨us, ks.zip ws⟩) F hr hx I2 (hb.to s2 us ws I2.kIn) (hb.rel r rz) q2⟩) hpl he) hdb)⟩
end
end Tp

set_option Elab.async false
set_option linter.all false
set_option maxRecDepth 100000
set_option maxHeartbeats 4000000
/-! Tp1: pure values, what represents them, states of a def's slots. -/
namespace Tp
open PySem PySem.Spec L2
open PyProof.Rows hiding St

/-- a pure value -/
inductive PV where
  | non | bl (b : Bool) | int (i : Int) | str (x : Str)
  | lst (xs : List PV) | tup (xs : List PV) | ins (c : Str) (fs : List (Str × PV))
  /-- the script: a list of numbers that is read, never written -/
  | scr (xs : List Int)

mutual
def Rep (K : PySem.W.Frag) (S : Hp) : PV → V → Prop
  | .non, v => v = .non
  | .bl b, v => v = .bl b
  | .int i, v => v = .int i
  | .str x, v => v = .str x
  | .lst xs, v => ∃ a vs, v = .ref a ∧ S a = some (.lst vs) ∧ RepL K S xs vs
  | .tup xs, v => ∃ a vs, v = .ref a ∧ SqT K S a vs ∧ RepL K S xs vs
  | .ins c fs, v => ∃ a dx gs, v = .ref a ∧ S a = some (.ins (He.ga K c) dx gs) ∧ RepF K S fs gs
  | .scr xs, v => ∃ a, v = .ref a ∧ SqL K S a (xs.map V.int)
def RepL (K : PySem.W.Frag) (S : Hp) : List PV → List V → Prop
  | [], vs => vs = []
  | x :: xs, vs => ∃ v r, vs = v :: r ∧ Rep K S x v ∧ RepL K S xs r
def RepF (K : PySem.W.Frag) (S : Hp) : List (Str × PV) → List (Str × V) → Prop
  | [], gs => gs = []
  | (f, x) :: fs, gs => ∃ v r, gs = (f, v) :: r ∧ Rep K S x v ∧ RepF K S fs r
end

abbrev Ext (S S' : Hp) : Prop := Same S S'

theorem ext_seqT {K : PySem.W.Frag} {H H' : Hp} {a : Addr} {xs : List V} (e : Ext H H') (h : SqT K H a xs) : SqT K H' a xs := by
  rcases h with (h | ⟨o, h⟩) | h
  · exact .inl (.inl (e _ _ h))
  · exact .inl (.inr ⟨o, e _ _ h⟩)
  · exact .inr h

section
variable {K : PySem.W.Frag} {S S' : Hp}
mutual
theorem Rep.mono (e : Ext S S') : ∀ {x : PV} {v : V}, Rep K S x v → Rep K S' x v
  | .non, _, h => h
  | .bl _, _, h => h
  | .int _, _, h => h
  | .str _, _, h => h
  | .lst xs, v, h => by
    obtain ⟨a, vs, e1, e2, e3⟩ := h
    exact ⟨a, vs, e1, e _ _ e2, RepL.mono e e3⟩
  | .tup xs, v, h => by
    obtain ⟨a, vs, e1, e2, e3⟩ := h
    exact ⟨a, vs, e1, ext_seqT e e2, RepL.mono e e3⟩
  | .ins c fs, v, h => by
    obtain ⟨a, dx, gs, e1, e2, e3⟩ := h
    exact ⟨a, dx, gs, e1, e _ _ e2, RepF.mono e e3⟩
  | .scr xs, v, h => by
    obtain ⟨a, e1, e2⟩ := h
    exact ⟨a, e1, Same.seq e e2⟩
theorem RepL.mono (e : Ext S S') : ∀ {xs : List PV} {vs : List V}, RepL K S xs vs → RepL K S' xs vs
  | [], _, h => h
  | x :: xs, vs, h => by
    obtain ⟨v, r, e1, e2, e3⟩ := h
    exact ⟨v, r, e1, Rep.mono e e2, RepL.mono e e3⟩
theorem RepF.mono (e : Ext S S') : ∀ {xs : List (Str × PV)} {vs : List (Str × V)}, RepF K S xs vs → RepF K S' xs vs
  | [], _, h => h
  | (f, x) :: xs, vs, h => by
    obtain ⟨v, r, e1, e2, e3⟩ := h
    exact ⟨v, r, e1, Rep.mono e e2, RepF.mono e e3⟩
end
theorem RepL.len : ∀ {xs : List PV} {vs : List V}, RepL K S xs vs → vs.length = xs.length
  | [], _, h => by cases h; rfl
  | x :: xs, vs, h => by
    obtain ⟨v, r, e1, _, e3⟩ := h
    subst e1
    simp [RepL.len e3]
theorem RepL.nil : RepL K S [] [] := rfl
theorem RepL.cons {x : PV} {v : V} {xs : List PV} {vs : List V} (h : Rep K S x v) (t : RepL K S xs vs) : RepL K S (x :: xs) (v :: vs) := ⟨v, vs, rfl, h, t⟩
theorem RepL.app : ∀ {xs ys : List PV} {vs us : List V}, RepL K S xs vs → RepL K S ys us → RepL K S (xs ++ ys) (vs ++ us)
  | [], _, _, _, h, t => by cases h; exact t
  | x :: xs, ys, vs, us, h, t => by
    obtain ⟨v, r, e1, e2, e3⟩ := h
    subst e1
    exact ⟨v, r ++ us, rfl, e2, RepL.app e3 t⟩
theorem RepL.get : ∀ {xs : List PV} {vs : List V} {i : Nat} {x : PV}, RepL K S xs vs → xs[i]? = some x → ∃ v, vs[i]? = some v ∧ Rep K S x v
  | [], _, i, _, _, e => by simp at e
  | x :: xs, vs, 0, y, h, e => by
    obtain ⟨v, r, e1, e2, e3⟩ := h
    subst e1
    simp at e; subst e
    exact ⟨v, rfl, e2⟩
  | x :: xs, vs, i + 1, y, h, e => by
    obtain ⟨v, r, e1, e2, e3⟩ := h
    subst e1
    obtain ⟨u, h1, h2⟩ := RepL.get (i := i) e3 (by simpa using e)
    exact ⟨u, by simpa using h1, h2⟩
theorem RepL.set : ∀ {xs : List PV} {vs : List V} (i : Nat) {x : PV} {v : V}, RepL K S xs vs → Rep K S x v → RepL K S (xs.set i x) (vs.set i v)
  | [], _, i, _, _, h, _ => by cases h; exact rfl
  | x :: xs, vs, 0, y, u, h, q => by
    obtain ⟨v, r, e1, e2, e3⟩ := h
    subst e1
    exact ⟨u, r, rfl, q, e3⟩
  | x :: xs, vs, i + 1, y, u, h, q => by
    obtain ⟨v, r, e1, e2, e3⟩ := h
    subst e1
    exact ⟨v, r.set i u, rfl, e2, RepL.set i e3 q⟩
theorem RepL.take : ∀ {xs : List PV} {vs : List V} (n : Nat), RepL K S xs vs → RepL K S (xs.take n) (vs.take n)
  | _, _, 0, _ => rfl
  | [], _, n + 1, h => by cases h; exact rfl
  | x :: xs, vs, n + 1, h => by
    obtain ⟨v, r, e1, e2, e3⟩ := h
    subst e1
    exact ⟨v, r.take n, rfl, e2, RepL.take n e3⟩
theorem RepL.drop : ∀ {xs : List PV} {vs : List V} (n : Nat), RepL K S xs vs → RepL K S (xs.drop n) (vs.drop n)
  | _, _, 0, h => h
  | [], _, n + 1, h => by cases h; exact rfl
  | x :: xs, vs, n + 1, h => by
    obtain ⟨v, r, e1, e2, e3⟩ := h
    subst e1
    exact RepL.drop n e3
theorem RepF.len : ∀ {xs : List (Str × PV)} {vs : List (Str × V)}, RepF K S xs vs → vs.length = xs.length
  | [], _, h => by cases h; rfl
  | (f, x) :: xs, vs, h => by
    obtain ⟨v, r, e1, _, e3⟩ := h
    subst e1
    simp [RepF.len e3]
theorem RepF.look : ∀ {xs : List (Str × PV)} {vs : List (Str × V)} {f : Str} {x : PV}, RepF K S xs vs → xs.lookup f = some x → ∃ v, vs.lookup f = some v ∧ Rep K S x v
  | [], _, _, _, _, e => by simp at e
  | (g, y) :: xs, vs, f, x, h, e => by
    obtain ⟨v, r, e1, e2, e3⟩ := h
    subst e1
    rw [List.lookup_cons] at e
    rw [List.lookup_cons]
    cases hb : f == g with
    | true => rw [hb] at e; cases e; exact ⟨v, rfl, e2⟩
    | false => rw [hb] at e; exact RepF.look e3 e
theorem RepF.none : ∀ {xs : List (Str × PV)} {vs : List (Str × V)} {f : Str}, RepF K S xs vs → xs.lookup f = Option.none → vs.lookup f = Option.none
  | [], _, _, h, _ => by cases h; rfl
  | (g, y) :: xs, vs, f, h, e => by
    obtain ⟨v, r, e1, e2, e3⟩ := h
    subst e1
    rw [List.lookup_cons] at e
    rw [List.lookup_cons]
    cases hb : f == g with
    | true => rw [hb] at e; cases e
    | false => rw [hb] at e; exact RepF.none e3 e
end

/-! ### types: a Lean type with its reading as a pure value -/
structure TY where
  A : Type
  enc : A → PV
abbrev TY.int : TY := ⟨Int, .int⟩
abbrev TY.bool : TY := ⟨Bool, .bl⟩
abbrev TY.str : TY := ⟨Str, .str⟩
abbrev TY.non : TY := ⟨Unit, fun _ => .non⟩
abbrev TY.any : TY := ⟨PV, id⟩
abbrev TY.scr : TY := ⟨List Int, .scr⟩
abbrev TY.list (t : TY) : TY := ⟨List t.A, fun xs => .lst (xs.map t.enc)⟩
/-- a tuple of any length of one type -/
abbrev TY.tupl (t : TY) : TY := ⟨List t.A, fun xs => .tup (xs.map t.enc)⟩
abbrev TY.tup0 : TY := ⟨Unit, fun _ => .tup []⟩
abbrev TY.tup1 (a : TY) : TY := ⟨a.A, fun x => .tup [a.enc x]⟩
abbrev TY.tup2 (a b : TY) : TY := ⟨a.A × b.A, fun x => .tup [a.enc x.1, b.enc x.2]⟩
abbrev TY.tup3 (a b c : TY) : TY := ⟨a.A × b.A × c.A, fun x => .tup [a.enc x.1, b.enc x.2.1, c.enc x.2.2]⟩
abbrev TY.tup4 (a b c d : TY) : TY := ⟨a.A × b.A × c.A × d.A, fun x => .tup [a.enc x.1, b.enc x.2.1, c.enc x.2.2.1, d.enc x.2.2.2]⟩
abbrev TY.opt (t : TY) : TY := ⟨Option t.A, fun x => match x with | none => .non | some y => t.enc y⟩

/-- the fields of an instance -/
@[reducible] def FT : List (Str × TY) → Type
  | [] => Unit
  | (_, t) :: r => t.A × FT r
def FT.enc : (fs : List (Str × TY)) → FT fs → List (Str × PV)
  | [], _ => []
  | (f, t) :: r, x => (f, t.enc x.1) :: FT.enc r x.2

/-! ### what stands in a slot -/
inductive SE where
  | un
  | sh (t : TY)
  | o1 (t : TY)
  | o2 (t : TY)
  | oi (c : Str) (fs : List (Str × TY))
  /-- a list of whatever, of that length -/
  | oj
@[reducible] def SE.T : SE → Type
  | .un => Unit
  | .sh t => t.A
  | .o1 t => List t.A
  | .o2 t => List (List t.A)
  | .oi _ fs => FT fs
  | .oj => Nat

/-- rows of an owned list of owned lists -/
def Rows (K : PySem.W.Frag) (S H : Hp) : List (List PV) → List Addr → Prop
  | [], bs => bs = []
  | x :: xs, bs => ∃ b r vs, bs = b :: r ∧ H b = some (.lst vs) ∧ RepL K S x vs ∧ Rows K S H xs r

def SatE (K : PySem.W.Frag) (S H : Hp) : (e : SE) → e.T → Option V → List Addr → Prop
  | .un, _, _, O => O = []
  | .sh t, x, v, O => O = [] ∧ ∃ u, v = some u ∧ Rep K S (t.enc x) u
  | .o1 t, xs, v, O => ∃ a vs, O = [a] ∧ v = some (.ref a) ∧ H a = some (.lst vs) ∧ RepL K S (xs.map t.enc) vs
  | .o2 t, xs, v, O => ∃ a bs, O = a :: bs ∧ v = some (.ref a) ∧ H a = some (.lst (bs.map V.ref)) ∧ Rows K S H (xs.map (·.map t.enc)) bs
  | .oi c fs, x, v, O => ∃ a dx gs, O = [a] ∧ v = some (.ref a) ∧ H a = some (.ins (He.ga K c) dx gs) ∧ RepF K S (FT.enc fs x) gs
  | .oj, n, v, O => ∃ a vs, O = [a] ∧ v = some (.ref a) ∧ H a = some (.lst vs) ∧ vs.length = n

abbrev Ctx := List (Nat × SE)
@[reducible] def ST : Ctx → Type
  | [] => Unit
  | (_, e) :: r => e.T × ST r
def SatL (K : PySem.W.Frag) (S H : Hp) : (G : Ctx) → ST G → St → List Addr → Prop
  | [], _, _, O => O = []
  | (i, e) :: r, s, σ, O => ∃ O1 O2, O = O1 ++ O2 ∧ SatE K S H e s.1 (σ[i]?.join) O1 ∧ SatL K S H r s.2 σ O2

section
variable {K : PySem.W.Frag} {S S' H H' : Hp}
theorem Rows.mono (e : Ext S S') : ∀ {xs : List (List PV)} {bs : List Addr}, Rows K S H xs bs → (∀ a ∈ bs, H' a = H a) → Rows K S' H' xs bs
  | [], _, h, _ => h
  | x :: xs, bs, h, k => by
    obtain ⟨b, r, vs, e1, e2, e3, e4⟩ := h
    subst e1
    exact ⟨b, r, vs, rfl, (k b (by simp)).trans e2, RepL.mono e e3, Rows.mono e e4 fun a ha => k a (by simp [ha])⟩
theorem SatE.mono (e : Ext S S') {c : SE} {x : c.T} {v : Option V} {O : List Addr} (h : SatE K S H c x v O) (k : ∀ a ∈ O, H' a = H a) : SatE K S' H' c x v O := by
  cases c with
  | un => exact h
  | sh t => obtain ⟨h1, u, h2, h3⟩ := h; exact ⟨h1, u, h2, Rep.mono e h3⟩
  | o1 t => obtain ⟨a, vs, h1, h2, h3, h4⟩ := h; exact ⟨a, vs, h1, h2, (k a (by simp [h1])).trans h3, RepL.mono e h4⟩
  | o2 t => obtain ⟨a, bs, h1, h2, h3, h4⟩ := h; exact ⟨a, bs, h1, h2, (k a (by simp [h1])).trans h3, Rows.mono e h4 fun b hb => k b (by simp [h1, hb])⟩
  | oi c fs => obtain ⟨a, dx, gs, h1, h2, h3, h4⟩ := h; exact ⟨a, dx, gs, h1, h2, (k a (by simp [h1])).trans h3, RepF.mono e h4⟩
  | oj => obtain ⟨a, vs, h1, h2, h3, h4⟩ := h; exact ⟨a, vs, h1, h2, (k a (by simp [h1])).trans h3, h4⟩
theorem SatL.mono (e : Ext S S') : ∀ {G : Ctx} {s : ST G} {σ : St} {O : List Addr}, SatL K S H G s σ O → (∀ a ∈ O, H' a = H a) → SatL K S' H' G s σ O
  | [], _, _, _, h, _ => h
  | (i, c) :: r, s, σ, O, h, k => by
    obtain ⟨O1, O2, e1, e2, e3⟩ := h
    subst e1
    exact ⟨O1, O2, rfl, SatE.mono e e2 fun a ha => k a (by simp [ha]), SatL.mono e e3 fun a ha => k a (by simp [ha])⟩
/-- owned cells are there -/
theorem Rows.there : ∀ {xs : List (List PV)} {bs : List Addr}, Rows K S H xs bs → ∀ a ∈ bs, ∃ vs, H a = some (.lst vs)
  | [], _, h, a, ha => by cases h; cases ha
  | x :: xs, bs, h, a, ha => by
    obtain ⟨b, r, vs, e1, e2, e3, e4⟩ := h
    subst e1
    rcases List.mem_cons.mp ha with rfl | ha
    · exact ⟨vs, e2⟩
    · exact Rows.there e4 a ha
theorem SatE.there {c : SE} {x : c.T} {v : Option V} {O : List Addr} (h : SatE K S H c x v O) : ∀ a ∈ O, ∃ o, H a = some o := by
  cases c with
  | un => cases h; simp
  | sh t => cases h.1; simp
  | o1 t =>
    obtain ⟨a, vs, h1, h2, h3, h4⟩ := h
    subst h1; simp; exact ⟨_, h3⟩
  | o2 t =>
    obtain ⟨a, bs, h1, h2, h3, h4⟩ := h
    subst h1
    intro b hb
    rcases List.mem_cons.mp hb with rfl | hb
    · exact ⟨_, h3⟩
    · obtain ⟨vs, q⟩ := Rows.there h4 b hb; exact ⟨_, q⟩
  | oi c fs =>
    obtain ⟨a, dx, gs, h1, h2, h3, h4⟩ := h
    subst h1; simp; exact ⟨_, h3⟩
  | oj =>
    obtain ⟨a, vs, h1, h2, h3, h4⟩ := h
    subst h1; simp; exact ⟨_, h3⟩
theorem SatL.there : ∀ {G : Ctx} {s : ST G} {σ : St} {O : List Addr}, SatL K S H G s σ O → ∀ a ∈ O, ∃ o, H a = some o
  | [], _, _, _, h, a, ha => by cases h; cases ha
  | (i, c) :: r, s, σ, O, h, a, ha => by
    obtain ⟨O1, O2, e1, e2, e3⟩ := h
    subst e1
    rcases List.mem_append.mp ha with ha | ha
    · exact e2.there a ha
    · exact SatL.there e3 a ha
/-- other slots -/
theorem SatL.slots : ∀ {G : Ctx} {s : ST G} {σ σ' : St} {O : List Addr}, SatL K S H G s σ O → (∀ i ∈ G.map (·.1), σ'[i]?.join = σ[i]?.join) → SatL K S H G s σ' O
  | [], _, _, _, _, h, _ => h
  | (i, c) :: r, s, σ, σ', O, h, k => by
    obtain ⟨O1, O2, e1, e2, e3⟩ := h
    exact ⟨O1, O2, e1, by rw [k i (by simp)]; exact e2, SatL.slots e3 fun j hj => k j (by simp at hj ⊢; exact .inr hj)⟩
end

/-! ### looking up a slot -/
@[reducible] def at_ (i : Nat) : Ctx → SE
  | [] => .un
  | (j, e) :: r => bif Nat.beq i j then e else at_ i r
def ST.get (i : Nat) : (G : Ctx) → ST G → (at_ i G).T
  | [], _ => ()
  | (j, e) :: r, s => by
    show (bif Nat.beq i j then e else at_ i r).T
    exact match Nat.beq i j with
      | true => s.1
      | false => ST.get i r s.2
@[reducible] def put (i : Nat) (e : SE) : Ctx → Ctx
  | [] => [(i, e)]
  | (j, f) :: r => bif Nat.beq i j then (i, e) :: r else (j, f) :: put i e r
def ST.put (i : Nat) (e : SE) (x : e.T) : (G : Ctx) → ST G → ST (Tp.put i e G)
  | [], _ => (x, ())
  | (j, f) :: r, s => by
    show ST (bif Nat.beq i j then (i, e) :: r else (j, f) :: Tp.put i e r)
    exact match Nat.beq i j with
      | true => (x, s.2)
      | false => (s.1, ST.put i e x r s.2)
@[reducible] def del (i : Nat) : Ctx → Ctx
  | [] => []
  | (j, f) :: r => bif Nat.beq i j then r else (j, f) :: del i r
def ST.del (i : Nat) : (G : Ctx) → ST G → ST (Tp.del i G)
  | [], _ => ()
  | (j, f) :: r, s => by
    show ST (bif Nat.beq i j then r else (j, f) :: Tp.del i r)
    exact match Nat.beq i j with
      | true => s.2
      | false => (s.1, ST.del i r s.2)
/-- two contexts behind one another -/
def ST.app : (G G' : Ctx) → ST G → ST G' → ST (G ++ G')
  | [], _, _, t => t
  | (_, _) :: r, G', s, t => (s.1, ST.app r G' s.2 t)
/-- some slots of a context -/
@[reducible] def sel (G : Ctx) : List Nat → Ctx
  | [] => []
  | i :: r => (i, at_ i G) :: sel G r
def ST.sel (G : Ctx) (s : ST G) : (l : List Nat) → ST (Tp.sel G l)
  | [] => ()
  | i :: r => (ST.get i G s, ST.sel G s r)
end Tp

set_option Elab.async false
set_option linter.all false
set_option maxRecDepth 100000
set_option maxHeartbeats 4000000
/-! Tp2: effects, states, judgements. -/
namespace Tp
open PySem PySem.Spec L2
open PyProof.Rows hiding St

/-! ### errors and effects -/
structure Er where
  c : Str
  fs : List (Str × PV)
inductive R (A : Type) where
  | ok (a : A)
  | er (x : Er)
  | bad
def R.bind {A B : Type} : R A → (A → R B) → R B
  | .ok a, f => f a
  | .er x, _ => .er x
  | .bad, _ => .bad
instance : Monad R where
  pure := .ok
  bind := R.bind
/-- with a pot of two numbers -/
def PM (A : Type) : Type := Int × Int → R A × (Int × Int)
def PM.bind {A B : Type} (m : PM A) (f : A → PM B) : PM B := fun w => match m w with
  | (.ok a, w') => f a w'
  | (.er x, w') => (.er x, w')
  | (.bad, w') => (.bad, w')
instance : Monad PM where
  pure a := fun w => (.ok a, w)
  bind := PM.bind
def PM.lift {A : Type} (m : R A) : PM A := fun w => (m, w)
/-- no error may leave here -/
def R.noer {A : Type} : R A → R A
  | .er _ => .bad
  | o => o
def PM.noer {A : Type} (m : PM A) : PM A := fun w => match m w with
  | (.er _, w') => (.bad, w')
  | o => o

class Eff (M : Type → Type) extends Monad M where
  W : Type
  fail : {A : Type} → Er → M A
  bad : {A : Type} → M A
  lift : {A : Type} → R A → M A
  run : {A : Type} → M A → W → R A × W
  ws : W → Option V → Hp → List Addr → Prop
  run_pure : ∀ {A : Type} (a : A) (w : W), run (pure a) w = (.ok a, w)
  run_bind : ∀ {A B : Type} (m : M A) (f : A → M B) (w : W), run (m >>= f) w = match run m w with
    | (.ok a, w') => run (f a) w'
    | (.er x, w') => (.er x, w')
    | (.bad, w') => (.bad, w')
  run_fail : ∀ {A : Type} (x : Er) (w : W), run (fail x : M A) w = (.er x, w)
  run_bad : ∀ {A : Type} (w : W), run (bad : M A) w = (.bad, w)
  run_lift : ∀ {A : Type} (m : R A) (w : W), run (lift m) w = (m, w)
  noer : {A : Type} → M A → M A
  run_noer : ∀ {A : Type} (m : M A) (w : W), run (noer m) w = match run m w with
    | (.er _, w') => (.bad, w')
    | o => o
  ws_there : ∀ {w : W} {v : Option V} {H : Hp} {O : List Addr}, ws w v H O → ∀ a ∈ O, ∃ o, H a = some o
  ws_mono : ∀ {w : W} {v : Option V} {H H' : Hp} {O : List Addr}, ws w v H O → (∀ a ∈ O, H' a = H a) → ws w v H' O

instance instEffR : Eff R where
  W := Unit
  fail := .er
  bad := .bad
  lift := id
  run m w := (m, w)
  ws _ _ _ O := O = []
  run_pure _ _ := rfl
  run_bind m f w := by cases m <;> rfl
  run_fail _ _ := rfl
  run_bad _ := rfl
  run_lift _ _ := rfl
  noer := R.noer
  run_noer m w := by cases m <;> rfl
  ws_there h a ha := by subst h; cases ha
  ws_mono h _ := h
instance instEffPM : Eff PM where
  W := Int × Int
  fail x := fun w => (.er x, w)
  bad := fun w => (.bad, w)
  lift := PM.lift
  run m w := m w
  ws w v H O := ∃ a, v = some (.ref a) ∧ O = [a] ∧ H a = some (.lst [.int w.1, .int w.2])
  run_pure _ _ := rfl
  run_bind m f w := by
    show PM.bind m f w = _
    unfold PM.bind
    cases m w with
    | mk a w' => cases a <;> rfl
  run_fail _ _ := rfl
  run_bad _ := rfl
  run_lift _ _ := rfl
  noer := PM.noer
  run_noer m w := by
    show PM.noer m w = _
    unfold PM.noer
    cases m w with
    | mk a w' => cases a <;> rfl
  ws_there h a ha := by obtain ⟨b, _, e, q⟩ := h; subst e; simp at ha; subst ha; exact ⟨_, q⟩
  ws_mono h k := by obtain ⟨b, e1, e, q⟩ := h; subst e; exact ⟨b, e1, rfl, (k b (by simp)).trans q⟩

/-! ### states -/
structure Sat (M : Type → Type) [Eff M] (K : PySem.W.Frag) (p : Nat) (G : Ctx) (s : ST G) (w : Eff.W M) (σ : St) (H S : Hp) (Ow O : List Addr) : Prop where
  sub : ∀ a o, S a = some o → H a = some o
  dis : ∀ a ∈ Ow ++ O, S a = none
  nd : (Ow ++ O).Nodup
  ws : Eff.ws w (σ[p]?.join) H Ow
  es : SatL K S H G s σ O
/-- a step of an expression: S grows, nothing that stood changes but the world's cells; O1: new cells of one's own -/
structure ESt (H S : Hp) (Ow O1 : List Addr) (H' S' : Hp) : Prop where
  ext : Ext S S'
  fr : ∀ a o, a ∉ Ow → H a = some o → H' a = some o
  th : ∀ a o, H a = some o → ∃ o', H' a = some o'
  new : ∀ a o, S' a = some o → S a = some o ∨ H a = none
  sub : ∀ a o, S' a = some o → H' a = some o
  o1 : ∀ a ∈ O1, H a = none ∧ S' a = none
  n1 : O1.Nodup
/-- a step of a statement: O the cells that may be changed, O' those behind it -/
structure SSt (H S : Hp) (Ow O O' : List Addr) (H' S' : Hp) : Prop where
  ext : Ext S S'
  fr : ∀ a o, a ∉ Ow → a ∉ O → H a = some o → H' a = some o
  th : ∀ a o, H a = some o → ∃ o', H' a = some o'
  new : ∀ a o, S' a = some o → S a = some o ∨ H a = none ∨ a ∈ O
  sub : ∀ a o, S' a = some o → H' a = some o
  o1 : ∀ a ∈ O', (H a = none ∨ a ∈ O) ∧ S' a = none
  n1 : O'.Nodup

theorem ESt.refl {H S : Hp} {Ow : List Addr} (sub : ∀ a o, S a = some o → H a = some o) : ESt H S Ow [] H S :=
  ⟨fun _ _ h => h, fun _ _ _ h => h, fun _ _ h => ⟨_, h⟩, fun _ _ h => .inl h, sub, fun _ h => (nomatch h), .nil⟩
theorem none_of_th {H H' : Hp} (th : ∀ a o, H a = some o → ∃ o', H' a = some o') {a : Addr} (h : H' a = none) : H a = none := by
  cases e : H a with
  | none => rfl
  | some o => obtain ⟨o', e'⟩ := th a o e; rw [h] at e'; cases e'
theorem ESt.trans {H S H1 S1 H2 S2 : Hp} {Ow O1 : List Addr} (a : ESt H S Ow [] H1 S1) (b : ESt H1 S1 Ow O1 H2 S2) : ESt H S Ow O1 H2 S2 where
  ext := a.ext.trans b.ext
  fr := fun x o h e => b.fr x o h (a.fr x o h e)
  th := fun x o e => let ⟨o', e'⟩ := a.th x o e; b.th x o' e'
  new := fun x o e => (b.new x o e).elim (fun h => a.new x o h) fun h => .inr (none_of_th a.th h)
  sub := b.sub
  o1 := fun x hx => ⟨none_of_th a.th (b.o1 x hx).1, (b.o1 x hx).2⟩
  n1 := b.n1
/-- two with cells of one's own each -/
theorem ESt.trans2 {H S H1 S1 H2 S2 : Hp} {Ow O1 O2 : List Addr} (a : ESt H S Ow O1 H1 S1) (b : ESt H1 S1 Ow O2 H2 S2) (th1 : ∀ a ∈ O1, ∃ o, H1 a = some o) : ESt H S Ow (O1 ++ O2) H2 S2 where
  ext := a.ext.trans b.ext
  fr := fun x o h e => b.fr x o h (a.fr x o h e)
  th := fun x o e => let ⟨o', e'⟩ := a.th x o e; b.th x o' e'
  new := fun x o e => (b.new x o e).elim (fun h => a.new x o h) fun h => .inr (none_of_th a.th h)
  sub := b.sub
  o1 := fun x hx => (List.mem_append.mp hx).elim (fun h => ⟨(a.o1 x h).1, by
    cases e : S2 x with
    | none => rfl
    | some o =>
      rcases b.new x o e with q | q
      · rw [(a.o1 x h).2] at q; cases q
      · obtain ⟨o', e'⟩ := th1 x h; rw [q] at e'; cases e'⟩) fun h => ⟨none_of_th a.th (b.o1 x h).1, (b.o1 x h).2⟩
  n1 := List.nodup_append.mpr ⟨a.n1, b.n1, fun x hx y hy e => by
    subst e
    obtain ⟨o', e'⟩ := th1 x hx
    rw [(b.o1 x hy).1] at e'; cases e'⟩
/-- the world's cells as they were -/
theorem ESt.wide {H S H' S' : Hp} {Ow O1 : List Addr} (a : ESt H S [] O1 H' S') : ESt H S Ow O1 H' S' :=
  ⟨a.ext, fun x o _ e => a.fr x o (by simp) e, a.th, a.new, a.sub, a.o1, a.n1⟩

section
variable {M : Type → Type} [Eff M] {K : PySem.W.Frag} {p : Nat} {G : Ctx} {s : ST G} {w w' : Eff.W M} {σ : St} {H S H' S' : Hp} {Ow O O1 : List Addr}
theorem Sat.there (x : Sat M K p G s w σ H S Ow O) : ∀ a ∈ Ow ++ O, ∃ o, H a = some o := fun a ha =>
  (List.mem_append.mp ha).elim (fun h => Eff.ws_there x.ws a h) fun h => x.es.there a h
theorem Sat.same (x : Sat M K p G s w σ H S Ow O) (st : ESt H S Ow O1 H' S') : ∀ a ∈ O, H' a = H a := fun a ha => by
  obtain ⟨o, e⟩ := x.es.there a ha
  rw [e]
  refine st.fr a o (fun h => ?_) e
  exact (List.nodup_append.mp x.nd).2.2 a h a ha rfl
theorem ESt.dis (x : Sat M K p G s w σ H S Ow O) (st : ESt H S Ow O1 H' S') : ∀ a ∈ Ow ++ O, S' a = none := fun a ha => by
  cases e : S' a with
  | none => rfl
  | some o =>
    rcases st.new a o e with q | q
    · rw [x.dis a ha] at q; cases q
    · obtain ⟨o', e'⟩ := x.there a ha; rw [q] at e'; cases e'
/-- the state behind an expression -/
theorem Sat.after (x : Sat M K p G s w σ H S Ow O) (st : ESt H S Ow O1 H' S') (hw : Eff.ws w' (σ[p]?.join) H' Ow) : Sat M K p G s w' σ H' S' Ow O :=
  ⟨st.sub, ESt.dis x st, x.nd, hw, x.es.mono st.ext (x.same st)⟩
end

/-! ### what stands beside: the top's facts, a def's own names -/
structure Wd where
  P : Program
  w : World
  K : PySem.W.Frag
  mg : Str → Option Value
  base : Heap
/-- a def (or a block in it): the top, its names, its scope, the room for calls, the slot of the pot -/
structure Cf where
  T : Wd
  N : List Str
  sc : Scope
  k : Nat
  p : Nat
  /-- the names whose cells are the code's own -/
  fb : Str → Bool := fun _ => true
structure XG (C : Cf) (X : Cx) : Prop where
  fn : ∀ x, C.fb x = true → X.fn x = true
  prog : X.prog = C.T.P
  w : X.w = C.T.w
  K : X.K = C.T.K
  mg : X.mg = C.T.mg
  base : X.base = C.T.base
  n : X.N = C.N
  sc : X.env.scope = C.sc
  calm : X.calm = true
  room : RG C.k X.A
  nd : C.N.Nodup

def ErrR (K : PySem.W.Frag) (S : Hp) (x : Er) (cls : Value) (d : Option Addr) : Prop :=
  cls = .ref (He.ga K x.c) ∧ (x.fs = [] ∨ ∃ dd gs, d = some dd ∧ S dd = some (.xd gs) ∧ RepF K S x.fs gs)

section
variable (M : Type → Type) [Eff M]
/-- what an expression's end gives -/
def PostE (K : PySem.W.Frag) (p : Nat) (σ : St) (H S : Hp) (Ow : List Addr) (r : SE) (Wx : Value → Option Addr → Hp → Prop) (Q : VK) : R r.T × Eff.W M → Prop
  | (.ok x, w') => ∀ v H' S' O1, ESt H S Ow O1 H' S' → Eff.ws (M := M) w' (σ[p]?.join) H' Ow → SatE K S' H' r x (some v) O1 → Q v H'
  | (.er x, w') => ∀ cls d H' S', ESt H S Ow [] H' S' → Eff.ws (M := M) w' (σ[p]?.join) H' Ow → ErrR K S' x cls d → Wx cls d H'
  | (.bad, _) => False
def tE (K : PySem.W.Frag) (p : Nat) (G : Ctx) (r : SE) (den : ST G → M r.T) (Wx : WX) : TE := fun σ H Q =>
  ∃ s w S Ow O, Sat M K p G s w σ H S Ow O ∧ PostE M K p σ H S Ow r (fun cls d H' => Wx cls d σ H') Q (Eff.run (den s) w)
structure EJ (C : Cf) (G : Ctx) (e : Expr) (r : SE) where
  den : ST G → M r.T
  ok : ∀ X Wx, XG C X → Takes X Wx → PE X e (tE M C.T.K C.p G r den Wx)
/-- total and pure -/
def tP (K : PySem.W.Frag) (p : Nat) (G : Ctx) (t : TY) (den : ST G → t.A) : TE := fun σ H Q =>
  ∃ s w S Ow O, Sat M K p G s w σ H S Ow O ∧ ∀ v H' S', ESt H S Ow [] H' S' → Eff.ws (M := M) w (σ[p]?.join) H' Ow → Rep K S' (t.enc (den s)) v → Q v H'
structure EP (C : Cf) (G : Ctx) (e : Expr) (t : TY) where
  den : ST G → t.A
  ok : ∀ X, XG C X → PE X e (tP M C.T.K C.p G t den)
/-- a total test -/
def tQ (K : PySem.W.Frag) (p : Nat) (G : Ctx) (den : ST G → Bool) : TT := fun σ H Q =>
  ∃ s w S Ow O, Sat M K p G s w σ H S Ow O ∧ ∀ H' S', ESt H S Ow [] H' S' → Eff.ws (M := M) w (σ[p]?.join) H' Ow → Q (den s) H'
structure TP (C : Cf) (G : Ctx) (e : Expr) where
  den : ST G → Bool
  ok : ∀ X, XG C X → PT X e (tQ M C.T.K C.p G den)
/-- a test -/
def PostT (K : PySem.W.Frag) (p : Nat) (σ : St) (H S : Hp) (Ow : List Addr) (Wx : Value → Option Addr → Hp → Prop) (Q : Bool → Hp → Prop) : R Bool × Eff.W M → Prop
  | (.ok x, w') => ∀ H' S', ESt H S Ow [] H' S' → Eff.ws (M := M) w' (σ[p]?.join) H' Ow → Q x H'
  | (.er x, w') => ∀ cls d H' S', ESt H S Ow [] H' S' → Eff.ws (M := M) w' (σ[p]?.join) H' Ow → ErrR K S' x cls d → Wx cls d H'
  | (.bad, _) => False
def tT (K : PySem.W.Frag) (p : Nat) (G : Ctx) (den : ST G → M Bool) (Wx : WX) : TT := fun σ H Q =>
  ∃ s w S Ow O, Sat M K p G s w σ H S Ow O ∧ PostT M K p σ H S Ow (fun cls d H' => Wx cls d σ H') Q (Eff.run (den s) w)
structure TJ (C : Cf) (G : Ctx) (e : Expr) where
  den : ST G → M Bool
  ok : ∀ X Wx, XG C X → Takes X Wx → PT X e (tT M C.T.K C.p G den Wx)
/-- arguments, from the i-th place of the callee on -/
def PostA (K : PySem.W.Frag) (p : Nat) (σ : St) (H S : Hp) (Ow : List Addr) (i : Nat) (G0 : Ctx) (n : Nat) (Wx : Value → Option Addr → Hp → Prop) (Q : List V → Hp → Prop) : R (ST G0) × Eff.W M → Prop
  | (.ok x, w') => ∀ vs H' S', ESt H S Ow [] H' S' → Eff.ws (M := M) w' (σ[p]?.join) H' Ow → vs.length = n → SatL K S' H' G0 x (List.replicate i none ++ vs.map some) [] → Q vs H'
  | (.er x, w') => ∀ cls d H' S', ESt H S Ow [] H' S' → Eff.ws (M := M) w' (σ[p]?.join) H' Ow → ErrR K S' x cls d → Wx cls d H'
  | (.bad, _) => False
def tAr (K : PySem.W.Frag) (p : Nat) (G : Ctx) (i : Nat) (G0 : Ctx) (n : Nat) (den : ST G → M (ST G0)) (Wx : WX) : TA := fun σ H Q =>
  ∃ s w S Ow O, Sat M K p G s w σ H S Ow O ∧ PostA M K p σ H S Ow i G0 n (fun cls d H' => Wx cls d σ H') Q (Eff.run (den s) w)
structure AJ (C : Cf) (G : Ctx) (i : Nat) (es : List Expr) (G0 : Ctx) where
  den : ST G → M (ST G0)
  ge : ∀ j ∈ G0.map (·.1), i ≤ j
  lt : ∀ j ∈ G0.map (·.1), j < i + es.length
  ok : ∀ X Wx, XG C X → Takes X Wx → PA X es (tAr M C.T.K C.p G i G0 es.length den Wx)
end

/-! ### statements -/
inductive FL (A B : Type) where
  | nx (a : A)
  | rt (b : B)
structure SG (C : Cf) (X : Cx) : Prop extends XG C X where
  stk : X.stack = X.env :: X.outer
  fm : X.env.frame = some X.env.locals
  po : PassesOwn (model X.prog X.w) X.A X.env X.xe

structure Sat2 (M : Type → Type) [Eff M] (K : PySem.W.Frag) (p n : Nat) (ro rw_ : Ctx) (c : ST ro) (m : ST rw_) (w : Eff.W M) (σ : St) (H S : Hp) (Ow Oc O : List Addr) : Prop where
  sub : ∀ a o, S a = some o → H a = some o
  dis : ∀ a ∈ Ow ++ (Oc ++ O), S a = none
  nd : (Ow ++ (Oc ++ O)).Nodup
  ws : Eff.ws w (σ[p]?.join) H Ow
  ec : SatL K S H ro c σ Oc
  es : SatL K S H rw_ m σ O
  len : σ.length = n
section
variable (M : Type → Type) [Eff M]
def PostS (K : PySem.W.Frag) (p : Nat) (ro : Ctx) (σ : St) (H S : Hp) (Ow O : List Addr) (rw' : Ctx) (r : SE) (Wx : WX) (D : Ends) : R (FL (ST rw') r.T) × Eff.W M → Prop
  | (.ok (.nx m), w') => ∀ σ' H' S' O', SSt H S Ow O O' H' S' → Eff.ws (M := M) w' (σ[p]?.join) H' Ow → SatL K S' H' rw' m σ' O' → (∀ i, i = p ∨ i ∈ ro.map (·.1) → σ'[i]? = σ[i]?) → σ'.length = σ.length → D.nx σ' H'
  | (.ok (.rt x), w') => ∀ v H' S' O1, SSt H S Ow O O1 H' S' → Eff.ws (M := M) w' (σ[p]?.join) H' Ow → SatE K S' H' r x (some v) O1 → D.rt v H'
  | (.er x, w') => ∀ cls d σ' H' S' O', SSt H S Ow O O' H' S' → Eff.ws (M := M) w' (σ[p]?.join) H' Ow → ErrR K S' x cls d → (∀ i, i = p ∨ i ∈ ro.map (·.1) → σ'[i]? = σ[i]?) → σ'.length = σ.length → Wx cls d σ' H'
  | (.bad, _) => False
end
/-- how a block may end: Z its outcomes, vw what they mean -/
structure OZ (rw' : Ctx) (r : SE) where
  Z : Type
  vw : Z → FL (ST rw') r.T
abbrev OZ.n (rw' : Ctx) (r : SE) : OZ rw' r := ⟨ST rw', .nx⟩
abbrev OZ.r (rw' : Ctx) (r : SE) : OZ rw' r := ⟨r.T, .rt⟩
abbrev OZ.b (rw' : Ctx) (r : SE) : OZ rw' r := ⟨FL (ST rw') r.T, id⟩
def R.map {A B : Type} (f : A → B) : R A → R B
  | .ok a => .ok (f a)
  | .er x => .er x
  | .bad => .bad
section
variable (M : Type → Type) [Eff M]
def tS (K : PySem.W.Frag) (p n : Nat) (ro rw_ rw' : Ctx) (r : SE) (o : OZ rw' r) (den : ST ro → ST rw_ → M o.Z) (Wx : WX) : TS := fun D σ H =>
  ∃ c m w S Ow Oc O, Sat2 M K p n ro rw_ c m w σ H S Ow Oc O ∧ PostS M K p ro σ H S Ow O rw' r Wx D (R.map o.vw (Eff.run (den c m) w).1, (Eff.run (den c m) w).2)
structure SJ (C : Cf) (ro rw_ : Ctx) (sts : List Stmt) {rw' : Ctx} {r : SE} (o : OZ rw' r) where
  den : ST ro → ST rw_ → M o.Z
  ok : ∀ X Wx, SG C X → Takes X Wx → PSs X sts (tS M C.T.K C.p C.N.length ro rw_ rw' r o den Wx)
end

/-! ### a def's promise -/
def spF (M : Type → Type) [Eff M] (K : PySem.W.Frag) (n : Nat) (p : Nat) (ro G0 : Ctx) (r : SE) (f : ST ro → ST G0 → M r.T) : Sp := fun vs H Q E =>
  vs.length = n ∧ ∃ c s w S Ow Oc, Sat2 M K p n ro G0 c s w (vs.map some) H S Ow Oc [] ∧ PostE M K p (vs.map some) H S Ow r E Q (Eff.run (f c s) w)
end Tp

set_option Elab.async false
set_option linter.all false
set_option maxRecDepth 100000
set_option maxHeartbeats 4000000
/-! Tp3: expressions. -/
namespace Tp
open PySem PySem.Spec L2
open PyProof.Rows hiding St

theorem PE.imp {X : Cx} {e : Expr} {t t' : TE} (h : PE X e t) (k : ∀ σ H Q, t' σ H Q → t σ H Q) : PE X e t' :=
  ⟨fun pins s σ H Q I q => h.run pins s σ H Q I (k σ H Q q)⟩
theorem PT.imp {X : Cx} {e : Expr} {t t' : TT} (h : PT X e t) (k : ∀ σ H Q, t' σ H Q → t σ H Q) : PT X e t' :=
  ⟨fun pins s σ H Q I q => h.run pins s σ H Q I (k σ H Q q)⟩
theorem PA.imp {X : Cx} {es : List Expr} {t t' : TA} (h : PA X es t) (k : ∀ σ H Q, t' σ H Q → t σ H Q) : PA X es t' :=
  ⟨fun pos pins s σ H Q I q => h.run pos pins s σ H Q I (k σ H Q q)⟩
theorem PS.imp {X : Cx} {st : Stmt} {t t' : TS} (h : PS X st t) (k : ∀ D σ H, t' D σ H → t D σ H) : PS X st t' :=
  ⟨fun pins s σ H D I q => h.run pins s σ H D I (k D σ H q)⟩
theorem PSs.imp {X : Cx} {st : List Stmt} {t t' : TS} (h : PSs X st t) (k : ∀ D σ H, t' D σ H → t D σ H) : PSs X st t' :=
  ⟨fun pins s σ H D I q => h.run pins s σ H D I (k D σ H q)⟩

section
variable {M : Type → Type} [Eff M] {K : PySem.W.Frag} {p : Nat} {G : Ctx} {r r2 : SE} {σ : St} {H S : Hp} {Ow O : List Addr} {Wx Wx' : Value → Option Addr → Hp → Prop} {Q Q' : VK}
theorem PostE.mono : ∀ {o : R r.T × Eff.W M}, PostE M K p σ H S Ow r Wx Q o → (∀ v H', Q v H' → Q' v H') → PostE M K p σ H S Ow r Wx Q' o
  | (.ok x, w'), h, k => fun v H' S' O1 a b c => k v H' (h v H' S' O1 a b c)
  | (.er x, w'), h, _ => h
  | (.bad, _), h, _ => h
theorem run_ok {A : Type} {m : M A} {w w' : Eff.W M} {a : A} {B : Type} (f : A → M B) (h : Eff.run m w = (.ok a, w')) : Eff.run (m >>= f) w = Eff.run (f a) w' := by
  rw [Eff.run_bind, h]
theorem run_er {A : Type} {m : M A} {w w' : Eff.W M} {a : Er} {B : Type} (f : A → M B) (h : Eff.run m w = (.er a, w')) : Eff.run (m >>= f) w = (.er a, w') := by
  rw [Eff.run_bind, h]
theorem run_bad' {A : Type} {m : M A} {w w' : Eff.W M} {B : Type} (f : A → M B) (h : Eff.run m w = (.bad, w')) : Eff.run (m >>= f) w = (.bad, w') := by
  rw [Eff.run_bind, h]
end

section
variable {M : Type → Type} [Eff M] {K : PySem.W.Frag} {p : Nat} {G : Ctx} {r r2 : SE} {s : ST G} {w : Eff.W M} {σ : St} {H S : Hp} {Ow O : List Addr} {Wx : WX} {Q : VK}
/-- an expression of a shared value, then what follows -/
theorem step_sh {t : TY} {r2 : SE} {da : ST G → M t.A} {f : t.A → M r2.T} {Wy : Value → Option Addr → Hp → Prop} (x : Sat M K p G s w σ H S Ow O)
    (h : PostE M K p σ H S Ow r2 Wy Q (Eff.run (da s >>= f) w)) (hW : ∀ cls d H', Wy cls d H' → Wx cls d σ H')
    (k : ∀ (a : t.A) (w' : Eff.W M) v H' S', ESt H S Ow [] H' S' → Sat M K p G s w' σ H' S' Ow O → Rep K S' (t.enc a) v → PostE M K p σ H' S' Ow r2 Wy Q (Eff.run (f a) w') → Q' v H') :
    tE M K p G (.sh t) da Wx σ H Q' := by
  refine ⟨s, w, S, Ow, O, x, ?_⟩
  cases e : Eff.run (da s) w with
  | mk o w' =>
    cases o with
    | ok a =>
      intro v H' S' O1 st hw se
      obtain ⟨e1, u, e2, rp⟩ := se
      cases e1; cases e2
      refine k a w' v H' S' st (x.after st hw) rp ?_
      rw [run_ok f e] at h
      cases e3 : Eff.run (f a) w' with
      | mk o2 w2 =>
        rw [e3] at h
        cases o2 with
        | ok b => exact fun v2 H2 S2 O2 st2 hw2 se2 => h v2 H2 S2 O2 (st.trans st2) hw2 se2
        | er b => exact fun cls d H2 S2 st2 hw2 er2 => h cls d H2 S2 (st.trans st2) hw2 er2
        | bad => exact h
    | er b =>
      rw [run_er f e] at h
      exact fun cls d H2 S2 st2 hw2 er2 => hW _ _ _ (h cls d H2 S2 st2 hw2 er2)
    | bad =>
      rw [run_bad' f e] at h
      exact h
/-- a total expression, then what follows -/
theorem step_p {t : TY} {da : ST G → t.A} {Q' : VK} (x : Sat M K p G s w σ H S Ow O)
    (k : ∀ v H' S', ESt H S Ow [] H' S' → Sat M K p G s w σ H' S' Ow O → Rep K S' (t.enc (da s)) v → Q' v H') : tP M K p G t da σ H Q' :=
  ⟨s, w, S, Ow, O, x, fun v H' S' st hw rp => k v H' S' st (x.after st hw) rp⟩
/-- what ends a total expression -/
theorem fin_p {t : TY} {x : t.A} {Q : VK} {v : V} (h : ∀ v H' S', ESt H S Ow [] H' S' → Eff.ws (M := M) w (σ[p]?.join) H' Ow → Rep K S' (t.enc x) v → Q v H') (y : Sat M K p G s w σ H S Ow O) (rp : Rep K S (t.enc x) v) : Q v H :=
  h v H S (ESt.refl y.sub) y.ws rp
end

/-! ### lookups -/
section
variable {K : PySem.W.Frag} {S H : Hp}
theorem SatL.get (i : Nat) : ∀ {G : Ctx} {s : ST G} {σ : St} {O : List Addr}, SatL K S H G s σ O → at_ i G ≠ .un → ∃ Oi, (∀ a ∈ Oi, a ∈ O) ∧ SatE K S H (at_ i G) (ST.get i G s) (σ[i]?.join) Oi
  | [], _, _, _, _, n => absurd rfl n
  | (j, e) :: r, s, σ, O, h, n => by
    obtain ⟨O1, O2, e1, e2, e3⟩ := h
    subst e1
    have key : ∀ b : Bool, Nat.beq i j = b → (bif b then e else at_ i r) ≠ .un → ∃ Oi, (∀ a ∈ Oi, a ∈ O1 ++ O2) ∧ SatE K S H (bif b then e else at_ i r) (match b with
      | true => s.1
      | false => ST.get i r s.2) (σ[i]?.join) Oi := fun b hb n => by
      cases b with
      | true =>
        have : i = j := Nat.eq_of_beq_eq_true hb
        subst this
        exact ⟨O1, fun a ha => by simp [ha], e2⟩
      | false =>
        obtain ⟨Oi, h1, h2⟩ := SatL.get i e3 n
        exact ⟨Oi, fun a ha => by simp [h1 a ha], h2⟩
    exact key _ rfl n
theorem satE_cast {e e' : SE} (h : e = e') {x : e.T} {v : Option V} {O : List Addr} (q : SatE K S H e x v O) : SatE K S H e' (cast (congrArg SE.T h) x) v O := by
  subst h
  exact q
end
theorem join_some {σ : St} {i : Nat} {v : V} (h : σ[i]?.join = some v) : σ[i]? = some (some v) := by
  cases e : σ[i]? with
  | none => rw [e] at h; cases h
  | some o => rw [e] at h; cases o with
    | none => cases h
    | some u => cases h; rfl

section
variable {M : Type → Type} [Eff M] {C : Cf} {G : Ctx}
theorem XG.vis {X : Cx} (g : XG C X) {x : Str} (h : Vis C.sc x) : Vis X.env.scope x := by rw [g.sc]; exact h
theorem XG.name {X : Cx} (g : XG C X) {i : Nat} {x : Str} (h : C.N[i]? = some x) : X.N[i]? = some x := by rw [g.n]; exact h

/-- a name that holds a shared value -/
def EP.var (i : Nat) {t : TY} {x : Str} {pos : Pos} (h : at_ i G = .sh t := by rfl) (hN : C.N[i]? = some x := by rfl) (hv : Vis C.sc x := by first | exact Or.inl rfl | exact Or.inr (Or.inl rfl) | exact Or.inr (Or.inr rfl))
    (hd : (x == ("__debug__" : Str)) = false := by first | decide | exact of_decide_eq_true rfl) (hcd : (x == ("__classdict__" : Str)) = false := by first | decide | exact of_decide_eq_true rfl) : EP M C G (.Name x pos) t where
  den s := cast (congrArg SE.T h) (ST.get i G s)
  ok X g := by
    refine PE.imp (pe_var (g.name hN) (g.vis hv) hd hcd) fun σ H Q q => ?_
    obtain ⟨s, w, S, Ow, O, x, k⟩ := q
    have hn : at_ i G ≠ .un := by rw [h]; exact fun z => by cases z
    obtain ⟨Oi, _, se⟩ := SatL.get i x.es hn
    have se2 := satE_cast h se
    obtain ⟨_, u, e2, rp⟩ := se2
    exact ⟨u, join_some e2, k u H S (ESt.refl x.sub) x.ws rp⟩
/-- total as any -/
def EP.toEJ {e : Expr} {t : TY} (a : EP M C G e t) : EJ M C G e (.sh t) where
  den s := pure (a.den s)
  ok X Wx g tk := by
    refine PE.imp (a.ok X g) fun σ H Q q => ?_
    obtain ⟨s, w, S, Ow, O, x, k⟩ := q
    rw [Eff.run_pure] at k
    exact ⟨s, w, S, Ow, O, x, fun v H' S' st hw rp => k v H' S' [] st hw ⟨rfl, v, rfl, rp⟩⟩
def EP.int {i : Int} {j : Nat} {pos : Pos} : EP M C G (.Constant (.int i) j pos) TY.int where
  den _ := i
  ok X g := PE.imp pe_int fun σ H Q q => by
    obtain ⟨s, w, S, Ow, O, x, k⟩ := q
    exact k _ _ S (ESt.refl x.sub) x.ws rfl
def EP.bl {b : Bool} {j : Nat} {pos : Pos} : EP M C G (.Constant (.bool b) j pos) TY.bool where
  den _ := b
  ok X g := PE.imp pe_bl fun σ H Q q => by
    obtain ⟨s, w, S, Ow, O, x, k⟩ := q
    exact k _ _ S (ESt.refl x.sub) x.ws rfl
def EP.non {j : Nat} {pos : Pos} : EP M C G (.Constant .none j pos) TY.non where
  den _ := ()
  ok X g := PE.imp pe_non fun σ H Q q => by
    obtain ⟨s, w, S, Ow, O, x, k⟩ := q
    exact k _ _ S (ESt.refl x.sub) x.ws rfl
def EP.str {x : Str} {j : Nat} {pos : Pos} : EP M C G (.Constant (.str x) j pos) TY.str where
  den _ := x
  ok X g := PE.imp pe_str fun σ H Q q => by
    obtain ⟨s, w, S, Ow, O, x, k⟩ := q
    exact k _ _ S (ESt.refl x.sub) x.ws rfl
/-- a number of the module's -/
def EP.gint {x : Str} {pos : Pos} (i : Int) (hm : ∃ tk, C.T.mg x = some (.int i tk)) (hg : C.sc.names.lookup x = some .globalImplicit := by rfl) (hd : (x == ("__debug__" : Str)) = false := by first | decide | exact of_decide_eq_true rfl) : EP M C G (.Name x pos) TY.int where
  den _ := i
  ok X g := by
    obtain ⟨tk, hm⟩ := hm
    refine PE.imp (pe_glob (v := .int i) (u := .int i tk) (show X.env.scope.names.lookup x = _ by rw [g.sc]; exact hg) (by rw [g.mg]; exact hm) ⟨tk, rfl⟩ hd) fun σ H Q q => ?_
    obtain ⟨s, w, S, Ow, O, x, k⟩ := q
    exact k _ _ S (ESt.refl x.sub) x.ws rfl
/-- the same value, said otherwise -/
def EP.as {e : Expr} {t t' : TY} (a : EP M C G e t) (f : t.A → t'.A) (h : ∀ x, t'.enc (f x) = t.enc x) : EP M C G e t' where
  den s := f (a.den s)
  ok X g := by
    refine PE.imp (a.ok X g) fun σ H Q q => ?_
    obtain ⟨s, w, S, Ow, O, x, k⟩ := q
    exact ⟨s, w, S, Ow, O, x, fun v H' S' st hw rp => k v H' S' st hw (by rw [h]; exact rp)⟩

/-! ### operators -/
/-- what an operator does with two represented values: total, no new object -/
def Op2 (C : Cf) (op : Operator) (a b c : TY) (f : a.A → b.A → c.A) : Prop := ∀ X, XG C X → OpR X (binaryOp op) fun x y H Q => ∃ i j S, (∀ a o, S a = some o → H a = some o) ∧ Rep C.T.K S (a.enc i) x ∧ Rep C.T.K S (b.enc j) y ∧
  ∀ v, (∀ S, Rep C.T.K S (c.enc (f i j)) v) → Q v H
def Cm2 (C : Cf) (op : CmpOp) (a b : TY) (f : a.A → b.A → Bool) : Prop := ∀ X, XG C X → OpR X (compareOp op) fun x y H Q => ∃ i j S, (∀ a o, S a = some o → H a = some o) ∧ Rep C.T.K S (a.enc i) x ∧ Rep C.T.K S (b.enc j) y ∧ Q (.bl (f i j)) H
theorem OpR.imp {X : Cx} {f : Value → Value → Sem Value} {r r' : R2} (h : OpR X f r) (k : ∀ x y H Q, r' x y H Q → r x y H Q) : OpR X f r' :=
  fun pins s σ H x y v u Q I rx ry q => h pins s σ H x y v u Q I rx ry (k x y H Q q)
theorem op2_add : Op2 C .Add TY.int TY.int TY.int (fun i j => i + j) := fun X g => OpR.imp op_add fun x y H Q q => by
  obtain ⟨i, j, S, _, rfl, rfl, k⟩ := q
  exact ⟨i, j, rfl, rfl, k _ fun _ => rfl⟩
theorem op2_sub : Op2 C .Sub TY.int TY.int TY.int (fun i j => i - j) := fun X g => OpR.imp op_sub fun x y H Q q => by
  obtain ⟨i, j, S, _, rfl, rfl, k⟩ := q
  exact ⟨i, j, rfl, rfl, k _ fun _ => rfl⟩
theorem cm2_lt : Cm2 C .Lt TY.int TY.int (fun i j => decide (i < j)) := fun X g => OpR.imp op_lt fun x y H Q q => by
  obtain ⟨i, j, S, _, rfl, rfl, k⟩ := q
  exact ⟨i, j, rfl, rfl, k⟩
theorem cm2_le : Cm2 C .LtE TY.int TY.int (fun i j => decide (i ≤ j)) := fun X g => OpR.imp op_le fun x y H Q q => by
  obtain ⟨i, j, S, _, rfl, rfl, k⟩ := q
  exact ⟨i, j, rfl, rfl, k⟩
theorem cm2_gt : Cm2 C .Gt TY.int TY.int (fun i j => decide (j < i)) := fun X g => OpR.imp op_gt fun x y H Q q => by
  obtain ⟨i, j, S, _, rfl, rfl, k⟩ := q
  exact ⟨i, j, rfl, rfl, k⟩
theorem cm2_ge : Cm2 C .GtE TY.int TY.int (fun i j => decide (j ≤ i)) := fun X g => OpR.imp op_ge fun x y H Q q => by
  obtain ⟨i, j, S, _, rfl, rfl, k⟩ := q
  exact ⟨i, j, rfl, rfl, k⟩
theorem dec_intI {i j : Int} : decide (V.int i = V.int j) = decide (i = j) := by
  by_cases h : i = j
  · subst h; simp
  · simp [h]
theorem cm2_eqI : Cm2 C .Eq TY.int TY.int (fun i j => decide (i = j)) := fun X g => OpR.imp op_eq fun x y H Q q => by
  obtain ⟨i, j, S, _, rfl, rfl, k⟩ := q
  exact ⟨rfl, by rw [dec_intI]; exact k⟩
theorem cm2_neI : Cm2 C .NotEq TY.int TY.int (fun i j => !decide (i = j)) := fun X g => OpR.imp op_ne fun x y H Q q => by
  obtain ⟨i, j, S, _, rfl, rfl, k⟩ := q
  exact ⟨rfl, by rw [dec_intI]; exact k⟩


def EP.bin {a b c : TY} {f : a.A → b.A → c.A} {op : Operator} {e1 e2 : Expr} {pos : Pos} (o : Op2 C op a b c f) (x : EP M C G e1 a) (y : EP M C G e2 b) : EP M C G (.BinOp e1 op e2 pos) c where
  den s := f (x.den s) (y.den s)
  ok X g := by
    refine PE.imp (pe_op (o X g) (x.ok X g) (y.ok X g)) fun σ H Q q => ?_
    obtain ⟨s, w, S, Ow, O, sat, k⟩ := q
    refine step_p sat fun v1 H1 S1 st1 sat1 rp1 => ?_
    refine step_p sat1 fun v2 H2 S2 st2 sat2 rp2 => ?_
    exact ⟨x.den s, y.den s, S2, sat2.sub, rp1.mono st2.ext, rp2, fun v rv => k v H2 S2 (st1.trans st2) sat2.ws (rv S2)⟩
def EP.cmp {a b : TY} {f : a.A → b.A → Bool} {op : CmpOp} {e1 e2 : Expr} {pos : Pos} (o : Cm2 C op a b f) (x : EP M C G e1 a) (y : EP M C G e2 b) (hm : behindInMarks op e2 = false := by first | exact nomark _ | rfl) : EP M C G (.Compare e1 [op] [e2] pos) TY.bool where
  den s := f (x.den s) (y.den s)
  ok X g := by
    refine PE.imp (pe_cmpR (o X g) (x.ok X g) (y.ok X g) hm) fun σ H Q q => ?_
    obtain ⟨s, w, S, Ow, O, sat, k⟩ := q
    refine step_p sat fun v1 H1 S1 st1 sat1 rp1 => ?_
    refine step_p sat1 fun v2 H2 S2 st2 sat2 rp2 => ?_
    exact ⟨x.den s, y.den s, S2, sat2.sub, rp1.mono st2.ext, rp2, k _ H2 S2 (st1.trans st2) sat2.ws rfl⟩
end
end Tp

set_option Elab.async false
set_option linter.all false
set_option maxRecDepth 100000
set_option maxHeartbeats 4000000
/-! Tp4: tests, choices, displays. -/
namespace Tp
open PySem PySem.Spec L2
open PyProof.Rows hiding St

section
variable {M : Type → Type} [Eff M] {K : PySem.W.Frag} {p : Nat} {G : Ctx} {r r2 : SE} {s : ST G} {w : Eff.W M} {σ : St} {H S : Hp} {Ow O : List Addr} {Wx : WX} {Q : VK}
theorem PostE.pre {H1 S1 : Hp} {Wy : Value → Option Addr → Hp → Prop} (st : ESt H S Ow [] H1 S1) : ∀ {o : R r.T × Eff.W M}, PostE M K p σ H S Ow r Wy Q o → PostE M K p σ H1 S1 Ow r Wy Q o
  | (.ok x, w'), h => fun v H' S' O1 a b c => h v H' S' O1 (st.trans a) b c
  | (.er x, w'), h => fun cls d H' S' a b c => h cls d H' S' (st.trans a) b c
  | (.bad, _), h => h
theorem PostT.pre {H1 S1 : Hp} {Wy : Value → Option Addr → Hp → Prop} {Q : Bool → Hp → Prop} (st : ESt H S Ow [] H1 S1) : ∀ {o : R Bool × Eff.W M}, PostT M K p σ H S Ow Wy Q o → PostT M K p σ H1 S1 Ow Wy Q o
  | (.ok x, w'), h => fun H' S' a b => h H' S' (st.trans a) b
  | (.er x, w'), h => fun cls d H' S' a b c => h cls d H' S' (st.trans a) b c
  | (.bad, _), h => h
theorem PostA.pre {H1 S1 : Hp} {Wy : Value → Option Addr → Hp → Prop} {i n : Nat} {G0 : Ctx} {Q : List V → Hp → Prop} (st : ESt H S Ow [] H1 S1) : ∀ {o : R (ST G0) × Eff.W M}, PostA M K p σ H S Ow i G0 n Wy Q o → PostA M K p σ H1 S1 Ow i G0 n Wy Q o
  | (.ok x, w'), h => fun v H' S' a b c d => h v H' S' (st.trans a) b c d
  | (.er x, w'), h => fun cls d H' S' a b c => h cls d H' S' (st.trans a) b c
  | (.bad, _), h => h
/-- a shared expression, then anything: the rule by outcomes. Z is what is asked of the whole's outcome -/
theorem step_gen {t : TY} {B : Type} {da : ST G → M t.A} {f : t.A → M B} {Q' : VK} (Z : Hp → Hp → R B × Eff.W M → Prop) (x : Sat M K p G s w σ H S Ow O) (h : Z H S (Eff.run (da s >>= f) w))
    (hpre : ∀ H1 S1 o, ESt H S Ow [] H1 S1 → Z H S o → Z H1 S1 o)
    (her : ∀ b w', Z H S (.er b, w') → ∀ cls d H' S', ESt H S Ow [] H' S' → Eff.ws (M := M) w' (σ[p]?.join) H' Ow → ErrR K S' b cls d → Wx cls d σ H')
    (hbad : ∀ w', Z H S (.bad, w') → False)
    (k : ∀ (a : t.A) (w' : Eff.W M) v H' S', Eff.run (da s) w = (.ok a, w') → ESt H S Ow [] H' S' → Sat M K p G s w' σ H' S' Ow O → Rep K S' (t.enc a) v → Z H' S' (Eff.run (f a) w') → Q' v H') :
    tE M K p G (.sh t) da Wx σ H Q' := by
  refine ⟨s, w, S, Ow, O, x, ?_⟩
  cases e : Eff.run (da s) w with
  | mk o w' =>
    cases o with
    | ok a =>
      intro v H' S' O1 st hw se
      obtain ⟨e1, u, e2, rp⟩ := se
      cases e1; cases e2
      refine k a w' v H' S' e st (x.after st hw) rp ?_
      rw [run_ok f e] at h
      exact hpre _ _ _ st h
    | er b =>
      rw [run_er f e] at h
      exact fun cls d H2 S2 st2 hw2 er2 => her b w' h cls d H2 S2 st2 hw2 er2
    | bad =>
      rw [run_bad' f e] at h
      exact hbad _ h
/-- .. where the whole is an expression -/
theorem step_E {t : TY} {r2 : SE} {da : ST G → M t.A} {f : t.A → M r2.T} {Q' Q : VK} (x : Sat M K p G s w σ H S Ow O) (h : PostE M K p σ H S Ow r2 (fun cls d H' => Wx cls d σ H') Q (Eff.run (da s >>= f) w))
    (k : ∀ (a : t.A) (w' : Eff.W M) v H' S', ESt H S Ow [] H' S' → Sat M K p G s w' σ H' S' Ow O → Rep K S' (t.enc a) v → PostE M K p σ H' S' Ow r2 (fun cls d H' => Wx cls d σ H') Q (Eff.run (f a) w') → Q' v H') :
    tE M K p G (.sh t) da Wx σ H Q' :=
  step_gen (fun H S o => PostE M K p σ H S Ow r2 (fun cls d H' => Wx cls d σ H') Q o) x h (fun _ _ _ st z => z.pre st) (fun b w' z => z) (fun _ z => z) fun a w' v H' S' _ => k a w' v H' S'
/-- a test, then anything -/
theorem step_T {B : Type} {da : ST G → M Bool} {f : Bool → M B} {Q' : Bool → Hp → Prop} (Z : Hp → Hp → R B × Eff.W M → Prop) (x : Sat M K p G s w σ H S Ow O) (h : Z H S (Eff.run (da s >>= f) w))
    (hpre : ∀ H1 S1 o, ESt H S Ow [] H1 S1 → Z H S o → Z H1 S1 o)
    (her : ∀ b w', Z H S (.er b, w') → ∀ cls d H' S', ESt H S Ow [] H' S' → Eff.ws (M := M) w' (σ[p]?.join) H' Ow → ErrR K S' b cls d → Wx cls d σ H')
    (hbad : ∀ w', Z H S (.bad, w') → False)
    (k : ∀ (a : Bool) (w' : Eff.W M) H' S', ESt H S Ow [] H' S' → Sat M K p G s w' σ H' S' Ow O → Z H' S' (Eff.run (f a) w') → Q' a H') :
    tT M K p G da Wx σ H Q' := by
  refine ⟨s, w, S, Ow, O, x, ?_⟩
  cases e : Eff.run (da s) w with
  | mk o w' =>
    cases o with
    | ok a =>
      intro H' S' st hw
      refine k a w' H' S' st (x.after st hw) ?_
      rw [run_ok f e] at h
      exact hpre _ _ _ st h
    | er b =>
      rw [run_er f e] at h
      exact fun cls d H2 S2 st2 hw2 er2 => her b w' h cls d H2 S2 st2 hw2 er2
    | bad =>
      rw [run_bad' f e] at h
      exact hbad _ h
theorem step_q {da : ST G → Bool} {Q' : Bool → Hp → Prop} (x : Sat M K p G s w σ H S Ow O)
    (k : ∀ H' S', ESt H S Ow [] H' S' → Sat M K p G s w σ H' S' Ow O → Q' (da s) H') : tQ M K p G da σ H Q' :=
  ⟨s, w, S, Ow, O, x, fun H' S' st hw => k H' S' st (x.after st hw)⟩
end

section
variable {M : Type → Type} [Eff M] {C : Cf} {G : Ctx}
abbrev Plain (e : Expr) : Prop := ∀ (env : Env) (whole : Sem Value), isTrue e env whole = (do let v ← whole; standAt e.pos; holding [v] (truthy v))
/-! ### tests -/
def EP.toT {e : Expr} (a : EP M C G e TY.bool) (he : Plain e := by intro _ _; rfl) : TP M C G e where
  den := a.den
  ok X g := by
    refine PT.imp (pt_val (a.ok X g) (he X.env)) fun σ H Q q => ?_
    obtain ⟨s, w, S, Ow, O, x, k⟩ := q
    exact ⟨s, w, S, Ow, O, x, fun v H' S' st hw rp => ⟨a.den s, rp, k H' S' st hw⟩⟩
def EJ.toT {e : Expr} (a : EJ M C G e (.sh TY.bool)) (he : Plain e := by intro _ _; rfl) : TJ M C G e where
  den := a.den
  ok X Wx g tk := by
    refine PT.imp (pt_val (a.ok X Wx g tk) (he X.env)) fun σ H Q q => ?_
    obtain ⟨s, w, S, Ow, O, x, k⟩ := q
    refine ⟨s, w, S, Ow, O, x, ?_⟩
    cases e : Eff.run (a.den s) w with
    | mk o w' =>
      rw [e] at k
      cases o with
      | ok b =>
        intro v H' S' O1 st hw se
        obtain ⟨e1, u, e2, rp⟩ := se
        cases e1; cases e2
        exact ⟨b, rp, k H' S' st hw⟩
      | er b => exact k
      | bad => exact k
def TP.toJ {e : Expr} (a : TP M C G e) : TJ M C G e where
  den s := pure (a.den s)
  ok X Wx g tk := by
    refine PT.imp (a.ok X g) fun σ H Q q => ?_
    obtain ⟨s, w, S, Ow, O, x, k⟩ := q
    rw [Eff.run_pure] at k
    exact ⟨s, w, S, Ow, O, x, k⟩
def TP.cmp {a b : TY} {f : a.A → b.A → Bool} {op : CmpOp} {e1 e2 : Expr} {pos : Pos} (o : Cm2 C op a b f) (x : EP M C G e1 a) (y : EP M C G e2 b) (hm : behindInMarks op e2 = false := by first | exact nomark _ | rfl) : TP M C G (.Compare e1 [op] [e2] pos) where
  den s := f (x.den s) (y.den s)
  ok X g := by
    refine PT.imp (pt_cmpR (o X g) (x.ok X g) (y.ok X g) hm) fun σ H Q q => ?_
    obtain ⟨s, w, S, Ow, O, sat, k⟩ := q
    refine step_p sat fun v1 H1 S1 st1 sat1 rp1 => ?_
    refine step_p sat1 fun v2 H2 S2 st2 sat2 rp2 => ?_
    exact ⟨x.den s, y.den s, S2, sat2.sub, rp1.mono st2.ext, rp2, _, rfl, k H2 S2 (st1.trans st2) sat2.ws⟩
def TJ.cmp {a b : TY} {f : a.A → b.A → Bool} {op : CmpOp} {e1 e2 : Expr} {pos : Pos} (o : Cm2 C op a b f) (x : EJ M C G e1 (.sh a)) (y : EJ M C G e2 (.sh b)) (hm : behindInMarks op e2 = false := by first | exact nomark _ | rfl) : TJ M C G (.Compare e1 [op] [e2] pos) where
  den s := x.den s >>= fun i => y.den s >>= fun j => pure (f i j)
  ok X Wx g tk := by
    refine PT.imp (pt_cmpR (o X g) (x.ok X Wx g tk) (y.ok X Wx g tk) hm) fun σ H Q q => ?_
    obtain ⟨s, w, S, Ow, O, sat, k⟩ := q
    refine step_gen (fun H S o => PostT M C.T.K C.p σ H S Ow (fun cls d H' => Wx cls d σ H') Q o) sat k (fun _ _ _ st z => z.pre st) (fun b w' z => z) (fun _ z => z) fun i w1 v1 H1 S1 _ st1 sat1 rp1 k1 => ?_
    refine step_gen (fun H S o => PostT M C.T.K C.p σ H S Ow (fun cls d H' => Wx cls d σ H') Q o) sat1 k1 (fun _ _ _ st z => z.pre st) (fun b w' z => z) (fun _ z => z) fun j w2 v2 H2 S2 _ st2 sat2 rp2 k2 => ?_
    rw [Eff.run_pure] at k2
    exact ⟨i, j, S2, sat2.sub, rp1.mono st2.ext, rp2, _, rfl, k2 H2 S2 (ESt.refl sat2.sub) sat2.ws⟩
def TP.not {e : Expr} {pos : Pos} (a : TP M C G e) : TP M C G (.UnaryOp .Not e pos) where
  den s := !a.den s
  ok X g := by
    refine PT.imp (pt_not (a.ok X g)) fun σ H Q q => ?_
    obtain ⟨s, w, S, Ow, O, x, k⟩ := q
    exact ⟨s, w, S, Ow, O, x, fun H' S' st hw => k H' S' st hw⟩
def TJ.not {e : Expr} {pos : Pos} (a : TJ M C G e) : TJ M C G (.UnaryOp .Not e pos) where
  den s := a.den s >>= fun b => pure (!b)
  ok X Wx g tk := by
    refine PT.imp (pt_not (a.ok X Wx g tk)) fun σ H Q q => ?_
    obtain ⟨s, w, S, Ow, O, x, k⟩ := q
    refine step_T (fun H S o => PostT M C.T.K C.p σ H S Ow (fun cls d H' => Wx cls d σ H') Q o) x k (fun _ _ _ st z => z.pre st) (fun b w' z => z) (fun _ z => z) fun b w1 H1 S1 st1 sat1 k1 => ?_
    rw [Eff.run_pure] at k1
    exact k1 H1 S1 (ESt.refl sat1.sub) sat1.ws
/-- and, or as tests -/
structure WP (M : Type → Type) [Eff M] (C : Cf) (G : Ctx) (e : Expr) where
  den : ST G → Bool
  ok : ∀ X, XG C X → PW X e (tQ M C.T.K C.p G den)
structure WJ (M : Type → Type) [Eff M] (C : Cf) (G : Ctx) (e : Expr) where
  den : ST G → M Bool
  ok : ∀ X Wx, XG C X → Takes X Wx → PW X e (tT M C.T.K C.p G den Wx)
theorem PW.imp {X : Cx} {e : Expr} {t t' : TT} (h : PW X e t) (k : ∀ σ H Q, t' σ H Q → t σ H Q) : PW X e t' :=
  ⟨fun wh pins s σ H Q I q => h.run wh pins s σ H Q I (k σ H Q q)⟩
def WP.T {e : Expr} (a : WP M C G e) : TP M C G e := ⟨a.den, fun X g => (a.ok X g).pt⟩
def WJ.T {e : Expr} (a : WJ M C G e) : TJ M C G e := ⟨a.den, fun X Wx g tk => (a.ok X Wx g tk).pt⟩
def WP.and1 {e : Expr} {pos : Pos} (a : TP M C G e) : WP M C G (.BoolOp .And [e] pos) := ⟨a.den, fun X g => pw_and1 (a.ok X g)⟩
def WP.or1 {e : Expr} {pos : Pos} (a : TP M C G e) : WP M C G (.BoolOp .Or [e] pos) := ⟨a.den, fun X g => pw_or1 (a.ok X g)⟩
def WJ.and1 {e : Expr} {pos : Pos} (a : TJ M C G e) : WJ M C G (.BoolOp .And [e] pos) := ⟨a.den, fun X Wx g tk => pw_and1 (a.ok X Wx g tk)⟩
def WJ.or1 {e : Expr} {pos : Pos} (a : TJ M C G e) : WJ M C G (.BoolOp .Or [e] pos) := ⟨a.den, fun X Wx g tk => pw_or1 (a.ok X Wx g tk)⟩
def WP.and {e f : Expr} {es : List Expr} {pos : Pos} (a : TP M C G e) (b : WP M C G (.BoolOp .And (f :: es) pos)) : WP M C G (.BoolOp .And (e :: f :: es) pos) where
  den s := a.den s && b.den s
  ok X g := by
    refine PW.imp (pw_and (a.ok X g) (b.ok X g)) fun σ H Q q => ?_
    obtain ⟨s, w, S, Ow, O, x, k⟩ := q
    dsimp only at k
    refine step_q x fun H1 S1 st1 sat1 => ?_
    show if a.den s = true then _ else _
    cases e : a.den s with
    | true =>
      rw [if_pos rfl]
      exact step_q sat1 fun H2 S2 st2 sat2 => by
        have := k H2 S2 (st1.trans st2) sat2.ws
        rwa [e, Bool.true_and] at this
    | false =>
      rw [if_neg Bool.false_ne_true]
      have := k H1 S1 st1 sat1.ws
      rwa [e, Bool.false_and] at this
def WP.or {e f : Expr} {es : List Expr} {pos : Pos} (a : TP M C G e) (b : WP M C G (.BoolOp .Or (f :: es) pos)) : WP M C G (.BoolOp .Or (e :: f :: es) pos) where
  den s := a.den s || b.den s
  ok X g := by
    refine PW.imp (pw_or (a.ok X g) (b.ok X g)) fun σ H Q q => ?_
    obtain ⟨s, w, S, Ow, O, x, k⟩ := q
    dsimp only at k
    refine step_q x fun H1 S1 st1 sat1 => ?_
    show if a.den s = true then _ else _
    cases e : a.den s with
    | true =>
      rw [if_pos rfl]
      have := k H1 S1 st1 sat1.ws
      rwa [e, Bool.true_or] at this
    | false =>
      rw [if_neg Bool.false_ne_true]
      exact step_q sat1 fun H2 S2 st2 sat2 => by
        have := k H2 S2 (st1.trans st2) sat2.ws
        rwa [e, Bool.false_or] at this
def WJ.and {e f : Expr} {es : List Expr} {pos : Pos} (a : TJ M C G e) (b : WJ M C G (.BoolOp .And (f :: es) pos)) : WJ M C G (.BoolOp .And (e :: f :: es) pos) where
  den s := a.den s >>= fun c => if c then b.den s else pure false
  ok X Wx g tk := by
    refine PW.imp (pw_and (a.ok X Wx g tk) (b.ok X Wx g tk)) fun σ H Q q => ?_
    obtain ⟨s, w, S, Ow, O, x, k⟩ := q
    refine step_T (fun H S o => PostT M C.T.K C.p σ H S Ow (fun cls d H' => Wx cls d σ H') Q o) x k (fun _ _ _ st z => z.pre st) (fun b w' z => z) (fun _ z => z) fun c w1 H1 S1 st1 sat1 k1 => ?_
    show if c = true then _ else _
    cases c with
    | true => exact ⟨s, w1, S1, Ow, O, sat1, k1⟩
    | false =>
      have k2 : PostT M C.T.K C.p σ H1 S1 Ow (fun cls d H' => Wx cls d σ H') Q (Eff.run (pure false) w1) := k1
      rw [Eff.run_pure] at k2
      exact k2 H1 S1 (ESt.refl sat1.sub) sat1.ws
def WJ.or {e f : Expr} {es : List Expr} {pos : Pos} (a : TJ M C G e) (b : WJ M C G (.BoolOp .Or (f :: es) pos)) : WJ M C G (.BoolOp .Or (e :: f :: es) pos) where
  den s := a.den s >>= fun c => if c then pure true else b.den s
  ok X Wx g tk := by
    refine PW.imp (pw_or (a.ok X Wx g tk) (b.ok X Wx g tk)) fun σ H Q q => ?_
    obtain ⟨s, w, S, Ow, O, x, k⟩ := q
    refine step_T (fun H S o => PostT M C.T.K C.p σ H S Ow (fun cls d H' => Wx cls d σ H') Q o) x k (fun _ _ _ st z => z.pre st) (fun b w' z => z) (fun _ z => z) fun c w1 H1 S1 st1 sat1 k1 => ?_
    show if c = true then _ else _
    cases c with
    | false => exact ⟨s, w1, S1, Ow, O, sat1, k1⟩
    | true =>
      have k2 : PostT M C.T.K C.p σ H1 S1 Ow (fun cls d H' => Wx cls d σ H') Q (Eff.run (pure true) w1) := k1
      rw [Eff.run_pure] at k2
      exact k2 H1 S1 (ESt.refl sat1.sub) sat1.ws

/-! ### and, or, not as values (bools) -/
def EP.not {e : Expr} {pos : Pos} (a : EP M C G e TY.bool) : EP M C G (.UnaryOp .Not e pos) TY.bool where
  den s := !a.den s
  ok X g := by
    refine PE.imp (pe_not (a.ok X g)) fun σ H Q q => ?_
    obtain ⟨s, w, S, Ow, O, x, k⟩ := q
    exact step_p x fun v H1 S1 st1 sat1 rp => ⟨a.den s, rp, k _ H1 S1 st1 sat1.ws rfl⟩
def EJ.not {e : Expr} {pos : Pos} (a : EJ M C G e (.sh TY.bool)) : EJ M C G (.UnaryOp .Not e pos) (.sh TY.bool) where
  den s := a.den s >>= fun b => pure (!b)
  ok X Wx g tk := by
    refine PE.imp (pe_not (a.ok X Wx g tk)) fun σ H Q q => ?_
    obtain ⟨s, w, S, Ow, O, x, k⟩ := q
    refine step_E x k fun b w1 v H1 S1 st1 sat1 rp k1 => ?_
    rw [Eff.run_pure] at k1
    exact ⟨b, rp, k1 _ H1 S1 [] (ESt.refl sat1.sub) sat1.ws ⟨rfl, _, rfl, rfl⟩⟩
def EP.one {op : BoolOp} {e : Expr} {pos : Pos} {t : TY} (a : EP M C G e t) : EP M C G (.BoolOp op [e] pos) t := ⟨a.den, fun X g => pe_one (a.ok X g)⟩
def EJ.one {op : BoolOp} {e : Expr} {pos : Pos} {r : SE} (a : EJ M C G e r) : EJ M C G (.BoolOp op [e] pos) r := ⟨a.den, fun X Wx g tk => pe_one (a.ok X Wx g tk)⟩
def EP.and {e f : Expr} {es : List Expr} {pos : Pos} (a : EP M C G e TY.bool) (b : EP M C G (.BoolOp .And (f :: es) pos) TY.bool) : EP M C G (.BoolOp .And (e :: f :: es) pos) TY.bool where
  den s := a.den s && b.den s
  ok X g := by
    refine PE.imp (pe_and (a.ok X g) (b.ok X g)) fun σ H Q q => ?_
    obtain ⟨s, w, S, Ow, O, x, k⟩ := q
    dsimp only at k
    refine step_p x fun v H1 S1 st1 sat1 rp => ⟨a.den s, rp, ?_⟩
    cases e : a.den s with
    | true =>
      rw [if_pos rfl]
      exact step_p sat1 fun v2 H2 S2 st2 sat2 rp2 => k _ H2 S2 (st1.trans st2) sat2.ws (by rw [e, Bool.true_and]; exact rp2)
    | false =>
      rw [if_neg Bool.false_ne_true]
      exact k _ H1 S1 st1 sat1.ws (by rw [e, Bool.false_and]; rfl)
def EP.or {e f : Expr} {es : List Expr} {pos : Pos} (a : EP M C G e TY.bool) (b : EP M C G (.BoolOp .Or (f :: es) pos) TY.bool) : EP M C G (.BoolOp .Or (e :: f :: es) pos) TY.bool where
  den s := a.den s || b.den s
  ok X g := by
    refine PE.imp (pe_or (a.ok X g) (b.ok X g)) fun σ H Q q => ?_
    obtain ⟨s, w, S, Ow, O, x, k⟩ := q
    dsimp only at k
    refine step_p x fun v H1 S1 st1 sat1 rp => ⟨a.den s, rp, ?_⟩
    cases e : a.den s with
    | true =>
      rw [if_pos rfl]
      exact k _ H1 S1 st1 sat1.ws (by rw [e, Bool.true_or]; rfl)
    | false =>
      rw [if_neg Bool.false_ne_true]
      exact step_p sat1 fun v2 H2 S2 st2 sat2 rp2 => k _ H2 S2 (st1.trans st2) sat2.ws (by rw [e, Bool.false_or]; exact rp2)
def EJ.and {e f : Expr} {es : List Expr} {pos : Pos} (a : EJ M C G e (.sh TY.bool)) (b : EJ M C G (.BoolOp .And (f :: es) pos) (.sh TY.bool)) : EJ M C G (.BoolOp .And (e :: f :: es) pos) (.sh TY.bool) where
  den s := a.den s >>= fun c => if c = true then b.den s else pure false
  ok X Wx g tk := by
    refine PE.imp (pe_and (a.ok X Wx g tk) (b.ok X Wx g tk)) fun σ H Q q => ?_
    obtain ⟨s, w, S, Ow, O, x, k⟩ := q
    refine step_E x k fun c w1 v H1 S1 st1 sat1 rp k1 => ⟨c, rp, ?_⟩
    cases c with
    | true => exact ⟨s, w1, S1, Ow, O, sat1, k1⟩
    | false =>
      have k2 : PostE M C.T.K C.p σ H1 S1 Ow (.sh TY.bool) (fun cls d H' => Wx cls d σ H') Q (Eff.run (pure false) w1) := k1
      rw [Eff.run_pure] at k2
      exact k2 _ H1 S1 [] (ESt.refl sat1.sub) sat1.ws ⟨rfl, _, rfl, rfl⟩
def EJ.or {e f : Expr} {es : List Expr} {pos : Pos} (a : EJ M C G e (.sh TY.bool)) (b : EJ M C G (.BoolOp .Or (f :: es) pos) (.sh TY.bool)) : EJ M C G (.BoolOp .Or (e :: f :: es) pos) (.sh TY.bool) where
  den s := a.den s >>= fun c => if c = true then pure true else b.den s
  ok X Wx g tk := by
    refine PE.imp (pe_or (a.ok X Wx g tk) (b.ok X Wx g tk)) fun σ H Q q => ?_
    obtain ⟨s, w, S, Ow, O, x, k⟩ := q
    refine step_E x k fun c w1 v H1 S1 st1 sat1 rp k1 => ⟨c, rp, ?_⟩
    cases c with
    | false => exact ⟨s, w1, S1, Ow, O, sat1, k1⟩
    | true =>
      have k2 : PostE M C.T.K C.p σ H1 S1 Ow (.sh TY.bool) (fun cls d H' => Wx cls d σ H') Q (Eff.run (pure true) w1) := k1
      rw [Eff.run_pure] at k2
      exact k2 _ H1 S1 [] (ESt.refl sat1.sub) sat1.ws ⟨rfl, _, rfl, rfl⟩
/-! ### a if c else b -/
def EP.ite {c a b : Expr} {pos : Pos} {t : TY} (tc : TP M C G c) (x : EP M C G a t) (y : EP M C G b t) : EP M C G (.IfExp c a b pos) t where
  den s := if tc.den s = true then x.den s else y.den s
  ok X g := by
    refine PE.imp (pe_ifExp (tc.ok X g) (x.ok X g) (y.ok X g)) fun σ H Q q => ?_
    obtain ⟨s, w, S, Ow, O, sat, k⟩ := q
    dsimp only at k
    refine step_q sat fun H1 S1 st1 sat1 => ?_
    by_cases e : tc.den s = true
    · rw [if_pos e]
      exact step_p sat1 fun v2 H2 S2 st2 sat2 rp2 => k _ H2 S2 (st1.trans st2) sat2.ws (by rw [if_pos e]; exact rp2)
    · rw [if_neg e]
      exact step_p sat1 fun v2 H2 S2 st2 sat2 rp2 => k _ H2 S2 (st1.trans st2) sat2.ws (by rw [if_neg e]; exact rp2)
def EJ.ite {c a b : Expr} {pos : Pos} {r : SE} (tc : TJ M C G c) (x : EJ M C G a r) (y : EJ M C G b r) : EJ M C G (.IfExp c a b pos) r where
  den s := tc.den s >>= fun d => if d = true then x.den s else y.den s
  ok X Wx g tk := by
    refine PE.imp (pe_ifExp (tc.ok X Wx g tk) (x.ok X Wx g tk) (y.ok X Wx g tk)) fun σ H Q q => ?_
    obtain ⟨s, w, S, Ow, O, sat, k⟩ := q
    refine step_T (fun H S o => PostE M C.T.K C.p σ H S Ow r (fun cls d H' => Wx cls d σ H') Q o) sat k (fun _ _ _ st z => z.pre st) (fun b w' z => z) (fun _ z => z) fun d w1 H1 S1 st1 sat1 k1 => ?_
    cases d with
    | true => exact ⟨s, w1, S1, Ow, O, sat1, k1⟩
    | false => exact ⟨s, w1, S1, Ow, O, sat1, k1⟩
/-- two ints and the like, where one may fail -/
def EJ.bin {a b c : TY} {f : a.A → b.A → c.A} {op : Operator} {e1 e2 : Expr} {pos : Pos} (o : Op2 C op a b c f) (x : EJ M C G e1 (.sh a)) (y : EJ M C G e2 (.sh b)) : EJ M C G (.BinOp e1 op e2 pos) (.sh c) where
  den s := x.den s >>= fun i => y.den s >>= fun j => pure (f i j)
  ok X Wx g tk := by
    refine PE.imp (pe_op (o X g) (x.ok X Wx g tk) (y.ok X Wx g tk)) fun σ H Q q => ?_
    obtain ⟨s, w, S, Ow, O, sat, k⟩ := q
    refine step_E sat k fun i w1 v1 H1 S1 st1 sat1 rp1 k1 => ?_
    refine step_E sat1 k1 fun j w2 v2 H2 S2 st2 sat2 rp2 k2 => ?_
    rw [Eff.run_pure] at k2
    exact ⟨i, j, S2, sat2.sub, rp1.mono st2.ext, rp2, fun v rv => k2 v H2 S2 [] (ESt.refl sat2.sub) sat2.ws ⟨rfl, v, rfl, rv S2⟩⟩
def EJ.cmp {a b : TY} {f : a.A → b.A → Bool} {op : CmpOp} {e1 e2 : Expr} {pos : Pos} (o : Cm2 C op a b f) (x : EJ M C G e1 (.sh a)) (y : EJ M C G e2 (.sh b)) (hm : behindInMarks op e2 = false := by first | exact nomark _ | rfl) : EJ M C G (.Compare e1 [op] [e2] pos) (.sh TY.bool) where
  den s := x.den s >>= fun i => y.den s >>= fun j => pure (f i j)
  ok X Wx g tk := by
    refine PE.imp (pe_cmpR (o X g) (x.ok X Wx g tk) (y.ok X Wx g tk) hm) fun σ H Q q => ?_
    obtain ⟨s, w, S, Ow, O, sat, k⟩ := q
    refine step_E sat k fun i w1 v1 H1 S1 st1 sat1 rp1 k1 => ?_
    refine step_E sat1 k1 fun j w2 v2 H2 S2 st2 sat2 rp2 k2 => ?_
    rw [Eff.run_pure] at k2
    exact ⟨i, j, S2, sat2.sub, rp1.mono st2.ext, rp2, k2 _ H2 S2 [] (ESt.refl sat2.sub) sat2.ws ⟨rfl, _, rfl, rfl⟩⟩
end
end Tp

set_option Elab.async false
set_option linter.all false
set_option maxRecDepth 100000
set_option maxHeartbeats 4000000
/-! Tp5: statements. -/
namespace Tp
open PySem PySem.Spec L2
open PyProof.Rows hiding St

section
variable {K : PySem.W.Frag} {S H S' H' : Hp}
theorem SatL.app : ∀ {A B : Ctx} {a : ST A} {b : ST B} {σ : St} {O1 O2 : List Addr}, SatL K S H A a σ O1 → SatL K S H B b σ O2 → SatL K S H (A ++ B) (ST.app A B a b) σ (O1 ++ O2)
  | [], _, _, _, _, _, _, h, t => by cases h; exact t
  | (i, e) :: r, B, a, b, σ, O1, O2, h, t => by
    obtain ⟨P1, P2, e1, e2, e3⟩ := h
    subst e1
    exact ⟨P1, P2 ++ O2, by rw [List.append_assoc], e2, SatL.app e3 t⟩
theorem set_other {σ : St} {i j : Nat} {v : Option V} (h : j ≠ i) : (σ.set i v)[j]? = σ[j]? := List.getElem?_set_ne (Ne.symm h)
theorem set_self {σ : St} {i : Nat} {v : Option V} (h : i < σ.length) : (σ.set i v)[i]? = some v := List.getElem?_set_self h
theorem SatL.set_out {G : Ctx} {s : ST G} {σ : St} {O : List Addr} {i : Nat} {v : Option V} (h : SatL K S H G s σ O) (n : i ∉ G.map (·.1)) : SatL K S H G s (σ.set i v) O :=
  h.slots fun j hj => by rw [set_other fun e => n (by rw [← e]; exact hj)]
theorem SatL.put {i : Nat} {e : SE} {x : e.T} {v : V} {O1 : List Addr} (se : SatE K S H e x (some v) O1) : ∀ {G : Ctx} {s : ST G} {σ : St} {O : List Addr}, SatL K S H G s σ O → (G.map (·.1)).Nodup → i < σ.length →
    ∃ O', SatL K S H (put i e G) (ST.put i e x G s) (σ.set i (some v)) O' ∧ (∀ a ∈ O', a ∈ O ∨ a ∈ O1) ∧ ((O ++ O1).Nodup → O'.Nodup)
  | [], s, σ, O, h, nd, hi => by
    cases h
    exact ⟨O1, ⟨O1, [], by simp, by rw [set_self hi]; exact se, rfl⟩, fun a ha => .inr ha, fun h => by simpa using h⟩
  | (j, f) :: r, s, σ, O, h, nd, hi => by
    obtain ⟨P1, P2, e1, e2, e3⟩ := h
    subst e1
    rw [List.map_cons, List.nodup_cons] at nd
    have key : ∀ b : Bool, Nat.beq i j = b → ∃ O', SatL K S H (bif b then (i, e) :: r else (j, f) :: Tp.put i e r) (match b with
        | true => (x, s.2)
        | false => (s.1, ST.put i e x r s.2)) (σ.set i (some v)) O' ∧ (∀ a ∈ O', a ∈ P1 ++ P2 ∨ a ∈ O1) ∧ ((P1 ++ P2 ++ O1).Nodup → O'.Nodup) := fun b hb => by
      cases b with
      | true =>
        have : i = j := Nat.eq_of_beq_eq_true hb
        subst this
        refine ⟨O1 ++ P2, ⟨O1, P2, rfl, by rw [set_self hi]; exact se, e3.set_out nd.1⟩, fun a ha => ?_, fun h => ?_⟩
        · rcases List.mem_append.mp ha with h | h
          · exact .inr h
          · exact .inl (by simp [h])
        · rw [List.append_assoc] at h
          have h2 := (List.nodup_append.mp h).2.1
          rw [List.nodup_append] at h2 ⊢
          exact ⟨h2.2.1, h2.1, fun a ha b hb e => h2.2.2 b hb a ha e.symm⟩
      | false =>
        have hne : i ≠ j := fun q => by subst q; rw [Nat.beq_refl] at hb; cases hb
        obtain ⟨O', q1, q2, q3⟩ := SatL.put se e3 nd.2 hi
        refine ⟨P1 ++ O', ⟨P1, O', rfl, by rw [set_other hne.symm]; exact e2, q1⟩, fun a ha => ?_, fun h => ?_⟩
        · rcases List.mem_append.mp ha with h | h
          · exact .inl (by simp [h])
          · rcases q2 a h with h | h
            · exact .inl (by simp [h])
            · exact .inr h
        · rw [List.append_assoc] at h
          obtain ⟨h1, h2, h3⟩ := List.nodup_append.mp h
          refine List.nodup_append.mpr ⟨h1, q3 h2, fun a ha b hb e => h3 a ha b ?_ e⟩
          exact List.mem_append.mpr (q2 b hb)
    exact key _ rfl
/-- forgetting a slot -/
theorem SatL.del {i : Nat} : ∀ {G : Ctx} {s : ST G} {σ : St} {O : List Addr}, SatL K S H G s σ O → ∃ O', SatL K S H (del i G) (ST.del i G s) σ O' ∧ List.Sublist O' O
  | [], s, σ, O, h => ⟨O, h, List.Sublist.refl _⟩
  | (j, f) :: r, s, σ, O, h => by
    obtain ⟨P1, P2, e1, e2, e3⟩ := h
    subst e1
    have key : ∀ b : Bool, Nat.beq i j = b → ∃ O', SatL K S H (bif b then r else (j, f) :: Tp.del i r) (match b with
        | true => s.2
        | false => (s.1, ST.del i r s.2)) σ O' ∧ List.Sublist O' (P1 ++ P2) := fun b hb => by
      cases b with
      | true => exact ⟨P2, e3, List.sublist_append_right _ _⟩
      | false =>
        obtain ⟨O', q1, q2⟩ := SatL.del e3
        exact ⟨P1 ++ O', ⟨P1, O', rfl, e2, q1⟩, List.Sublist.append (List.Sublist.refl _) q2⟩
    exact key _ rfl
end

theorem SSt.trans {H S H1 S1 H2 S2 : Hp} {Ow O O1 O2 : List Addr} (a : SSt H S Ow O O1 H1 S1) (b : SSt H1 S1 Ow O1 O2 H2 S2) : SSt H S Ow O O2 H2 S2 where
  ext := a.ext.trans b.ext
  fr := fun x o h1 h2 e => b.fr x o h1 (fun h => (a.o1 x h).1.elim (fun z => by rw [e] at z; cases z) h2) (a.fr x o h1 h2 e)
  th := fun x o e => let ⟨o', e'⟩ := a.th x o e; b.th x o' e'
  new := fun x o e => (b.new x o e).elim (fun h => a.new x o h) fun h => h.elim (fun h => .inr (.inl (none_of_th a.th h))) fun h => .inr (a.o1 x h).1
  sub := b.sub
  o1 := fun x hx => ⟨(b.o1 x hx).1.elim (fun h => .inl (none_of_th a.th h)) fun h => (a.o1 x h).1, (b.o1 x hx).2⟩
  n1 := b.n1
theorem ESt.toS {H S H1 S1 : Hp} {Ow O O1 O' : List Addr} (a : ESt H S Ow O1 H1 S1) (d : ∀ x ∈ O, S1 x = none) (h : ∀ x ∈ O', x ∈ O ∨ x ∈ O1) (n : O'.Nodup) : SSt H S Ow O O' H1 S1 where
  ext := a.ext
  fr := fun x o h1 _ e => a.fr x o h1 e
  th := a.th
  new := fun x o e => (a.new x o e).elim .inl fun h => .inr (.inl h)
  sub := a.sub
  o1 := fun x hx => (h x hx).elim (fun h => ⟨.inr h, d x h⟩) fun h => ⟨.inl (a.o1 x h).1, (a.o1 x h).2⟩
  n1 := n

section
variable {M : Type → Type} [Eff M] {K : PySem.W.Frag} {p n : Nat} {ro rw_ rw' : Ctx} {c : ST ro} {m : ST rw_} {w w' : Eff.W M} {σ : St} {H S H' S' : Hp} {Ow Oc O O' : List Addr}
theorem Sat2.sat (x : Sat2 M K p n ro rw_ c m w σ H S Ow Oc O) : Sat M K p (rw_ ++ ro) (ST.app rw_ ro m c) w σ H S Ow (O ++ Oc) := by
  have hp : (Oc ++ O).Perm (O ++ Oc) := List.perm_append_comm
  refine ⟨x.sub, fun a ha => x.dis a ?_, ?_, x.ws, SatL.app x.es x.ec⟩
  · rcases List.mem_append.mp ha with h | h
    · exact List.mem_append_left _ h
    · exact List.mem_append_right _ (hp.mem_iff.mpr h)
  · exact (List.Perm.append_left Ow hp).nodup x.nd
theorem Sat2.there (x : Sat2 M K p n ro rw_ c m w σ H S Ow Oc O) : ∀ a ∈ Ow ++ (Oc ++ O), ∃ o, H a = some o := fun a ha => by
  rcases List.mem_append.mp ha with h | h
  · exact Eff.ws_there x.ws a h
  · rcases List.mem_append.mp h with h | h
    · exact x.ec.there a h
    · exact x.es.there a h
/-- the state behind a statement -/
theorem Sat2.after {m' : ST rw'} {σ' : St} (x : Sat2 M K p n ro rw_ c m w σ H S Ow Oc O) (st : SSt H S Ow O O' H' S') (hw : Eff.ws w' (σ[p]?.join) H' Ow) (es : SatL K S' H' rw' m' σ' O') (hs : ∀ i, i = p ∨ i ∈ ro.map (·.1) → σ'[i]? = σ[i]?) (hl : σ'.length = σ.length) :
    Sat2 M K p n ro rw' c m' w' σ' H' S' Ow Oc O' := by
  obtain ⟨n1, n2, n3⟩ := List.nodup_append.mp x.nd
  obtain ⟨n4, n5, n6⟩ := List.nodup_append.mp n2
  have hno : ∀ a, a ∈ Ow ++ Oc → a ∉ O := fun a ha h => by
    rcases List.mem_append.mp ha with q | q
    · exact n3 a q a (by simp [h]) rfl
    · exact n6 a q a h rfl
  have hth : ∀ a, a ∈ Ow ++ Oc → ∃ o, H a = some o := fun a ha => x.there a (by
    rcases List.mem_append.mp ha with q | q
    · simp [q]
    · simp [q])
  have hdis : ∀ a, a ∈ Ow ++ Oc → S' a = none := fun a ha => by
    cases e : S' a with
    | none => rfl
    | some o =>
      rcases st.new a o e with q | q | q
      · rw [x.dis a (by rcases List.mem_append.mp ha with z | z <;> simp [z])] at q; cases q
      · obtain ⟨o', e'⟩ := hth a ha; rw [q] at e'; cases e'
      · exact absurd q (hno a ha)
  have hnew : ∀ a ∈ O', a ∉ Ow ++ Oc := fun a ha hb => by
    rcases (st.o1 a ha).1 with q | q
    · obtain ⟨o', e'⟩ := hth a hb; rw [q] at e'; cases e'
    · exact hno a hb q
  refine ⟨st.sub, fun a ha => ?_, ?_, by rw [hs p (.inl rfl)]; exact hw, ?_, es, hl.trans x.len⟩
  · rcases List.mem_append.mp ha with q | q
    · exact hdis a (by simp [q])
    · rcases List.mem_append.mp q with q | q
      · exact hdis a (by simp [q])
      · exact (st.o1 a q).2
  · refine List.nodup_append.mpr ⟨n1, List.nodup_append.mpr ⟨n4, st.n1, fun a ha b hb e => hnew b hb (by simp [← e, ha])⟩, fun a ha b hb e => ?_⟩
    rcases List.mem_append.mp hb with q | q
    · exact n3 a ha b (by simp [q]) e
    · exact hnew b q (by simp [← e, ha])
  · refine (x.ec.mono st.ext fun a ha => ?_).slots fun i hi => by rw [hs i (.inr hi)]
    obtain ⟨o, e⟩ := x.ec.there a ha
    rw [e]
    exact st.fr a o (fun h => n3 a h a (by simp [ha]) rfl) (hno a (by simp [ha])) e
/-- an expression's end, in a statement -/
theorem Sat2.est {O1 : List Addr} (x : Sat2 M K p n ro rw_ c m w σ H S Ow Oc O) (st : ESt H S Ow O1 H' S') : ∀ a ∈ Ow ++ (Oc ++ O), S' a = none := fun a ha =>
  ESt.dis x.sat st a (by
    rcases List.mem_append.mp ha with q | q
    · simp [q]
    · rcases List.mem_append.mp q with q | q <;> simp [q])
theorem Sat2.fresh {O1 : List Addr} (x : Sat2 M K p n ro rw_ c m w σ H S Ow Oc O) (st : ESt H S Ow O1 H' S') : ∀ a ∈ O1, a ∉ Ow ++ (Oc ++ O) := fun a ha hb => by
  obtain ⟨o, e⟩ := x.there a hb
  rw [(st.o1 a ha).1] at e; cases e
theorem Sat2.es' {O1 : List Addr} (x : Sat2 M K p n ro rw_ c m w σ H S Ow Oc O) (st : ESt H S Ow O1 H' S') : SatL K S' H' rw_ m σ O :=
  x.es.mono st.ext fun a ha => x.sat.same st a (by simp [ha])
/-- behind an expression, its new cells dropped or shared -/
theorem Sat2.afterE {O1 : List Addr} (x : Sat2 M K p n ro rw_ c m w σ H S Ow Oc O) (st : ESt H S Ow O1 H' S') (hw : Eff.ws w' (σ[p]?.join) H' Ow) : Sat2 M K p n ro rw_ c m w' σ H' S' Ow Oc O :=
  x.after (st.toS (fun a ha => x.est st a (by simp [ha])) (fun a ha => .inl ha) (List.nodup_append.mp (List.nodup_append.mp x.nd).2.1).2.1) hw (x.es' st) (fun _ _ => rfl) rfl
theorem Sat2.sstE {O1 : List Addr} (x : Sat2 M K p n ro rw_ c m w σ H S Ow Oc O) (st : ESt H S Ow O1 H' S') : SSt H S Ow O O H' S' :=
  st.toS (fun a ha => x.est st a (by simp [ha])) (fun a ha => .inl ha) (List.nodup_append.mp (List.nodup_append.mp x.nd).2.1).2.1
/-- a slot is set -/
theorem Sat2.setSlot {i : Nat} {r : SE} {y : r.T} {v : V} {O1 : List Addr} (x : Sat2 M K p n ro rw_ c m w σ H S Ow Oc O) (st : ESt H S Ow O1 H' S') (hw : Eff.ws w' (σ[p]?.join) H' Ow) (se : SatE K S' H' r y (some v) O1)
    (hk : (rw_.map (·.1)).Nodup) (hi : i < n) (hr : i ∉ ro.map (·.1)) (hp : i ≠ p) :
    ∃ O', SSt H S Ow O O' H' S' ∧ Sat2 M K p n ro (put i r rw_) c (ST.put i r y rw_ m) w' (σ.set i (some v)) H' S' Ow Oc O' ∧ (∀ j, j = p ∨ j ∈ ro.map (·.1) → (σ.set i (some v))[j]? = σ[j]?) ∧ (σ.set i (some v)).length = σ.length := by
  obtain ⟨O', q1, q2, q3⟩ := SatL.put se (x.es' st) hk (by rw [x.len]; exact hi)
  have nO : (O ++ O1).Nodup := List.nodup_append.mpr ⟨(List.nodup_append.mp (List.nodup_append.mp x.nd).2.1).2.1, st.n1, fun a ha b hb e => x.fresh st b hb (by simp [← e, ha])⟩
  have s2 : SSt H S Ow O O' H' S' := st.toS (fun a ha => x.est st a (by simp [ha])) q2 (q3 nO)
  have hs : ∀ j, j = p ∨ j ∈ ro.map (·.1) → (σ.set i (some v))[j]? = σ[j]? := fun j hj => set_other fun e => hj.elim (fun h => hp (e ▸ h)) fun h => hr (e ▸ h)
  exact ⟨O', s2, x.after s2 hw q1 hs (by simp), hs, by simp⟩
end

section
variable {M : Type → Type} [Eff M] {K : PySem.W.Frag} {p : Nat} {ro : Ctx} {σ σ1 : St} {H S H1 S1 : Hp} {Ow O O1 : List Addr} {rw' : Ctx} {r : SE} {Wx : WX} {D : Ends}
/-- behind a first step -/
theorem PostS.pre (st : SSt H S Ow O O1 H1 S1) (hs : ∀ i, i = p ∨ i ∈ ro.map (·.1) → σ1[i]? = σ[i]?) (hl : σ1.length = σ.length) : ∀ {o : R (FL (ST rw') r.T) × Eff.W M}, PostS M K p ro σ H S Ow O rw' r Wx D o → PostS M K p ro σ1 H1 S1 Ow O1 rw' r Wx D o
  | (.ok (.nx m), w'), h => fun σ' H' S' O' a b c d e => h σ' H' S' O' (st.trans a) (by rw [← hs p (.inl rfl)]; exact b) c (fun i hi => (d i hi).trans (hs i hi)) (e.trans hl)
  | (.ok (.rt x), w'), h => fun v H' S' O' a b c => h v H' S' O' (st.trans a) (by rw [← hs p (.inl rfl)]; exact b) c
  | (.er x, w'), h => fun cls d σ' H' S' O' a b c e f => h cls d σ' H' S' O' (st.trans a) (by rw [← hs p (.inl rfl)]; exact b) c (fun i hi => (e i hi).trans (hs i hi)) (f.trans hl)
  | (.bad, _), h => h
theorem PostS.ret {rwa : Ctx} {D' : Ends} (hD : D'.rt = D.rt) : ∀ {o : R r.T × Eff.W M}, PostS M K p ro σ H S Ow O rw' r Wx D (R.map FL.rt o.1, o.2) → PostS M K p ro σ H S Ow O rwa r Wx D' (R.map FL.rt o.1, o.2)
  | (.ok x, w'), h => fun v H' S' O' a b c => by rw [hD]; exact h v H' S' O' a b c
  | (.er x, w'), h => h
  | (.bad, _), h => h
abbrev mapO {A B : Type} {W : Type} (f : A → B) (o : R A × W) : R B × W := (R.map f o.1, o.2)
end

section
variable {M : Type → Type} [Eff M] {C : Cf} {ro rw_ rw' : Ctx} {r : SE} {o : OZ rw' r} {Wx : WX}
variable {K : PySem.W.Frag} {p n : Nat} {c : ST ro} {m : ST rw_} {w : Eff.W M} {σ : St} {H S : Hp} {Ow Oc O : List Addr} {D : Ends}
/-- an expression in a statement -/
theorem stepS_E {t : SE} {da : ST (rw_ ++ ro) → M t.T} {f : t.T → M o.Z} {Q : VK} (x : Sat2 M K p n ro rw_ c m w σ H S Ow Oc O)
    (h : PostS M K p ro σ H S Ow O rw' r Wx D (mapO o.vw (Eff.run (da (ST.app rw_ ro m c) >>= f) w)))
    (k : ∀ (a : t.T) (w' : Eff.W M) v H' S' O1, ESt H S Ow O1 H' S' → Eff.ws w' (σ[p]?.join) H' Ow → SatE K S' H' t a (some v) O1 → PostS M K p ro σ H S Ow O rw' r Wx D (mapO o.vw (Eff.run (f a) w')) → Q v H') :
    tE M K p (rw_ ++ ro) t da Wx σ H Q := by
  refine ⟨_, w, S, Ow, _, x.sat, ?_⟩
  cases e : Eff.run (da (ST.app rw_ ro m c)) w with
  | mk q w' =>
    cases q with
    | ok a =>
      intro v H' S' O1 st hw se
      rw [run_ok f e] at h
      exact k a w' v H' S' O1 st hw se h
    | er b =>
      rw [run_er f e] at h
      exact fun cls d H2 S2 st2 hw2 er2 => h cls d σ H2 S2 O (x.sstE st2) hw2 er2 (fun _ _ => rfl) rfl
    | bad =>
      rw [run_bad' f e] at h
      exact h
theorem stepS_P {t : TY} {da : ST (rw_ ++ ro) → t.A} {Q : VK} (x : Sat2 M K p n ro rw_ c m w σ H S Ow Oc O)
    (k : ∀ v H' S', ESt H S Ow [] H' S' → Eff.ws w (σ[p]?.join) H' Ow → Rep K S' (t.enc (da (ST.app rw_ ro m c))) v → Q v H') :
    tP M K p (rw_ ++ ro) t da σ H Q :=
  ⟨_, w, S, Ow, _, x.sat, k⟩
theorem stepS_T {da : ST (rw_ ++ ro) → M Bool} {f : Bool → M o.Z} {Q : Bool → Hp → Prop} (x : Sat2 M K p n ro rw_ c m w σ H S Ow Oc O)
    (h : PostS M K p ro σ H S Ow O rw' r Wx D (mapO o.vw (Eff.run (da (ST.app rw_ ro m c) >>= f) w)))
    (k : ∀ (a : Bool) (w' : Eff.W M) H' S', ESt H S Ow [] H' S' → Sat2 M K p n ro rw_ c m w' σ H' S' Ow Oc O → PostS M K p ro σ H' S' Ow O rw' r Wx D (mapO o.vw (Eff.run (f a) w')) → Q a H') :
    tT M K p (rw_ ++ ro) da Wx σ H Q := by
  refine ⟨_, w, S, Ow, _, x.sat, ?_⟩
  cases e : Eff.run (da (ST.app rw_ ro m c)) w with
  | mk q w' =>
    cases q with
    | ok a =>
      intro H' S' st hw
      rw [run_ok f e] at h
      exact k a w' H' S' st (x.afterE st hw) (h.pre (x.sstE st) (fun _ _ => rfl) rfl)
    | er b =>
      rw [run_er f e] at h
      exact fun cls d H2 S2 st2 hw2 er2 => h cls d σ H2 S2 O (x.sstE st2) hw2 er2 (fun _ _ => rfl) rfl
    | bad =>
      rw [run_bad' f e] at h
      exact h
end

section
variable {M : Type → Type} [Eff M] {C : Cf} {ro rw_ rw' : Ctx} {r : SE} {o : OZ rw' r}
theorem SG.loc {X : Cx} (g : SG C X) {x : Str} (h : Loc C.sc x) : Loc X.env.scope x := by rw [g.sc]; exact h
def SJ.nil : SJ M C ro rw_ [] (OZ.n rw_ r) where
  den _ m := pure m
  ok X Wx g tk := by
    refine PSs.imp pss_nil fun D σ H q => ?_
    obtain ⟨c, m, w, S, Ow, Oc, O, x, k⟩ := q
    rw [Eff.run_pure] at k
    exact k σ H S O (x.sstE (ESt.refl x.sub)) x.ws x.es (fun _ _ => rfl) rfl
def SJ.nilB : SJ M C ro rw_ [] (OZ.b rw_ r) where
  den _ m := pure (.nx m)
  ok X Wx g tk := by
    refine PSs.imp pss_nil fun D σ H q => ?_
    obtain ⟨c, m, w, S, Ow, Oc, O, x, k⟩ := q
    rw [Eff.run_pure] at k
    exact k σ H S O (x.sstE (ESt.refl x.sub)) x.ws x.es (fun _ _ => rfl) rfl
/-- x = e, then the rest -/
def SJ.set (i : Nat) {x : Str} {e : Expr} {t : SE} {pos pos' : Pos} {sts : List Stmt} (a : EJ M C (rw_ ++ ro) e t) (rest : SJ M C ro (put i t rw_) sts o) (hN : C.N[i]? = some x := by rfl) (hl : Loc C.sc x := by first | exact Or.inl rfl | exact Or.inr rfl)
    (hf : C.fb x = true ∨ C.sc.names.lookup x = some .local := by first | exact Or.inl rfl | exact Or.inr rfl) (hs : ∀ env, swapsWith e (some (.Name x pos')) pos.line env = pure false := by intro _; rfl)
    (hk : (rw_.map (·.1)).Nodup := by first | decide | exact of_decide_eq_true rfl) (hi : i < C.N.length := by first | decide | exact of_decide_eq_true rfl) (hr : i ∉ ro.map (·.1) := by first | decide | exact of_decide_eq_true rfl) (hp : i ≠ C.p := by first | decide | exact of_decide_eq_true rfl) : SJ M C ro rw_ (.Assign [.Name x pos'] e pos :: sts) o where
  den c m := a.den (ST.app rw_ ro m c) >>= fun v => rest.den c (ST.put i t v rw_ m)
  ok X Wx g tk := by
    refine PSs.imp (pss_cons (ps_set (by rw [g.n]; exact g.nd) (g.name hN) (g.loc hl) (a.ok X Wx g.toXG tk) (hs _) (hf.elim (fun h => .inl (g.fn _ h)) fun h => .inr (by rw [g.sc]; exact h))) (rest.ok X Wx g tk)) fun D σ H q => ?_
    obtain ⟨c, m, w, S, Ow, Oc, O, x, k⟩ := q
    refine stepS_E x k fun y w' v H' S' O1 st hw se k1 => ?_
    obtain ⟨O', s2, x2, hs2, hl2⟩ := x.setSlot st hw se hk hi hr hp
    exact ⟨c, _, w', S', Ow, Oc, O', x2, k1.pre s2 hs2 hl2⟩
def SJ.setP (i : Nat) {x : Str} {e : Expr} {t : TY} {pos pos' : Pos} {sts : List Stmt} (a : EP M C (rw_ ++ ro) e t) (rest : SJ M C ro (put i (.sh t) rw_) sts o) (hN : C.N[i]? = some x := by rfl) (hl : Loc C.sc x := by first | exact Or.inl rfl | exact Or.inr rfl)
    (hf : C.fb x = true ∨ C.sc.names.lookup x = some .local := by first | exact Or.inl rfl | exact Or.inr rfl) (hs : ∀ env, swapsWith e (some (.Name x pos')) pos.line env = pure false := by intro _; rfl)
    (hk : (rw_.map (·.1)).Nodup := by first | decide | exact of_decide_eq_true rfl) (hi : i < C.N.length := by first | decide | exact of_decide_eq_true rfl) (hr : i ∉ ro.map (·.1) := by first | decide | exact of_decide_eq_true rfl) (hp : i ≠ C.p := by first | decide | exact of_decide_eq_true rfl) : SJ M C ro rw_ (.Assign [.Name x pos'] e pos :: sts) o where
  den c m := rest.den c (ST.put i (.sh t) (a.den (ST.app rw_ ro m c)) rw_ m)
  ok X Wx g tk := by
    refine PSs.imp (pss_cons (ps_set (by rw [g.n]; exact g.nd) (g.name hN) (g.loc hl) (a.ok X g.toXG) (hs _) (hf.elim (fun h => .inl (g.fn _ h)) fun h => .inr (by rw [g.sc]; exact h))) (rest.ok X Wx g tk)) fun D σ H q => ?_
    obtain ⟨c, m, w, S, Ow, Oc, O, x, k⟩ := q
    refine stepS_P x fun v H' S' st hw rp => ?_
    obtain ⟨O', s2, x2, hs2, hl2⟩ := x.setSlot (r := .sh t) st hw ⟨rfl, v, rfl, rp⟩ hk hi hr hp
    exact ⟨c, _, w, S', Ow, Oc, O', x2, PostS.pre s2 hs2 hl2 k⟩
/-- return e -/
def SJ.ret {e : Expr} {pos : Pos} (a : EJ M C (rw_ ++ ro) e r) : SJ M C ro rw_ [.Return (some e) pos] (OZ.r rw' r) where
  den c m := a.den (ST.app rw_ ro m c)
  ok X Wx g tk := by
    refine PSs.imp (pss_one (ps_ret (a.ok X Wx g.toXG tk))) fun D σ H q => ?_
    obtain ⟨c, m, w, S, Ow, Oc, O, x, k⟩ := q
    refine ⟨_, w, S, Ow, _, x.sat, ?_⟩
    cases e : Eff.run (a.den (ST.app rw_ ro m c)) w with
    | mk q w' =>
      rw [e] at k
      cases q with
      | ok y => exact fun v H' S' O1 st hw se => k v H' S' O1 (st.toS (fun a ha => x.est st a (by simp [ha])) (fun a ha => .inr ha) st.n1) hw se
      | er b => exact fun cls d H2 S2 st2 hw2 er2 => k cls d σ H2 S2 O (x.sstE st2) hw2 er2 (fun _ _ => rfl) rfl
      | bad => exact k
def SJ.retP {e : Expr} {pos : Pos} {t : TY} (a : EP M C (rw_ ++ ro) e t) : SJ M C ro rw_ [.Return (some e) pos] (OZ.r rw' (.sh t)) where
  den c m := pure (a.den (ST.app rw_ ro m c))
  ok := (SJ.ret (rw' := rw') (pos := pos) a.toEJ).ok
/-- a block that returns, among blocks that may do both -/
def SJ.both {sts : List Stmt} (a : SJ M C ro rw_ sts (OZ.r rw' r)) : SJ M C ro rw_ sts (OZ.b rw' r) where
  den c m := a.den c m >>= fun v => pure (.rt v)
  ok X Wx g tk := by
    refine PSs.imp (a.ok X Wx g tk) fun D σ H q => ?_
    obtain ⟨c, m, w, S, Ow, Oc, O, x, k⟩ := q
    refine ⟨c, m, w, S, Ow, Oc, O, x, ?_⟩
    cases e : Eff.run (a.den c m) w with
    | mk q w' =>
      cases q with
      | ok y =>
        rw [run_ok _ e, Eff.run_pure] at k
        exact k
      | er b => rw [run_er _ e] at k; exact k
      | bad => rw [run_bad' _ e] at k; exact k
/-- if c: a block that returns; the rest -/
def SJ.ifR {e : Expr} {a sts : List Stmt} {pos : Pos} {rwa : Ctx} (tc : TJ M C (rw_ ++ ro) e) (x : SJ M C ro rw_ a (OZ.r rwa r)) (rest : SJ M C ro rw_ sts o) (mkR : r.T → o.Z) (hR : ∀ x, o.vw (mkR x) = .rt x := by intro _; rfl) : SJ M C ro rw_ (.If e a [] pos :: sts) o where
  den c m := tc.den (ST.app rw_ ro m c) >>= fun b => if b = true then x.den c m >>= fun v => pure (mkR v) else rest.den c m
  ok X Wx g tk := by
    refine PSs.imp (pss_cons (ps_if (tc.ok X Wx g.toXG tk) (x.ok X Wx g tk) pss_nil) (rest.ok X Wx g tk)) fun D σ H q => ?_
    obtain ⟨c, m, w, S, Ow, Oc, O, y, k⟩ := q
    refine stepS_T y k fun b w1 H1 S1 st1 y1 k1 => ?_
    cases b with
    | true =>
      refine ⟨c, m, w1, S1, Ow, Oc, O, y1, ?_⟩
      have k2 : PostS M C.T.K C.p ro σ H1 S1 Ow O rw' r Wx D (mapO o.vw (Eff.run (x.den c m >>= fun v => pure (mkR v)) w1)) := k1
      cases e : Eff.run (x.den c m) w1 with
      | mk q w' =>
        cases q with
        | ok z =>
          rw [run_ok _ e, Eff.run_pure] at k2
          unfold mapO R.map at k2
          dsimp only at k2
          rw [hR] at k2
          exact k2
        | er b => rw [run_er _ e] at k2; exact k2
        | bad => rw [run_bad' _ e] at k2; exact k2
    | false => exact ⟨c, m, w1, S1, Ow, Oc, O, y1, k1⟩
def SJ.ifRP {e : Expr} {a sts : List Stmt} {pos : Pos} {rwa : Ctx} (tc : TP M C (rw_ ++ ro) e) (x : SJ M C ro rw_ a (OZ.r rwa r)) (rest : SJ M C ro rw_ sts (OZ.r rw' r)) : SJ M C ro rw_ (.If e a [] pos :: sts) (OZ.r rw' r) where
  den c m := if tc.den (ST.app rw_ ro m c) = true then x.den c m else rest.den c m
  ok X Wx g tk := by
    refine PSs.imp (pss_cons (ps_if (tc.ok X g.toXG) (x.ok X Wx g tk) pss_nil) (rest.ok X Wx g tk)) fun D σ H q => ?_
    obtain ⟨c, m, w, S, Ow, Oc, O, y, k⟩ := q
    refine ⟨_, w, S, Ow, _, y.sat, fun H1 S1 st hw => ?_⟩
    have y1 := y.afterE st hw
    have k1 := PostS.pre (y.sstE st) (σ1 := σ) (fun _ _ => rfl) rfl k
    dsimp only at k1
    dsimp only
    by_cases b : tc.den (ST.app rw_ ro m c) = true
    · rw [if_pos b] at k1 ⊢
      exact ⟨c, m, w, S1, Ow, Oc, O, y1, PostS.ret (D := D) (by rfl) k1⟩
    · rw [if_neg b] at k1 ⊢
      exact ⟨c, m, w, S1, Ow, Oc, O, y1, k1⟩
/-- if c: a block that returns; else: a block that returns -/
def SJ.ifRR {e : Expr} {a b : List Stmt} {pos : Pos} {rwa rwb : Ctx} (tc : TJ M C (rw_ ++ ro) e) (x : SJ M C ro rw_ a (OZ.r rwa r)) (y : SJ M C ro rw_ b (OZ.r rwb r)) : SJ M C ro rw_ [.If e a b pos] (OZ.r rw' r) where
  den c m := tc.den (ST.app rw_ ro m c) >>= fun d => if d = true then x.den c m else y.den c m
  ok X Wx g tk := by
    refine PSs.imp (pss_one (ps_if (tc.ok X Wx g.toXG tk) (x.ok X Wx g tk) (y.ok X Wx g tk))) fun D σ H q => ?_
    obtain ⟨c, m, w, S, Ow, Oc, O, z, k⟩ := q
    refine stepS_T z k fun d w1 H1 S1 st1 z1 k1 => ?_
    cases d with
    | true => exact ⟨c, m, w1, S1, Ow, Oc, O, z1, PostS.ret (D := D) (by rfl) k1⟩
    | false => exact ⟨c, m, w1, S1, Ow, Oc, O, z1, PostS.ret (D := D) (by rfl) k1⟩
/-- a block that goes on (st1 with the block's end as the rest's start) -/
theorem seq_ok {X : Cx} {Wx : WX} {st : Stmt} {sts : List Stmt} {rw1 : Ctx} {d1 : ST ro → ST rw_ → M (ST rw1)} (h1 : PS X st (tS M C.T.K C.p C.N.length ro rw_ rw1 r (OZ.n rw1 r) d1 Wx)) {d2 : ST ro → ST rw1 → M o.Z}
    (h2 : PSs X sts (tS M C.T.K C.p C.N.length ro rw1 rw' r o d2 Wx)) : PSs X (st :: sts) (tS M C.T.K C.p C.N.length ro rw_ rw' r o (fun c m => d1 c m >>= fun m1 => d2 c m1) Wx) := by
  refine PSs.imp (pss_cons h1 h2) fun D σ H q => ?_
  obtain ⟨c, m, w, S, Ow, Oc, O, y, k⟩ := q
  refine ⟨c, m, w, S, Ow, Oc, O, y, ?_⟩
  cases e : Eff.run (d1 c m) w with
  | mk q w' =>
    cases q with
    | ok z =>
      rw [run_ok _ e] at k
      exact fun σ' H' S' O' st hw es hs hl => ⟨c, z, w', S', Ow, Oc, O', y.after st hw es hs hl, k.pre st hs hl⟩
    | er b =>
      rw [run_er _ e] at k
      exact k
    | bad => rw [run_bad' _ e] at k; exact k
/-- if c: ..; else: .., both go on -/
def SJ.ifN {e : Expr} {a b sts : List Stmt} {pos : Pos} {rw1 : Ctx} (tc : TJ M C (rw_ ++ ro) e) (x : SJ M C ro rw_ a (OZ.n rw1 r)) (y : SJ M C ro rw_ b (OZ.n rw1 r)) (rest : SJ M C ro rw1 sts o) : SJ M C ro rw_ (.If e a b pos :: sts) o where
  den c m := (tc.den (ST.app rw_ ro m c) >>= fun d => if d = true then x.den c m else y.den c m) >>= fun m1 => rest.den c m1
  ok X Wx g tk := by
    refine seq_ok (PS.imp (ps_if (tc.ok X Wx g.toXG tk) (x.ok X Wx g tk) (y.ok X Wx g tk)) fun D σ H q => ?_) (rest.ok X Wx g tk)
    obtain ⟨c, m, w, S, Ow, Oc, O, z, k⟩ := q
    refine stepS_T z k fun d w1 H1 S1 st1 z1 k1 => ?_
    cases d with
    | true => exact ⟨c, m, w1, S1, Ow, Oc, O, z1, k1⟩
    | false => exact ⟨c, m, w1, S1, Ow, Oc, O, z1, k1⟩
/-- a block whose end is said in less words -/
def SJ.conv {sts : List Stmt} {rw1 : Ctx} (a : SJ M C ro rw_ sts (OZ.n rw1 r)) (f : ST rw1 → ST rw') (h : ∀ (K : PySem.W.Frag) (S H : Hp) (m : ST rw1) (σ : St) (O : List Addr), (∀ a o, S a = some o → H a = some o) → (∀ a ∈ O, S a = none) → O.Nodup → SatL K S H rw1 m σ O →
    ∃ S' O', Ext S S' ∧ (∀ a o, S' a = some o → S a = some o ∨ (a ∈ O ∧ a ∉ O' ∧ H a = some o)) ∧ (∀ a ∈ O', a ∈ O ∧ S' a = none) ∧ O'.Nodup ∧ SatL K S' H rw' (f m) σ O') : SJ M C ro rw_ sts (OZ.n rw' r) where
  den c m := a.den c m >>= fun m1 => pure (f m1)
  ok X Wx g tk := by
    refine PSs.imp (a.ok X Wx g tk) fun D σ H q => ?_
    obtain ⟨c, m, w, S, Ow, Oc, O, y, k⟩ := q
    refine ⟨c, m, w, S, Ow, Oc, O, y, ?_⟩
    cases e : Eff.run (a.den c m) w with
    | mk q w' =>
      cases q with
      | ok z =>
        rw [run_ok _ e, Eff.run_pure] at k
        intro σ' H' S' O' st hw es hs hl
        obtain ⟨S2, O2, q1, q2, q3, q4, q5⟩ := h C.T.K S' H' z σ' O' st.sub (fun a ha => (st.o1 a ha).2) st.n1 es
        exact k σ' H' S2 O2 ⟨st.ext.trans q1, st.fr, st.th, fun a o e => (q2 a o e).elim (st.new a o) fun h => (st.o1 a h.1).1.elim (fun z => .inr (.inl z)) fun z => .inr (.inr z), fun a o e => (q2 a o e).elim (st.sub a o) fun h => h.2.2, fun a ha => ⟨(st.o1 a (q3 a ha).1).1, (q3 a ha).2⟩, q4⟩ hw q5 hs hl
      | er b => rw [run_er _ e] at k; exact k
      | bad => rw [run_bad' _ e] at k; exact k
end
end Tp

set_option Elab.async false
set_option linter.all false
set_option maxRecDepth 100000
set_option maxHeartbeats 4000000
/-! Tp6: defs and calls. -/
namespace Tp
open PySem PySem.Spec L2
open PyProof.Rows hiding St

theorem join_start (N : List Str) (vs : List V) (i : Nat) : (L2.start N vs)[i]?.join = (vs.map some)[i]?.join := by
  unfold L2.start
  by_cases h : i < vs.length
  · rw [List.getElem?_append_left (by simpa using h)]
  · rw [List.getElem?_append_right (by simpa using h)]
    have e : (vs.map some)[i]? = none := List.getElem?_eq_none (by simpa using h)
    rw [e, List.getElem?_replicate]
    split <;> rfl
theorem SSt.toE {H S H' S' : Hp} {Ow O1 : List Addr} (a : SSt H S Ow [] O1 H' S') : ESt H S Ow O1 H' S' :=
  ⟨a.ext, fun x o h e => a.fr x o h (by simp) e, a.th, fun x o e => (a.new x o e).elim .inl fun h => h.elim .inr fun h => (by simp at h), a.sub, fun x hx => ⟨(a.o1 x hx).1.elim id fun h => (by simp at h), (a.o1 x hx).2⟩, a.n1⟩

/-- a def as its callers see it: its promise, by at most the level k -/
structure Fn (T : Wd) (k : Nat) (x : Str) (ps : List Str) (sp : Sp) : Prop where
  ex : ∃ fa fd, T.mg x = some (.ref fa) ∧ PySem.W.keepIn T.K (.ref fa) = true ∧ FnG T.P T.w T.K T.mg T.base k fa fd ps sp ∧ Binds T.K fd ps []

section
variable {M : Type → Type} [Eff M] {C : Cf}
/-- the context of a def's body -/
theorem sg_of {T : Wd} {N : List Str} {qual : Str} {scope : Scope} {fa : Addr} {cdv : Value} {A : Around} {outer : List Env} {s : Shared} {H : Hp} {E : XK} {k p : Nat} (hr : RG k (A.deeper (envOfC qual scope s.heap.objs.size fa cdv))) (nd : N.Nodup) :
    SG ⟨T, N, scope, k, p, fun _ => true⟩ (cxOf (L2.CX T.P T.w) T.P T.w T.K T.mg T.base N qual scope fa cdv A outer s H E) :=
  ⟨⟨fun _ _ => rfl, rfl, rfl, rfl, rfl, rfl, rfl, rfl, rfl, hr, nd⟩, rfl, rfl, passes_of rfl⟩
/-- a def that returns at every end keeps its promise -/
theorem fn_ok {T : Wd} {x qual : Str} {params : Arguments} {body : List Stmt} {scope : Scope} {dvs : List V} {kws : List (Str × V)} {fa : Addr} {fd : FuncData} {N ps : List Str} {k p : Nat} {ro rw_ rw' : Ctx} {r : SE}
    (F : FunD T.K x qual params body scope dvs kws fa fd) (S : FnScope N ps scope) (b : SJ M ⟨T, N, scope, k, p, fun _ => true⟩ ro rw_ body (OZ.r rw' r)) :
    FnG T.P T.w T.K T.mg T.base (k + 1) fa fd ps (spF M T.K ps.length p ro rw_ r b.den) := by
  refine fnG_of F S (fun vs H Q E h => h.1) fun cdv A outer s H vs Q E hr h => ⟨_, b.ok _ (fun cls d _ H => E cls d H) (sg_of hr S.nd) (takes_of rfl rfl rfl rfl), ?_⟩
  obtain ⟨hl, c, m, w, Sh, Ow, Oc, x, k⟩ := h
  have hpl : ps.length ≤ N.length := by have := congrArg List.length S.pre; rw [List.length_take] at this; omega
  refine ⟨c, m, w, Sh, Ow, Oc, [], ⟨x.sub, x.dis, x.nd, by rw [join_start]; exact x.ws, x.ec.slots fun i _ => join_start _ _ _, x.es.slots fun i _ => join_start _ _ _, ?_⟩, ?_⟩
  · unfold L2.start
    rw [List.length_append, List.length_map, List.length_replicate]
    show _ = N.length
    omega
  · cases e : Eff.run (b.den c m) w with
    | mk o w' =>
      rw [e] at k
      cases o with
      | ok y =>
        intro v H' S' O1 st hw se
        rw [join_start] at hw
        exact k v H' S' O1 st.toE hw se
      | er y =>
        intro cls d σ' H' S' O' st hw er _ _
        rw [join_start] at hw
        have st2 : SSt H Sh Ow [] [] H' S' := ⟨st.ext, st.fr, st.th, st.new, st.sub, fun _ h => (nomatch h), .nil⟩
        exact k cls d H' S' st2.toE hw er
      | bad => exact k
theorem Fn.mk' {T : Wd} {x qual : Str} {params : Arguments} {body : List Stmt} {scope : Scope} {dvs : List V} {kws : List (Str × V)} {fa : Addr} {fd : FuncData} {ps : List Str} {k : Nat} {sp : Sp}
    (F : FunD T.K x qual params body scope dvs kws fa fd) (hm : T.mg x = some (.ref fa)) (hb : Binds T.K fd ps []) (h : FnG T.P T.w T.K T.mg T.base k fa fd ps sp) : Fn T k x ps sp := ⟨fa, fd, hm, F.kp, h, hb⟩
theorem Fn.mono {T : Wd} {j k : Nat} {x : Str} {ps : List Str} {sp : Sp} (F : Fn T j x ps sp) (h : j ≤ k) : Fn T k x ps sp := by
  obtain ⟨fa, fd, h1, h2, h3, h4⟩ := F.ex
  exact ⟨fa, fd, h1, h2, h3.mono h, h4⟩
/-- a weaker promise -/
theorem Fn.imp {T : Wd} {k : Nat} {x : Str} {ps : List Str} {sp sp' : Sp} (F : Fn T k x ps sp) (h : ∀ vs H Q E, sp' vs H Q E → sp vs H Q E) : Fn T k x ps sp' := by
  obtain ⟨fa, fd, h1, h2, h3, h4⟩ := F.ex
  exact ⟨fa, fd, h1, h2, h3.imp h, h4⟩

variable {G : Ctx}
/-! ### arguments -/
def AJ.nil (i : Nat) : AJ M C G i [] [] where
  den _ := pure ()
  ge := fun j h => by simp at h
  lt := fun j h => by simp at h
  ok X Wx g tk := by
    refine PA.imp pa_nil fun σ H Q q => ?_
    obtain ⟨s, w, S, Ow, O, x, k⟩ := q
    rw [Eff.run_pure] at k
    exact k [] H S (ESt.refl x.sub) x.ws rfl rfl
theorem SatL.at_rep {K : PySem.W.Frag} {S H : Hp} {G0 : Ctx} {s : ST G0} {i : Nat} {v : V} {vs : List V} {O : List Addr} (h : SatL K S H G0 s (List.replicate (i + 1) none ++ vs.map some) O) (ge : ∀ j ∈ G0.map (·.1), i + 1 ≤ j) : SatL K S H G0 s (List.replicate i none ++ (v :: vs).map some) O := by
  refine h.slots fun j hj => ?_
  have := ge j hj
  rw [List.getElem?_append_right (by simp; omega), List.getElem?_append_right (by simp; omega)]
  obtain ⟨d, rfl⟩ : ∃ d, j = i + 1 + d := ⟨j - (i + 1), by omega⟩
  simp only [List.length_replicate, List.map_cons]
  rw [show i + 1 + d - i = d + 1 by omega, show i + 1 + d - (i + 1) = d by omega, List.getElem?_cons_succ]
def AJ.cons {i : Nat} {e : Expr} {es : List Expr} {t : TY} {G0 : Ctx} (a : EJ M C G e (.sh t)) (b : AJ M C G (i + 1) es G0) (hs : ∀ env, starEach (e :: es) env = (false, eval e env) :: starEach es env := by intro _; rfl) : AJ M C G i (e :: es) ((i, .sh t) :: G0) where
  den s := a.den s >>= fun x => b.den s >>= fun y => pure (x, y)
  ge := fun j h => by
    rw [List.map_cons, List.mem_cons] at h
    rcases h with rfl | h
    · exact Nat.le_refl _
    · exact Nat.le_of_succ_le (b.ge j h)
  lt := fun j h => by
    rw [List.map_cons, List.mem_cons] at h
    rw [List.length_cons]
    rcases h with rfl | h
    · omega
    · have := b.lt j h; omega
  ok X Wx g tk := by
    refine PA.imp (pa_cons (a.ok X Wx g tk) (b.ok X Wx g tk) (hs _)) fun σ H Q q => ?_
    obtain ⟨s, w, S, Ow, O, x, k⟩ := q
    refine step_gen (fun H S o => PostA M C.T.K C.p σ H S Ow i ((i, .sh t) :: G0) (e :: es).length (fun cls d H' => Wx cls d σ H') Q o) x k (fun _ _ _ st z => z.pre st) (fun b w' z => z) (fun _ z => z) fun y w1 v1 H1 S1 _ st1 sat1 rp1 k1 => ?_
    refine ⟨s, w1, S1, Ow, O, sat1, ?_⟩
    cases e2 : Eff.run (b.den s) w1 with
    | mk o w2 =>
      cases o with
      | ok z =>
        rw [run_ok _ e2, Eff.run_pure] at k1
        intro vs H2 S2 st2 hw2 hl sl
        refine k1 (v1 :: vs) H2 S2 st2 hw2 (by simp [hl]) ⟨[], [], rfl, ⟨rfl, v1, ?_, rp1.mono st2.ext⟩, sl.at_rep b.ge⟩
        rw [List.getElem?_append_right (by simp)]
        simp
      | er z => rw [run_er _ e2] at k1; exact k1
      | bad => rw [run_bad' _ e2] at k1; exact k1
def AJ.consP {i : Nat} {e : Expr} {es : List Expr} {t : TY} {G0 : Ctx} (a : EP M C G e t) (b : AJ M C G (i + 1) es G0) (hs : ∀ env, starEach (e :: es) env = (false, eval e env) :: starEach es env := by intro _; rfl) : AJ M C G i (e :: es) ((i, .sh t) :: G0) where
  den s := b.den s >>= fun y => pure (a.den s, y)
  ge := fun j h => by
    rw [List.map_cons, List.mem_cons] at h
    rcases h with rfl | h
    · exact Nat.le_refl _
    · exact Nat.le_of_succ_le (b.ge j h)
  lt := fun j h => by
    rw [List.map_cons, List.mem_cons] at h
    rw [List.length_cons]
    rcases h with rfl | h
    · omega
    · have := b.lt j h; omega
  ok X Wx g tk := by
    refine PA.imp (pa_cons (a.ok X g) (b.ok X Wx g tk) (hs _)) fun σ H Q q => ?_
    obtain ⟨s, w, S, Ow, O, x, k⟩ := q
    refine step_p x fun v1 H1 S1 st1 sat1 rp1 => ?_
    refine ⟨s, w, S1, Ow, O, sat1, ?_⟩
    cases e2 : Eff.run (b.den s) w with
    | mk o w2 =>
      cases o with
      | ok z =>
        rw [run_ok _ e2, Eff.run_pure] at k
        intro vs H2 S2 st2 hw2 hl sl
        refine k (v1 :: vs) H2 S2 (st1.trans st2) hw2 (by simp [hl]) ⟨[], [], rfl, ⟨rfl, v1, ?_, rp1.mono st2.ext⟩, sl.at_rep b.ge⟩
        rw [List.getElem?_append_right (by simp)]
        simp
      | er z =>
        rw [run_er _ e2] at k
        exact fun cls d H2 S2 st2 hw2 er2 => k cls d H2 S2 (st1.trans st2) hw2 er2
      | bad => rw [run_bad' _ e2] at k; exact k
/-- arguments that are all total -/
def tAp (M : Type → Type) [Eff M] (K : PySem.W.Frag) (p : Nat) (G : Ctx) (i : Nat) (G0 : Ctx) (n : Nat) (den : ST G → ST G0) : TA := fun σ H Q =>
  ∃ s w S Ow O, Sat M K p G s w σ H S Ow O ∧ ∀ vs H' S', ESt H S Ow [] H' S' → Eff.ws (M := M) w (σ[p]?.join) H' Ow → vs.length = n → SatL K S' H' G0 (den s) (List.replicate i none ++ vs.map some) [] → Q vs H'
structure AP (M : Type → Type) [Eff M] (C : Cf) (G : Ctx) (i : Nat) (es : List Expr) (G0 : Ctx) where
  den : ST G → ST G0
  ge : ∀ j ∈ G0.map (·.1), i ≤ j
  lt : ∀ j ∈ G0.map (·.1), j < i + es.length
  ok : ∀ X, XG C X → PA X es (tAp M C.T.K C.p G i G0 es.length den)
def AP.toJ {i : Nat} {es : List Expr} {G0 : Ctx} (a : AP M C G i es G0) : AJ M C G i es G0 where
  den s := pure (a.den s)
  ge := a.ge
  lt := a.lt
  ok X Wx g tk := by
    refine PA.imp (a.ok X g) fun σ H Q q => ?_
    obtain ⟨s, w, S, Ow, O, x, k⟩ := q
    rw [Eff.run_pure] at k
    exact ⟨s, w, S, Ow, O, x, k⟩
def AP.nil (i : Nat) : AP M C G i [] [] where
  den _ := ()
  ge := fun j h => by simp at h
  lt := fun j h => by simp at h
  ok X g := by
    refine PA.imp pa_nil fun σ H Q q => ?_
    obtain ⟨s, w, S, Ow, O, x, k⟩ := q
    exact k [] H S (ESt.refl x.sub) x.ws rfl rfl
def AP.cons {i : Nat} {e : Expr} {es : List Expr} {t : TY} {G0 : Ctx} (a : EP M C G e t) (b : AP M C G (i + 1) es G0) (hs : ∀ env, starEach (e :: es) env = (false, eval e env) :: starEach es env := by intro _; rfl) : AP M C G i (e :: es) ((i, .sh t) :: G0) where
  den s := (a.den s, b.den s)
  ge := fun j h => by
    rw [List.map_cons, List.mem_cons] at h
    rcases h with rfl | h
    · exact Nat.le_refl _
    · exact Nat.le_of_succ_le (b.ge j h)
  lt := fun j h => by
    rw [List.map_cons, List.mem_cons] at h
    rw [List.length_cons]
    rcases h with rfl | h
    · omega
    · have := b.lt j h; omega
  ok X g := by
    refine PA.imp (pa_cons (a.ok X g) (b.ok X g) (hs _)) fun σ H Q q => ?_
    obtain ⟨s, w, S, Ow, O, x, k⟩ := q
    refine step_p x fun v1 H1 S1 st1 sat1 rp1 => ?_
    refine ⟨s, w, S1, Ow, O, sat1, fun vs H2 S2 st2 hw2 hl sl => ?_⟩
    refine k (v1 :: vs) H2 S2 (st1.trans st2) hw2 (by simp [hl]) ⟨[], [], rfl, ⟨rfl, v1, ?_, rp1.mono st2.ext⟩, sl.at_rep b.ge⟩
    rw [List.getElem?_append_right (by simp)]
    simp

/-! ### calls -/
theorem XG.gl {X : Cx} (g : XG C X) {x : Str} (h : C.sc.names.lookup x = some .globalImplicit) : Gl X x := by
  show X.env.scope.names.lookup x = _
  rw [g.sc]; exact h
theorem XG.fnok {X : Cx} (g : XG C X) {k : Nat} {f : Addr} {fd : FuncData} {ps : List Str} {sp : Sp} (F : FnG C.T.P C.T.w C.T.K C.T.mg C.T.base k f fd ps sp) : FnG X.prog X.w X.K X.mg X.base k f fd ps sp := by
  rw [g.prog, g.w, g.K, g.mg, g.base]; exact F
/-- a def that has no world of its own -/
def EJ.call {x : Str} {k : Nat} {ps : List Str} {e : Expr} {es : List Expr} {G0 : Ctx} {r : SE} {p' : Nat} {f : ST [] → ST G0 → R r.T} {pos p : Pos} (F : Fn C.T k x ps (spF R C.T.K ps.length p' [] G0 r f)) (A : AJ M C G 0 (e :: es) G0) (hk : k ≤ C.k := by first | decide | exact of_decide_eq_true rfl) (hn : (e :: es).length = ps.length := by rfl)
    (hg : C.sc.names.lookup x = some .globalImplicit := by rfl) (hd : (x == ("__debug__" : Str)) = false := by first | decide | exact of_decide_eq_true rfl)
    (he : ∀ env, starEach (e :: es) env = (false, eval e env) :: starEach es env := by intro _; rfl) (hpl : ∀ env, (backTo pos (starEach es env)).any (·.1) = false := by intro _; rfl) : EJ M C G (.Call (.Name x p) (e :: es) [] pos) r where
  den s := A.den s >>= fun a => Eff.lift (f () a)
  ok X Wx g tk := by
    obtain ⟨fa, fd, h1, h2, h3, h4⟩ := F.ex
    refine PE.imp (pe_callG (g.fnok h3) (g.room.mono hk) (g.gl hg) (by rw [g.mg]; exact h1) (by rw [g.K]; exact h2) (by rw [g.K]; exact h4) .nil (passG tk) (A.ok X Wx g tk) hd (he _) (hpl _)) fun σ H Q q => ?_
    obtain ⟨s, w, S, Ow, O, x, k⟩ := q
    refine ⟨s, w, S, Ow, O, x, ?_⟩
    cases e2 : Eff.run (A.den s) w with
    | mk o w1 =>
      cases o with
      | ok a =>
        rw [run_ok _ e2, Eff.run_lift] at k
        intro vs H1 S1 st1 hw1 hl sl
        rw [List.append_nil]
        refine ⟨hl.trans hn, (), a, (), S1, [], [], ⟨st1.sub, fun a ha => (by simp at ha), by simp, rfl, rfl, by simpa using sl, by simpa using hl.trans hn⟩, ?_⟩
        have wsm : ∀ {H' S' O1}, ESt H1 S1 [] O1 H' S' → Eff.ws w1 (σ[C.p]?.join) H' Ow := fun st => Eff.ws_mono hw1 fun b hb => by
          obtain ⟨ob, e⟩ := Eff.ws_there hw1 b hb
          rw [e]; exact st.fr b ob (by simp) e
        show PostE R _ _ _ _ _ _ _ _ _ (f () a, ())
        cases e3 : f () a with
        | ok y =>
          rw [e3] at k
          exact fun v H' S' O1 st hw se => k v H' S' O1 (st1.trans st.wide) (wsm st) se
        | er y =>
          rw [e3] at k
          exact fun cls d H' S' st hw er => k cls d H' S' (st1.trans st.wide) (wsm st) er
        | bad => rw [e3] at k; exact k
      | er b =>
        rw [run_er _ e2] at k
        exact k
      | bad => rw [run_bad' _ e2] at k; exact k
/-- .. that is total: f hands back what g says -/
def EP.call {x : Str} {k : Nat} {ps : List Str} {e : Expr} {es : List Expr} {G0 : Ctx} {t : TY} {p' : Nat} {f : ST [] → ST G0 → R t.A} {pos p : Pos} (F : Fn C.T k x ps (spF R C.T.K ps.length p' [] G0 (.sh t) f)) (g : ST G0 → t.A) (hf : ∀ a, f () a = .ok (g a)) (A : AP M C G 0 (e :: es) G0) (hk : k ≤ C.k := by first | decide | exact of_decide_eq_true rfl) (hn : (e :: es).length = ps.length := by rfl)
    (hg : C.sc.names.lookup x = some .globalImplicit := by rfl) (hd : (x == ("__debug__" : Str)) = false := by first | decide | exact of_decide_eq_true rfl)
    (he : ∀ env, starEach (e :: es) env = (false, eval e env) :: starEach es env := by intro _; rfl) (hpl : ∀ env, (backTo pos (starEach es env)).any (·.1) = false := by intro _; rfl) : EP M C G (.Call (.Name x p) (e :: es) [] pos) t where
  den s := g (A.den s)
  ok X gx := by
    have tk : Takes X (fun _ _ _ _ => False) := takes0
    refine PE.imp ((EJ.call (M := M) (pos := pos) (p := p) F A.toJ hk hn hg hd he hpl).ok X _ gx tk) fun σ H Q q => ?_
    obtain ⟨s, w, S, Ow, O, x, k⟩ := q
    refine ⟨s, w, S, Ow, O, x, ?_⟩
    have e1 : Eff.run ((EJ.call (M := M) (pos := pos) (p := p) F A.toJ hk hn hg hd he hpl).den s) w = (.ok (g (A.den s)), w) := by
      show Eff.run (pure (A.den s) >>= fun a => Eff.lift (A := t.A) (f () a)) w = _
      rw [run_ok _ (Eff.run_pure _ _), Eff.run_lift, hf]
    rw [e1]
    intro v H' S' O1 st hw se
    obtain ⟨e1, u, e2, rp⟩ := se
    cases e1; cases e2
    exact k v H' S' st hw rp
end
end Tp

set_option Elab.async false
set_option linter.all false
set_option maxRecDepth 100000
set_option maxHeartbeats 4000000
/-! Tp7: data: ==, in, sorted, repr; isinstance. -/
namespace Tp
open PySem PySem.Spec L2
open PyProof.Rows hiding St

/-! ### pure values that are data -/
mutual
def toD : PV → PyData
  | .non => .none
  | .bl b => .bool b
  | .int i => .int i
  | .str x => .str x
  | .lst xs => .list (toDs xs)
  | .tup xs => .tuple (toDs xs)
  | .ins _ _ => .none
  | .scr xs => .list (xs.map .int)
def toDs : List PV → List PyData
  | [] => []
  | x :: xs => toD x :: toDs xs
end
mutual
def isD : PV → Bool
  | .non | .bl _ | .int _ => true
  | .str x => PyData.strOk x
  | .lst xs => isDs xs
  | .tup xs => isDs xs
  | .ins _ _ => false
  | .scr _ => true
def isDs : List PV → Bool
  | [] => true
  | x :: xs => isD x && isDs xs
end
theorem toDs_map : ∀ xs : List PV, toDs xs = xs.map toD
  | [] => rfl
  | x :: xs => by rw [toDs, toDs_map xs]; rfl
theorem isDs_all : ∀ xs : List PV, isDs xs = xs.all isD
  | [] => rfl
  | x :: xs => by rw [isDs, isDs_all xs]; rfl
theorem canLay_ints : ∀ xs : List Int, PyData.canLayAll0 (xs.map .int) = true
  | [] => by simp [PyData.canLayAll0]
  | x :: xs => by
    show PyData.canLayAll0 (.int x :: xs.map .int) = true
    rw [PyData.canLayAll0, canLay_ints xs]
    simp [PyData.canLay0]
mutual
theorem toD_lay : ∀ x : PV, isD x = true → (toD x).canLay0 = true
  | .non, _ => by simp [toD, PyData.canLay0]
  | .bl _, _ => by simp [toD, PyData.canLay0]
  | .int _, _ => by simp [toD, PyData.canLay0]
  | .str x, h => by simpa [toD, PyData.canLay0, isD] using h
  | .lst xs, h => by simpa [toD, PyData.canLay0] using toDs_lay xs (by simpa [isD] using h)
  | .tup xs, h => by simpa [toD, PyData.canLay0] using toDs_lay xs (by simpa [isD] using h)
  | .ins _ _, h => by simp [isD] at h
  | .scr xs, _ => by simp [toD, PyData.canLay0, canLay_ints]
theorem toDs_lay : ∀ xs : List PV, isDs xs = true → PyData.canLayAll0 (toDs xs) = true
  | [], _ => by simp [toDs, PyData.canLayAll0]
  | x :: xs, h => by
    rw [isDs, Bool.and_eq_true] at h
    rw [toDs, PyData.canLayAll0, toD_lay x h.1, toDs_lay xs h.2]
    rfl
end
section
variable {K : PySem.W.Frag} {S H : Hp}
theorem sqT_of {a : Addr} {vs : List V} (sub : ∀ a o, S a = some o → H a = some o) (h : SqT K S a vs) : SqT K H a vs := ext_seqT sub h
theorem dp_ints : ∀ xs : List Int, DpAll K H (xs.map V.int) (xs.map PyData.int)
  | [] => .nil
  | x :: xs => .cons (.int x) (dp_ints xs)
mutual
theorem rep_dp (sub : ∀ a o, S a = some o → H a = some o) : ∀ (x : PV) (v : V), isD x = true → Rep K S x v → Dp K H v (toD x)
  | .non, v, _, h => by cases h; exact .non
  | .bl _, v, _, h => by cases h; exact .bl _
  | .int _, v, _, h => by cases h; exact .int _
  | .str _, v, _, h => by cases h; exact .str _
  | .lst xs, v, d, h => by
    obtain ⟨a, vs, rfl, e, r⟩ := h
    exact .lst (.inl (.inl (sub _ _ e))) (reps_dp sub xs vs (by simpa [isD] using d) r)
  | .tup xs, v, d, h => by
    obtain ⟨a, vs, rfl, e, r⟩ := h
    exact .tup (sqT_of sub e) (reps_dp sub xs vs (by simpa [isD] using d) r)
  | .ins _ _, v, d, _ => by simp [isD] at d
  | .scr xs, v, _, h => by
    obtain ⟨a, rfl, e⟩ := h
    exact .lst (Same.seq sub e) (dp_ints xs)
theorem reps_dp (sub : ∀ a o, S a = some o → H a = some o) : ∀ (xs : List PV) (vs : List V), isDs xs = true → RepL K S xs vs → DpAll K H vs (toDs xs)
  | [], vs, _, h => by cases h; exact .nil
  | x :: xs, vs, d, h => by
    obtain ⟨v, r, rfl, h1, h2⟩ := h
    rw [isDs, Bool.and_eq_true] at d
    exact .cons (rep_dp sub x v d.1 h1) (reps_dp sub xs r d.2 h2)
end
end

/-! ### types of data: equal just where Python says so -/
structure EqT (t : TY) where
  eq : DecidableEq t.A
  dep : Nat
  isd : ∀ x, isD (t.enc x) = true
  dle : ∀ x, (toD (t.enc x)).depth ≤ dep
  eqv : ∀ x y, PyData.eqv (toD (t.enc x)) (toD (t.enc y)) = (eq x y).decide
def EqT.int : EqT TY.int where
  eq := inferInstance
  dep := 0
  isd _ := rfl
  dle x := by simp [toD, PyData.depth]
  eqv x y := by simp only [toD, PyData.eqv]; exact Bool.beq_eq_decide_eq x y
def EqT.bool : EqT TY.bool where
  eq := inferInstance
  dep := 0
  isd _ := rfl
  dle x := by simp [toD, PyData.depth]
  eqv x y := by simp only [toD, PyData.eqv]; cases x <;> cases y <;> rfl
theorem eqvAll_list {t : TY} (q : EqT t) : ∀ xs ys : List t.A, PyData.eqvAll (toDs (xs.map t.enc)) (toDs (ys.map t.enc)) = ((@instDecidableEqList _ q.eq) xs ys).decide
  | [], [] => by simp [toDs, PyData.eqvAll]
  | [], y :: ys => by simp [toDs, PyData.eqvAll]
  | x :: xs, [] => by simp [toDs, PyData.eqvAll]
  | x :: xs, y :: ys => by
    have ih := eqvAll_list q xs ys
    simp only [List.map_cons, toDs, PyData.eqvAll, q.eqv, ih]
    letI := q.eq
    by_cases h1 : x = y
    · by_cases h2 : xs = ys <;> simp [h1, h2]
    · simp [h1]
theorem isD_list {t : TY} (q : EqT t) : ∀ xs : List t.A, isDs (xs.map t.enc) = true
  | [] => rfl
  | x :: xs => by rw [List.map_cons, isDs, q.isd, isD_list q xs]; rfl
theorem dep_list {t : TY} (q : EqT t) : ∀ xs : List t.A, PyData.depthAll (toDs (xs.map t.enc)) ≤ q.dep
  | [] => by simp [toDs, PyData.depthAll]
  | x :: xs => by
    have h1 := q.dle x
    have h2 := dep_list q xs
    simp only [List.map_cons, toDs, PyData.depthAll]
    omega
def EqT.list {t : TY} (q : EqT t) : EqT (TY.list t) where
  eq := @instDecidableEqList _ q.eq
  dep := q.dep + 1
  isd x := by simpa [isD] using isD_list q x
  dle x := by have := dep_list q x; simp only [toD, PyData.depth]; omega
  eqv x y := by simp only [toD, PyData.eqv]; exact eqvAll_list q x y
def EqT.tupl {t : TY} (q : EqT t) : EqT (TY.tupl t) where
  eq := @instDecidableEqList _ q.eq
  dep := q.dep + 1
  isd x := by simpa [isD] using isD_list q x
  dle x := by have := dep_list q x; simp only [toD, PyData.depth]; omega
  eqv x y := by simp only [toD, PyData.eqv]; exact eqvAll_list q x y
def EqT.tup2 {a b : TY} (p : EqT a) (q : EqT b) : EqT (TY.tup2 a b) where
  eq := @instDecidableEqProd _ _ p.eq q.eq
  dep := max p.dep q.dep + 1
  isd x := by simp [isD, isDs, p.isd, q.isd]
  dle x := by
    have h1 := p.dle x.1
    have h2 := q.dle x.2
    simp only [toD, toDs, PyData.depth, PyData.depthAll]; omega
  eqv x y := by
    simp only [toD, toDs, PyData.eqv, PyData.eqvAll, p.eqv, q.eqv]
    letI := p.eq; letI := q.eq
    obtain ⟨x1, x2⟩ := x; obtain ⟨y1, y2⟩ := y
    by_cases h1 : x1 = y1
    · by_cases h2 : x2 = y2 <;> simp [h1, h2]
    · simp [h1]
def EqT.tup3 {a b c : TY} (p : EqT a) (q : EqT b) (r : EqT c) : EqT (TY.tup3 a b c) where
  eq := @instDecidableEqProd _ _ p.eq (@instDecidableEqProd _ _ q.eq r.eq)
  dep := max p.dep (max q.dep r.dep) + 1
  isd x := by simp [isD, isDs, p.isd, q.isd, r.isd]
  dle x := by
    have h1 := p.dle x.1
    have h2 := q.dle x.2.1
    have h3 := r.dle x.2.2
    simp only [toD, toDs, PyData.depth, PyData.depthAll]; omega
  eqv x y := by
    simp only [toD, toDs, PyData.eqv, PyData.eqvAll, p.eqv, q.eqv, r.eqv]
    letI := p.eq; letI := q.eq; letI := r.eq
    obtain ⟨x1, x2, x3⟩ := x; obtain ⟨y1, y2, y3⟩ := y
    by_cases h1 : x1 = y1
    · by_cases h2 : x2 = y2
      · by_cases h3 : x3 = y3 <;> simp [h1, h2, h3]
      · simp [h1, h2]
    · simp [h1]
abbrev EqT.b {t : TY} (q : EqT t) (x y : t.A) : Bool := (q.eq x y).decide

section
variable {C : Cf}
theorem cm2_eq {t : TY} (q : EqT t) (hd : q.dep ≤ 64 := by first | decide | exact of_decide_eq_true rfl) : Cm2 C .Eq t t (fun x y => q.b x y) := fun X g => OpR.imp (op_eqD g.room.r.units) fun x y H Q h => by
  obtain ⟨i, j, S, sub, r1, r2, k⟩ := h
  rw [g.K]
  refine ⟨toD (t.enc i), toD (t.enc j), rep_dp sub _ _ (q.isd i) r1, rep_dp sub _ _ (q.isd j) r2, ?_, ?_, by rw [q.eqv]; exact k⟩
  · simp [SeqAt.shaped, toD_lay _ (q.isd i), Nat.le_trans (q.dle i) hd]
  · simp [SeqAt.shaped, toD_lay _ (q.isd j), Nat.le_trans (q.dle j) hd]
theorem cm2_ne {t : TY} (q : EqT t) (hd : q.dep ≤ 64 := by first | decide | exact of_decide_eq_true rfl) : Cm2 C .NotEq t t (fun x y => !q.b x y) := fun X g => OpR.imp (op_neD g.room.r.units) fun x y H Q h => by
  obtain ⟨i, j, S, sub, r1, r2, k⟩ := h
  rw [g.K]
  refine ⟨toD (t.enc i), toD (t.enc j), rep_dp sub _ _ (q.isd i) r1, rep_dp sub _ _ (q.isd j) r2, ?_, ?_, by rw [q.eqv]; exact k⟩
  · simp [SeqAt.shaped, toD_lay _ (q.isd i), Nat.le_trans (q.dle i) hd]
  · simp [SeqAt.shaped, toD_lay _ (q.isd j), Nat.le_trans (q.dle j) hd]
/-- x in xs -/
def EqT.mem {t : TY} (q : EqT t) (x : t.A) (xs : List t.A) : Bool := xs.any fun y => q.b y x
theorem any_toDs {t : TY} (q : EqT t) (x : t.A) : ∀ xs : List t.A, ((toDs (xs.map t.enc)).any fun y => PyData.eqv y (toD (t.enc x))) = q.mem x xs
  | [] => rfl
  | y :: xs => by
    have ih := any_toDs q x xs
    unfold EqT.mem at ih ⊢
    rw [List.map_cons, toDs, List.any_cons, List.any_cons, ih, q.eqv]
theorem in_room {X : Cx} (g : XG C X) (a b : Nat) (h : b ≤ 62) : X.A.units + 1 + min a b < cLine := by
  have h1 := g.room.r.units
  have h2 : min a b ≤ b := Nat.min_le_right _ _
  omega
/-- an operator whose right side is a list that can be read, wherever it stands -/
def In2 (C : Cf) (op : CmpOp) (a b : TY) (f : a.A → List b.A → Bool) : Prop := ∀ X, XG C X → OpR X (compareOp op) fun x y H Q => ∃ i js S l vs, (∀ a o, S a = some o → H a = some o) ∧ Rep C.T.K S (a.enc i) x ∧ y = .ref l ∧ (SqL C.T.K H l vs ∨ SqT C.T.K H l vs) ∧ RepL C.T.K S (js.map b.enc) vs ∧ Q (.bl (f i js)) H
theorem in2_in {t : TY} (q : EqT t) (hd : q.dep ≤ 62 := by first | decide | exact of_decide_eq_true rfl) : In2 C .In t t (fun x xs => q.mem x xs) := fun X g => by
  intro pins s σ H x y v u Q I rx ry h
  obtain ⟨i, js, S, l, vs, sub, r1, rfl, r2, r3, k⟩ := h
  rw [← g.K] at r1 r2 r3
  obtain ⟨as, h1⟩ := Dp.reads I _ x v (rep_dp sub _ _ (q.isd i) r1) rx
  have hu := in_room g (PyData.depthAll (toDs (js.map t.enc))) (toD (t.enc i)).depth (Nat.le_trans (q.dle i) hd)
  rcases r2 with r2 | r2
  · obtain ⟨bs, h2⟩ := Dp.reads I (.list (toDs (js.map t.enc))) (.ref l) u (.lst r2 (reps_dp sub _ _ (isD_list q js) r3)) ry
    exact SeqAt.in_list_reads h2 h1 (toDs_lay _ (isD_list q js)) (toD_lay _ (q.isd i)) hu ⟨.bl _, H, I, rfl, by rw [any_toDs]; exact k⟩
  · obtain ⟨bs, h2⟩ := Dp.reads I (.tuple (toDs (js.map t.enc))) (.ref l) u (.tup r2 (reps_dp sub _ _ (isD_list q js) r3)) ry
    exact SeqAt.in_tuple_reads h2 h1 (toDs_lay _ (isD_list q js)) (toD_lay _ (q.isd i)) hu ⟨.bl _, H, I, rfl, by rw [any_toDs]; exact k⟩
theorem in2_notIn {t : TY} (q : EqT t) (hd : q.dep ≤ 62 := by first | decide | exact of_decide_eq_true rfl) : In2 C .NotIn t t (fun x xs => !q.mem x xs) := fun X g => by
  intro pins s σ H x y v u Q I rx ry h
  obtain ⟨i, js, S, l, vs, sub, r1, rfl, r2, r3, k⟩ := h
  rw [← g.K] at r1 r2 r3
  obtain ⟨as, h1⟩ := Dp.reads I _ x v (rep_dp sub _ _ (q.isd i) r1) rx
  have hu := in_room g (PyData.depthAll (toDs (js.map t.enc))) (toD (t.enc i)).depth (Nat.le_trans (q.dle i) hd)
  rcases r2 with r2 | r2
  · obtain ⟨bs, h2⟩ := Dp.reads I (.list (toDs (js.map t.enc))) (.ref l) u (.lst r2 (reps_dp sub _ _ (isD_list q js) r3)) ry
    exact SeqAt.notIn_list_reads h2 h1 (toDs_lay _ (isD_list q js)) (toD_lay _ (q.isd i)) hu ⟨.bl _, H, I, rfl, by rw [any_toDs]; exact k⟩
  · obtain ⟨bs, h2⟩ := Dp.reads I (.tuple (toDs (js.map t.enc))) (.ref l) u (.tup r2 (reps_dp sub _ _ (isD_list q js) r3)) ry
    exact SeqAt.notIn_tuple_reads h2 h1 (toDs_lay _ (isD_list q js)) (toD_lay _ (q.isd i)) hu ⟨.bl _, H, I, rfl, by rw [any_toDs]; exact k⟩
end
end Tp

set_option Elab.async false
set_option linter.all false
set_option maxRecDepth 100000
set_option maxHeartbeats 4000000
/-! Tp8: sorted, repr, isinstance at the values. -/
namespace Tp
open PySem PySem.Spec L2
open PyProof.Rows hiding St

structure SortT (t : TY) where
  q : EqT t
  le : t.A → t.A → Bool
  hle : PySem.W.dataLe false (fun b : t.A => toD (t.enc b)) = le
  al : ∀ x y, PySem.W.alike (toD (t.enc x)) (toD (t.enc y)) = true
  so : (∀ x, ∃ y r, toD (t.enc x) = .tuple (y :: r)) ∨ (∀ x, toD (t.enc x) ≠ .none ∧ ∀ xs, toD (t.enc x) ≠ .tuple xs)
def SortT.int : SortT TY.int where
  q := .int
  le a b := decide (a ≤ b)
  hle := PySem.W.dataLe_int (fun b : Int => b)
  al x y := by simp [toD, PySem.W.alike]
  so := .inr fun x => ⟨(by simp [toD]), fun _ => by simp [toD]⟩
def SortT.ii : SortT (TY.tup2 TY.int TY.int) where
  q := .tup2 .int .int
  le a b := decide (a.1 < b.1 ∨ (a.1 = b.1 ∧ a.2 ≤ b.2))
  hle := PySem.W.dataLe_ii (fun b : Int × Int => b.1) (fun b => b.2)
  al x y := by simp [toD, toDs, PySem.W.alike, PySem.W.alikeAll]
  so := .inl fun x => ⟨_, _, rfl⟩
theorem toDs_ints : ∀ xs : List Int, toDs (xs.map PV.int) = xs.map PyData.int
  | [] => rfl
  | x :: xs => by rw [List.map_cons, toDs, toDs_ints xs]; rfl
def SortT.rows : SortT (TY.list TY.int) where
  q := .list .int
  le a b := decide (a ≤ b)
  hle := by
    have h := PySem.W.dataLe_rows (fun b : List Int => b)
    rw [← h]
    congr 1
    funext b
    simp [toD, toDs_ints]
  al x y := by
    show PySem.W.alike (.list (toDs (x.map PV.int))) (.list (toDs (y.map PV.int))) = true
    rw [toDs_ints, toDs_ints, PySem.W.alike, PySem.W.alike_ints]
  so := .inr fun x => ⟨(by simp [toD]), fun _ => by simp [toD]⟩

section
variable {X : Cx} {t : TY}
theorem each_reps {S H : Hp} {σ : St} {pins : List (Addr × Obj)} {s : Shared} (q : EqT t) (I : Inv X pins σ H s) (sub : ∀ a o, S a = some o → H a = some o) : ∀ {js : List t.A} {vs : List V} {us : List Value}, RepL X.K S (js.map t.enc) vs → Vals vs us →
    PySem.W.EachIs (fun u b => ∃ x, RelV x u ∧ Rep X.K S (t.enc b) x) us js ∧ PySem.W.EachIs (fun u b => ∃ as, Reads s.heap u (toD (t.enc b)) as) us js
  | [], vs, us, h, r => by
    cases h; cases r
    exact ⟨.nil, .nil⟩
  | j :: js, vs, us, h, r => by
    obtain ⟨v, vr, rfl, h1, h2⟩ := h
    cases r with
    | cons r1 r2 =>
      obtain ⟨a, b⟩ := each_reps q I sub h2 r2
      obtain ⟨as, rd⟩ := Dp.reads I _ v _ (rep_dp sub _ _ (q.isd j) h1) r1
      exact ⟨.cons ⟨v, r1, h1⟩ a, .cons ⟨as, rd⟩ b⟩
theorem each_out {S : Hp} : ∀ {js : List t.A} {us : List Value}, PySem.W.EachIs (fun u b => ∃ x, RelV x u ∧ Rep X.K S (t.enc b) x) us js → ∃ vs, Vals vs us ∧ RepL X.K S (js.map t.enc) vs
  | _, _, .nil => ⟨[], .nil, rfl⟩
  | _, _, .cons ⟨x, r, h⟩ e => by
    obtain ⟨vs, a, b⟩ := each_out e
    exact ⟨x :: vs, .cons r a, x, vs, rfl, h, b⟩
/-- sorted(xs), a list of alike data -/
theorem call_sorted (z : SortT t) (hu : X.A.units + 64 < cLine) (hd : z.q.dep ≤ 60) : CallR X (.builtin "sorted") (fun xs H Q => ∃ a vs, ∃ (js : List t.A), ∃ S, xs = [.ref a] ∧ (∀ a o, S a = some o → H a = some o) ∧ SqL X.K H a vs ∧ RepL X.K S (js.map t.enc) vs ∧
    ∀ p ws, H p = none → RepL X.K S ((js.mergeSort z.le).map t.enc) ws → Q (.ref p) (upd H p (.lst ws))) := by
  intro pins s σ H xs us Q I r h
  obtain ⟨a, vs, js, S, rfl, sub, hs, hr, q⟩ := h
  obtain ⟨its, rv, hl, hz⟩ := I.list hs
  rw [Vals.ref1 r]
  obtain ⟨e1, e2⟩ := each_reps z.q I sub hr rv
  have hlen := hr.len
  rw [List.length_map] at hlen
  refine PySem.W.sorted_data (enc := fun b => toD (t.enc b)) hl.isList e1 e2 (PySem.W.AllAlike.of z.al) ?_ (by omega) (fun b _ => by have := z.q.dle b; omega) fun out h1 h2 => ?_
  · rcases z.so with h | h
    · exact PySem.W.Sortable.tuples h
    · exact PySem.W.Sortable.others h
  rw [z.hle] at h2
  obtain ⟨ws, w1, w2⟩ := each_out h2
  obtain ⟨ep, he'⟩ := PyProof.Rows.sortedAll_at s.heap its out.toArray
  have hwl : ws.length ≤ sizeLine := by rw [w2.len, List.length_map, List.length_mergeSort]; omega
  exact ⟨.ref _, upd H (s.heap.objs.size + 1) (.lst ws), I.laid (t' := s.toks) (fun _ _ => PyProof.Rows.sortedAll_old) (Nat.le_succ _) ⟨hwl, out, ep, w1, by simpa using he'⟩, rfl, q _ ws (I.hok.fresh (Nat.le_succ _)) w2⟩
/-- repr of data -/
def shows (x : PV) : Str := PyData.shown (toD x)
theorem call_repr (hg : X.A.guards = some []) (hu : X.A.units + 64 < cLine) : CallR X (.builtin "repr") (fun xs H Q => ∃ v x S, xs = [v] ∧ (∀ a o, S a = some o → H a = some o) ∧ Rep X.K S x v ∧ isD x = true ∧ isDisplay (toD x) = true ∧ PyData.showable (toD x) = true ∧ (toD x).depth ≤ 60 ∧ (shows x).length ≤ sizeLine ∧ Q (.str (shows x)) H) := by
  intro pins s σ H xs us Q I r h
  obtain ⟨v, x, S, rfl, sub, rp, hd, hy, hs, hdep, hz, q⟩ := h
  obtain ⟨u, rfl, rx⟩ := vals1 r
  obtain ⟨as, rd⟩ := Dp.reads I _ v u (rep_dp sub _ _ hd rp) rx
  obtain ⟨a, rfl⟩ := isRef_of_reads rd hy
  exact repr_of_reads' rd hs (PyData.noDict_hsm (PyData.hasDict_of_canLay _ (toD_lay x hd))) hg (by omega) (fun _ _ e => e) (fun h' u tk hk => ⟨.str _, H, I.kept hk, ⟨_, rfl⟩, q⟩) hz
end
end Tp

set_option Elab.async false
set_option linter.all false
set_option maxRecDepth 100000
set_option maxHeartbeats 4000000
/-! Tp9: what a state knows besides; cells shared; cells read as if shared; totals out of partials. -/
namespace Tp
open PySem PySem.Spec L2
open PyProof.Rows hiding St

/-! ### what the walk knows of the lists: their lengths -/
def Knows (X : Cx) (H : Hp) : Prop := ∀ a vs, SqL X.K H a vs ∨ SqT X.K H a vs → vs.length ≤ sizeLine
theorem knows_of {X : Cx} {pins : List (Addr × Obj)} {σ : St} {H : Hp} {s : Shared} (I : Inv X pins σ H s) : Knows X H := fun a vs h => by
  rcases h with h | h
  · obtain ⟨its, r, _, hz⟩ := I.list h
    have := r.length
    omega
  · obtain ⟨its, r, _, hz⟩ := I.tuple h
    have := r.length
    omega
theorem PE.inv {X : Cx} {e : Expr} {t : TE} (h : PE X e t) : PE X e (fun σ H Q => t σ H fun v H' => Knows X H' → Q v H') :=
  ⟨fun pins s σ H Q I q => thn (h.run pins s σ H _ I q) fun u s1 ⟨x, H1, I1, r1, q1⟩ => ⟨x, H1, I1, r1, q1 (knows_of I1)⟩⟩
theorem PE.inv0 {X : Cx} {e : Expr} {t : TE} (h : PE X e t) : PE X e (fun σ H Q => Knows X H → t σ H Q) :=
  ⟨fun pins s σ H Q I q => h.run pins s σ H Q I (q (knows_of I))⟩
theorem PI.inv {X : Cx} {tg e : Expr} {w : TI} (h : PI X tg e w) : PI X tg e (fun σ H R => w σ H fun J H' => Knows X H' → R J H') :=
  ⟨fun pins s σ H R I q => wpAny_mono (h.run pins s σ H _ I q) (fun v s1 h1 => wpAny_mono h1 (fun itv s2 ⟨it, fp, tn, J, H2, e, I2, T, st, f, r⟩ => ⟨it, fp, tn, J, H2, e, I2, T, st, f, r (knows_of I2)⟩) fun _ _ z => z) fun _ _ z => z⟩
theorem PI.imp {X : Cx} {tg e : Expr} {w w' : TI} (h : PI X tg e w) (k : ∀ σ H R, w' σ H R → w σ H R) : PI X tg e w' :=
  ⟨fun pins s σ H R I q => h.run pins s σ H R I (k σ H R q)⟩

section
variable {M : Type → Type} [Eff M] {C : Cf} {G : Ctx}
/-- a partial one that never fails -/
def EP.ofJ {e : Expr} {t : TY} (j : EJ M C G e (.sh t)) (f : ST G → t.A) (h : ∀ s w, Eff.run (j.den s) w = (.ok (f s), w)) : EP M C G e t where
  den := f
  ok X g := by
    have tk : Takes X (fun _ _ _ _ => False) := takes0
    refine PE.imp (j.ok X _ g tk) fun σ H Q q => ?_
    obtain ⟨s, w, S, Ow, O, x, k⟩ := q
    refine ⟨s, w, S, Ow, O, x, ?_⟩
    rw [h s w]
    intro v H' S' O1 st hw se
    obtain ⟨e1, u, e2, rp⟩ := se
    cases e1; cases e2
    exact k v H' S' st hw rp
def TP.ofJ {e : Expr} (j : TJ M C G e) (f : ST G → Bool) (h : ∀ s w, Eff.run (j.den s) w = (.ok (f s), w)) : TP M C G e where
  den := f
  ok X g := by
    have tk : Takes X (fun _ _ _ _ => False) := takes0
    refine PT.imp (j.ok X _ g tk) fun σ H Q q => ?_
    obtain ⟨s, w, S, Ow, O, x, k⟩ := q
    refine ⟨s, w, S, Ow, O, x, ?_⟩
    rw [h s w]
    exact k
end

/-! ### cells given to all -/
/-- S with the cells of O as they stand in H -/
def own (S H : Hp) (O : List Addr) : Hp := fun b => if b ∈ O then H b else S b
theorem own_in {S H : Hp} {O : List Addr} {b : Addr} (h : b ∈ O) : own S H O b = H b := if_pos h
theorem own_out {S H : Hp} {O : List Addr} {b : Addr} (h : b ∉ O) : own S H O b = S b := if_neg h
theorem own_ext {S H : Hp} {O : List Addr} (h : ∀ a ∈ O, S a = none) : Ext S (own S H O) := fun b o e => by
  by_cases hb : b ∈ O
  · rw [h b hb] at e; cases e
  · rw [own_out hb]; exact e
theorem own_sub {S H : Hp} {O : List Addr} (h : ∀ a o, S a = some o → H a = some o) : ∀ a o, own S H O a = some o → H a = some o := fun b o e => by
  by_cases hb : b ∈ O
  · rw [own_in hb] at e; exact e
  · rw [own_out hb] at e; exact h b o e
theorem ESt.share {H S H' S' : Hp} {Ow O1 : List Addr} (st : ESt H S Ow O1 H' S') : ESt H S Ow [] H' (own S' H' O1) where
  ext := st.ext.trans (own_ext fun a ha => (st.o1 a ha).2)
  fr := st.fr
  th := st.th
  new := fun a o e => by
    by_cases hb : a ∈ O1
    · exact .inr (st.o1 a hb).1
    · rw [own_out hb] at e; exact st.new a o e
  sub := own_sub st.sub
  o1 := fun _ h => (nomatch h)
  n1 := .nil
theorem Rows.share {K : PySem.W.Frag} {S H : Hp} {O : List Addr} (h : ∀ a ∈ O, S a = none) : ∀ {xs : List (List PV)} {bs : List Addr}, Rows K S H xs bs → (∀ b ∈ bs, b ∈ O) → RepL K (own S H O) (xs.map .lst) (bs.map V.ref)
  | [], _, e, _ => by cases e; rfl
  | x :: xs, bs, e, k => by
    obtain ⟨b, r, vs, e1, e2, e3, e4⟩ := e
    subst e1
    refine ⟨.ref b, r.map V.ref, rfl, ⟨b, vs, rfl, ?_, e3.mono (own_ext h)⟩, Rows.share h e4 fun c hc => k c (by simp [hc])⟩
    rw [own_in (k b (by simp))]
    exact e2
section
variable {M : Type → Type} [Eff M] {C : Cf} {G : Ctx}
theorem share_imp {t : TY} {d : ST G → M (SE.o1 t).T} {Wx : WX} {σ : St} {H : Hp} {Q : VK} (q : tE M C.T.K C.p G (.sh (.list t)) d Wx σ H Q) : tE M C.T.K C.p G (SE.o1 t) d Wx σ H Q := by
  obtain ⟨s, w, S, Ow, O, x, k⟩ := q
  refine ⟨s, w, S, Ow, O, x, ?_⟩
  cases e : Eff.run (d s) w with
  | mk o w' =>
    rw [e] at k
    cases o with
    | ok b =>
      intro v H' S' O1 st hw se
      obtain ⟨l, vs, e1, e2, e3, e4⟩ := se
      subst e1; cases e2
      refine k _ H' _ [] st.share hw ⟨rfl, _, rfl, l, vs, rfl, ?_, e4.mono (own_ext fun a ha => (st.o1 a ha).2)⟩
      rw [own_in (by simp)]
      exact e3
    | er b => exact k
    | bad => exact k
def EJ.share {e : Expr} {t : TY} (a : EJ M C G e (.o1 t)) : EJ M C G e (.sh (.list t)) where
  den := a.den
  ok X Wx g tk := PE.imp (a.ok X Wx g tk) fun σ H Q q => share_imp q
theorem share2_imp {t : TY} {d : ST G → M (SE.o2 t).T} {Wx : WX} {σ : St} {H : Hp} {Q : VK} (q : tE M C.T.K C.p G (.sh (.list (.list t))) d Wx σ H Q) : tE M C.T.K C.p G (SE.o2 t) d Wx σ H Q := by
  obtain ⟨s, w, S, Ow, O, x, k⟩ := q
  refine ⟨s, w, S, Ow, O, x, ?_⟩
  cases e : Eff.run (d s) w with
  | mk o w' =>
    rw [e] at k
    cases o with
    | ok b =>
      intro v H' S' O1 st hw se
      obtain ⟨l, bs, e1, e2, e3, e4⟩ := se
      subst e1; cases e2
      have h1 := Rows.share (O := l :: bs) (fun a ha => (st.o1 a ha).2) e4 (fun b hb => by simp [hb])
      rw [List.map_map] at h1
      refine k _ H' _ [] st.share hw ⟨rfl, _, rfl, l, bs.map V.ref, rfl, ?_, h1⟩
      rw [own_in (by simp)]
      exact e3
    | er b => exact k
    | bad => exact k
def EJ.share2 {e : Expr} {t : TY} (a : EJ M C G e (.o2 t)) : EJ M C G e (.sh (.list (.list t))) where
  den := a.den
  ok X Wx g tk := PE.imp (a.ok X Wx g tk) fun σ H Q q => share2_imp q
end

/-! ### values that hold no list -/
mutual
def PV.flat : PV → Bool
  | .non | .bl _ | .int _ | .str _ => true
  | .tup xs => PV.flats xs
  | _ => false
def PV.flats : List PV → Bool
  | [] => true
  | x :: xs => PV.flat x && PV.flats xs
end
/-- the tuples of S are tuples of S' -/
def TupIn (S S' : Hp) : Prop := ∀ a o, (∀ vs, o ≠ .lst vs) → S a = some o → S' a = some o
section
variable {K : PySem.W.Frag} {S S' : Hp}
theorem seqT_in (h : TupIn S S') {a : Addr} {vs : List V} (q : SqT K S a vs) : SqT K S' a vs := by
  rcases q with (q | ⟨o, q⟩) | q
  · exact .inl (.inl (h _ _ (fun _ e => nomatch e) q))
  · exact .inl (.inr ⟨o, h _ _ (fun _ e => nomatch e) q⟩)
  · exact .inr q
mutual
theorem Rep.flat (h : TupIn S S') : ∀ {x : PV} {v : V}, x.flat = true → Rep K S x v → Rep K S' x v
  | .non, _, _, r => r
  | .bl _, _, _, r => r
  | .int _, _, _, r => r
  | .str _, _, _, r => r
  | .tup xs, v, f, r => by
    obtain ⟨a, vs, e1, e2, e3⟩ := r
    exact ⟨a, vs, e1, seqT_in h e2, RepL.flat h (by simpa [PV.flat] using f) e3⟩
  | .lst _, _, f, _ => by simp [PV.flat] at f
  | .ins _ _, _, f, _ => by simp [PV.flat] at f
  | .scr _, _, f, _ => by simp [PV.flat] at f
theorem RepL.flat (h : TupIn S S') : ∀ {xs : List PV} {vs : List V}, PV.flats xs = true → RepL K S xs vs → RepL K S' xs vs
  | [], _, _, r => r
  | x :: xs, vs, f, r => by
    obtain ⟨v, r', e1, e2, e3⟩ := r
    rw [PV.flats, Bool.and_eq_true] at f
    exact ⟨v, r', e1, Rep.flat h f.1 e2, RepL.flat h f.2 e3⟩
end
end
class FlatT (t : TY) : Prop where
  h : ∀ x : t.A, (t.enc x).flat = true
instance : FlatT TY.int := ⟨fun _ => rfl⟩
instance : FlatT TY.bool := ⟨fun _ => rfl⟩
instance : FlatT TY.str := ⟨fun _ => rfl⟩
instance : FlatT TY.non := ⟨fun _ => rfl⟩
instance {a b : TY} [FlatT a] [FlatT b] : FlatT (TY.tup2 a b) := ⟨fun x => by simp [PV.flat, PV.flats, FlatT.h]⟩
instance {a b c : TY} [FlatT a] [FlatT b] [FlatT c] : FlatT (TY.tup3 a b c) := ⟨fun x => by simp [PV.flat, PV.flats, FlatT.h]⟩
theorem flats_map {t : TY} [FlatT t] : ∀ xs : List t.A, PV.flats (xs.map t.enc) = true
  | [] => rfl
  | x :: xs => by rw [List.map_cons, PV.flats, FlatT.h, flats_map xs]; rfl
instance {t : TY} [FlatT t] : FlatT (TY.tupl t) := ⟨fun x => by show PV.flat (.tup (x.map t.enc)) = true; rw [PV.flat]; exact flats_map x⟩
instance {t : TY} [FlatT t] : FlatT (TY.opt t) := ⟨fun x => by
  cases x with
  | none => rfl
  | some y => exact FlatT.h (t := t) y⟩
def SE.flat : SE → Prop
  | .sh t => FlatT t
  | .o1 t => FlatT t
  | .o2 t => FlatT t
  | _ => False
class FlatE (e : SE) : Prop where
  h : e.flat
instance {t : TY} [i : FlatT t] : FlatE (.sh t) := ⟨i⟩
instance {t : TY} [i : FlatT t] : FlatE (.o1 t) := ⟨i⟩
instance {t : TY} [i : FlatT t] : FlatE (.o2 t) := ⟨i⟩
theorem Rows.flat {K : PySem.W.Frag} {S S' H : Hp} (h : TupIn S S') {t : TY} [FlatT t] : ∀ {xs : List (List t.A)} {bs : List Addr}, Rows K S H (xs.map (·.map t.enc)) bs → Rows K S' H (xs.map (·.map t.enc)) bs
  | [], _, e => e
  | x :: xs, bs, e => by
    obtain ⟨b, r, vs, e1, e2, e3, e4⟩ := e
    exact ⟨b, r, vs, e1, e2, RepL.flat h (flats_map x) e3, Rows.flat h e4⟩
theorem SatE.flat {K : PySem.W.Frag} {S S' H : Hp} (h : TupIn S S') {e : SE} [f : FlatE e] {x : e.T} {v : Option V} {O : List Addr} (q : SatE K S H e x v O) : SatE K S' H e x v O := by
  have f' := f.h
  cases e with
  | un => exact q
  | sh t =>
    obtain ⟨e1, u, e2, r⟩ := q
    exact ⟨e1, u, e2, r.flat h ((show FlatT t from f').h x)⟩
  | o1 t =>
    haveI : FlatT t := f'
    obtain ⟨a, vs, e1, e2, e3, r⟩ := q
    exact ⟨a, vs, e1, e2, e3, r.flat h (flats_map x)⟩
  | o2 t =>
    haveI : FlatT t := f'
    obtain ⟨a, vs, e1, e2, e3, r⟩ := q
    exact ⟨a, vs, e1, e2, e3, r.flat h⟩
  | oi c fs => exact f'.elim
  | oj => exact f'.elim

/-! ### owned lists read as if they were shared -/
@[reducible] def fz1 : SE → SE
  | .o1 t => .sh (.list t)
  | .o2 t => .sh (.list (.list t))
  | e => e
def fzT : (e : SE) → e.T → (fz1 e).T
  | .un, x => x
  | .sh _, x => x
  | .o1 _, x => x
  | .o2 _, x => x
  | .oi _ _, x => x
  | .oj, x => x
@[reducible] def frz (l : List Nat) : Ctx → Ctx
  | [] => []
  | (j, e) :: r => (bif l.elem j then (j, fz1 e) else (j, e)) :: frz l r
def ST.frz (l : List Nat) : (G : Ctx) → ST G → ST (Tp.frz l G)
  | [], _ => ()
  | (j, e) :: r, s => by
    show ST ((bif l.elem j then (j, fz1 e) else (j, e)) :: Tp.frz l r)
    exact match l.elem j with
      | true => (fzT e s.1, ST.frz l r s.2)
      | false => (s.1, ST.frz l r s.2)
/-- the owned cells in O are lists -/
def AllL (H : Hp) (O : List Addr) : Prop := ∀ a ∈ O, ∃ vs, H a = some (.lst vs)
/-- only lists are frozen -/
theorem SatE.fzL {K : PySem.W.Frag} {S H : Hp} : ∀ {e : SE} {x : e.T} {v : Option V} {O : List Addr}, SatE K S H e x v O → (∀ a ∈ O, S a = none) → ∃ Of Or, O = Of ++ Or ∧ SatE K (own S H Of) H (fz1 e) (fzT e x) v Or ∧ AllL H Of
  | .un, _, _, O, h, _ => ⟨[], O, rfl, h, fun _ h => nomatch h⟩
  | .sh t, _, _, O, h, _ => ⟨[], O, rfl, SatE.mono (own_ext (O := []) fun a ha => (nomatch ha)) h fun _ _ => rfl, fun _ h => nomatch h⟩
  | .oi c fs, _, _, O, h, _ => ⟨[], O, rfl, SatE.mono (own_ext (O := []) fun a ha => (nomatch ha)) h fun _ _ => rfl, fun _ h => nomatch h⟩
  | .oj, _, _, O, h, _ => ⟨[], O, rfl, SatE.mono (own_ext (O := []) fun a ha => (nomatch ha)) h fun _ _ => rfl, fun _ h => nomatch h⟩
  | .o1 t, x, v, O, h, d => by
    obtain ⟨a, vs, e1, e2, e3, e4⟩ := h
    refine ⟨O, [], by simp, ⟨rfl, _, e2, a, vs, rfl, ?_, e4.mono (own_ext d)⟩, fun b hb => ?_⟩
    · rw [own_in (by simp [e1])]; exact e3
    · rw [e1] at hb; simp at hb; subst hb; exact ⟨_, e3⟩
  | .o2 t, x, v, O, h, d => by
    obtain ⟨a, bs, e1, e2, e3, e4⟩ := h
    have h1 := Rows.share (O := O) d e4 (fun b hb => by simp [e1, hb])
    rw [List.map_map] at h1
    refine ⟨O, [], by simp, ⟨rfl, _, e2, a, bs.map V.ref, rfl, ?_, h1⟩, fun b hb => ?_⟩
    · rw [own_in (by simp [e1])]; exact e3
    · rw [e1] at hb
      rcases List.mem_cons.mp hb with rfl | hb
      · exact ⟨_, e3⟩
      · exact Rows.there e4 b hb
theorem own_app {S H : Hp} {A B : List Addr} : own (own S H A) H B = own S H (A ++ B) := by
  funext b
  by_cases h1 : b ∈ B
  · rw [own_in h1, own_in (by simp [h1])]
  · rw [own_out h1]
    by_cases h2 : b ∈ A
    · rw [own_in h2, own_in (by simp [h2])]
    · rw [own_out h2, own_out (by simp [h1, h2])]
theorem SatL.fz {K : PySem.W.Frag} (l : List Nat) : ∀ {G : Ctx} {s : ST G} {σ : St} {S H : Hp} {O : List Addr}, SatL K S H G s σ O → (∀ a ∈ O, S a = none) → O.Nodup → ∃ Of Or, O.Perm (Of ++ Or) ∧ SatL K (own S H Of) H (frz l G) (ST.frz l G s) σ Or ∧ AllL H Of
  | [], _, _, _, _, O, h, _, _ => ⟨[], O, by simp, h, fun _ h => (nomatch h)⟩
  | (j, e) :: r, s, σ, S, H, O, h, d, nd => by
    obtain ⟨O1, O2, e1, e2, e3⟩ := h
    subst e1
    obtain ⟨n1, n2, n3⟩ := List.nodup_append.mp nd
    have key : ∀ b : Bool, l.elem j = b → ∃ Of Or, (O1 ++ O2).Perm (Of ++ Or) ∧ SatL K (own S H Of) H ((bif b then (j, fz1 e) else (j, e)) :: Tp.frz l r) (match b with
        | true => (fzT e s.1, ST.frz l r s.2)
        | false => (s.1, ST.frz l r s.2)) σ Or ∧ AllL H Of := fun b hb => by
      cases b with
      | true =>
        obtain ⟨Of1, Or1, q1, q2, l1⟩ := e2.fzL fun a ha => d a (by simp [ha])
        obtain ⟨Of2, Or2, q3, q4, l2⟩ := SatL.fz l e3 (fun a ha => d a (by simp [ha])) n2
        subst q1
        have m2 : ∀ a, a ∈ Of2 ++ Or2 ↔ a ∈ O2 := fun a => q3.symm.mem_iff
        refine ⟨Of1 ++ Of2, Or1 ++ Or2, ?_, ⟨Or1, Or2, rfl, ?_, ?_⟩, fun a ha => (List.mem_append.mp ha).elim (l1 a) (l2 a)⟩
        · calc (Of1 ++ Or1 ++ O2).Perm (Of1 ++ Or1 ++ (Of2 ++ Or2)) := List.Perm.append_left _ q3
            _ |>.Perm (Of1 ++ Of2 ++ (Or1 ++ Or2)) := by
              simp only [List.append_assoc]
              refine List.Perm.append_left _ ?_
              simp only [← List.append_assoc]
              exact List.Perm.append_right _ List.perm_append_comm
        · rw [← own_app]
          refine SatE.mono (own_ext fun a ha => ?_) q2 fun _ _ => rfl
          have : a ∉ Of1 := fun h => n3 a (by simp [h]) a ((m2 a).mp (by simp [ha])) rfl
          rw [own_out this]
          exact d a (List.mem_append_right _ ((m2 a).mp (by simp [ha])))
        · have hc : own S H (Of1 ++ Of2) = own (own S H Of2) H Of1 := by
            rw [own_app]
            funext b
            by_cases hb : b ∈ Of1 ++ Of2
            · rw [own_in hb, own_in (by simp at hb ⊢; exact hb.symm)]
            · rw [own_out hb, own_out (by simp at hb ⊢; exact ⟨hb.2, hb.1⟩)]
          rw [hc]
          refine SatL.mono (own_ext fun a ha => ?_) q4 fun _ _ => rfl
          have : a ∉ Of2 := fun h => n3 a (by simp [ha]) a ((m2 a).mp (by simp [h])) rfl
          rw [own_out this]
          exact d a (by simp [ha])
      | false =>
        obtain ⟨Of2, Or2, q3, q4, l2⟩ := SatL.fz l e3 (fun a ha => d a (by simp [ha])) n2
        have m2 : ∀ a, a ∈ Of2 ++ Or2 ↔ a ∈ O2 := fun a => q3.symm.mem_iff
        refine ⟨Of2, O1 ++ Or2, ?_, ⟨O1, Or2, rfl, ?_, q4⟩, l2⟩
        · refine (List.Perm.append_left _ q3).trans ?_
          simp only [← List.append_assoc]
          exact List.Perm.append_right _ List.perm_append_comm
        · exact SatE.mono (own_ext fun a ha => d a (List.mem_append_right _ ((m2 a).mp (by simp [ha])))) e2 fun _ _ => rfl
    exact key _ rfl
/-- the cells taken back -/
def takeB (S : Hp) (O : List Addr) : Hp := fun b => if b ∈ O then none else S b
theorem takeB_out {S : Hp} {O : List Addr} {b : Addr} (h : b ∉ O) : takeB S O b = S b := if_neg h
theorem takeB_in {S : Hp} {O : List Addr} {b : Addr} (h : b ∈ O) : takeB S O b = none := if_pos h
section
variable {M : Type → Type} [Eff M] {K : PySem.W.Frag} {p : Nat} {G : Ctx} {s : ST G} {w : Eff.W M} {σ : St} {H S : Hp} {Ow O : List Addr}
theorem Sat.frz (l : List Nat) (x : Sat M K p G s w σ H S Ow O) : ∃ Of Or, (∀ a ∈ Of, a ∈ O) ∧ AllL H Of ∧ Sat M K p (frz l G) (ST.frz l G s) w σ H (own S H Of) Ow Or := by
  obtain ⟨n1, n2, n3⟩ := List.nodup_append.mp x.nd
  obtain ⟨Of, Or, q, es, hl⟩ := x.es.fz l (fun a ha => x.dis a (by simp [ha])) n2
  have hm : ∀ a, a ∈ Of ++ Or ↔ a ∈ O := fun a => q.symm.mem_iff
  have nd2 := q.nodup n2
  obtain ⟨m1, m2, m3⟩ := List.nodup_append.mp nd2
  refine ⟨Of, Or, fun a ha => (hm a).mp (by simp [ha]), hl, own_sub x.sub, fun a ha => ?_, ?_, x.ws, es⟩
  · have ho : a ∉ Of := fun h => by
      rcases List.mem_append.mp ha with z | z
      · exact n3 a z a ((hm a).mp (by simp [h])) rfl
      · exact m3 a h a z rfl
    rw [own_out ho]
    refine x.dis a ?_
    rcases List.mem_append.mp ha with z | z
    · simp [z]
    · exact List.mem_append_right _ ((hm a).mp (by simp [z]))
  · exact List.nodup_append.mpr ⟨n1, m2, fun a ha b hb => n3 a ha b ((hm b).mp (by simp [hb]))⟩
/-- a step over the borrowed cells is a step -/
theorem ESt.back {H' S' : Hp} {Of O1 : List Addr} (dis : ∀ a ∈ Of, S a = none) (st : ESt H (own S H Of) Ow O1 H' S') : ESt H S Ow O1 H' (takeB S' Of) where
  ext := fun a o e => by
    by_cases hb : a ∈ Of
    · rw [dis a hb] at e; cases e
    · rw [takeB_out hb]; exact st.ext a o (by rw [own_out hb]; exact e)
  fr := st.fr
  th := st.th
  new := fun a o e => by
    by_cases hb : a ∈ Of
    · rw [takeB_in hb] at e; cases e
    · rw [takeB_out hb] at e
      refine (st.new a o e).imp (fun h => ?_) id
      rwa [own_out hb] at h
  sub := fun a o e => by
    by_cases hb : a ∈ Of
    · rw [takeB_in hb] at e; cases e
    · rw [takeB_out hb] at e; exact st.sub a o e
  o1 := fun a ha => ⟨(st.o1 a ha).1, by
    by_cases hb : a ∈ Of
    · exact takeB_in hb
    · rw [takeB_out hb]; exact (st.o1 a ha).2⟩
  n1 := st.n1
end
theorem tupIn_back {H S H' S' : Hp} {Ow O1 Of : List Addr} (hl : AllL H Of) (st : ESt H (own S H Of) Ow O1 H' S') : TupIn S' (takeB S' Of) := fun a o hn e => by
  by_cases hb : a ∈ Of
  · obtain ⟨vs, q⟩ := hl a hb
    have e2 := st.ext a _ (by rw [own_in hb]; exact q)
    rw [e] at e2; cases e2
    exact absurd rfl (hn vs)
  · rw [takeB_out hb]; exact e
end Tp

set_option Elab.async false
set_option linter.all false
set_option maxRecDepth 100000
set_option maxHeartbeats 4000000
/-! Tp10: borrowed reading; displays; len, places, slices, in; the built-in functions. -/
namespace Tp
open PySem PySem.Spec L2
open PyProof.Rows hiding St

section
variable {M : Type → Type} [Eff M] {C : Cf} {G : Ctx}
/-! ### borrowed reading -/
def EP.frz (l : List Nat) {e : Expr} {t : TY} [FlatT t] (a : EP M C (frz l G) e t) : EP M C G e t where
  den s := a.den (ST.frz l G s)
  ok X g := by
    refine PE.imp (a.ok X g) fun σ H Q q => ?_
    obtain ⟨s, w, S, Ow, O, x, k⟩ := q
    obtain ⟨Of, Or, hm, hl, y⟩ := x.frz l
    refine ⟨_, w, own S H Of, Ow, Or, y, fun v H' S' st hw rp => ?_⟩
    have d : ∀ a ∈ Of, S a = none := fun a ha => x.dis a (by simp [hm a ha])
    exact k v H' _ (st.back d) hw (rp.flat (tupIn_back hl st) (FlatT.h _))
def TP.frz (l : List Nat) {e : Expr} (a : TP M C (frz l G) e) : TP M C G e where
  den s := a.den (ST.frz l G s)
  ok X g := by
    refine PT.imp (a.ok X g) fun σ H Q q => ?_
    obtain ⟨s, w, S, Ow, O, x, k⟩ := q
    obtain ⟨Of, Or, hm, hl, y⟩ := x.frz l
    refine ⟨_, w, own S H Of, Ow, Or, y, fun H' S' st hw => ?_⟩
    have d : ∀ a ∈ Of, S a = none := fun a ha => x.dis a (by simp [hm a ha])
    exact k H' _ (st.back d) hw
theorem frz_imp {l : List Nat} {r : SE} [FlatE r] {da : ST (Tp.frz l G) → M r.T} {Wx : WX} {σ : St} {H : Hp} {Q : VK} (q : tE M C.T.K C.p G r (fun s => Eff.noer (da (ST.frz l G s))) Wx σ H Q) : tE M C.T.K C.p (Tp.frz l G) r da Wx σ H Q := by
  obtain ⟨s, w, S, Ow, O, x, k⟩ := q
  obtain ⟨Of, Or, hm, hl, y⟩ := x.frz l
  refine ⟨_, w, own S H Of, Ow, Or, y, ?_⟩
  have d : ∀ a ∈ Of, S a = none := fun a ha => x.dis a (by simp [hm a ha])
  rw [Eff.run_noer] at k
  cases e : Eff.run (da (ST.frz l G s)) w with
  | mk o w' =>
    rw [e] at k
    cases o with
    | ok b => exact fun v H' S' O1 st hw se => k v H' _ O1 (st.back d) hw (se.flat (tupIn_back hl st))
    | er b => exact k.elim
    | bad => exact k.elim
def EJ.frz (l : List Nat) {e : Expr} {r : SE} [FlatE r] (a : EJ M C (frz l G) e r) : EJ M C G e r where
  den s := Eff.noer (a.den (ST.frz l G s))
  ok X Wx g tk := PE.imp (a.ok X Wx g tk) fun σ H Q q => frz_imp q
def TJ.frz (l : List Nat) {e : Expr} (a : TJ M C (frz l G) e) : TJ M C G e where
  den s := Eff.noer (a.den (ST.frz l G s))
  ok X Wx g tk := by
    refine PT.imp (a.ok X Wx g tk) fun σ H Q q => ?_
    obtain ⟨s, w, S, Ow, O, x, k⟩ := q
    obtain ⟨Of, Or, hm, hl, y⟩ := x.frz l
    refine ⟨_, w, own S H Of, Ow, Or, y, ?_⟩
    have d : ∀ a ∈ Of, S a = none := fun a ha => x.dis a (by simp [hm a ha])
    rw [Eff.run_noer] at k
    cases e : Eff.run (a.den (ST.frz l G s)) w with
    | mk o w' =>
      rw [e] at k
      cases o with
      | ok b => exact fun H' S' st hw => k H' _ (st.back d) hw
      | er b => exact k.elim
      | bad => exact k.elim

/-! ### displays -/
/-- items of one type -/
def PostL (M : Type → Type) [Eff M] (K : PySem.W.Frag) (p : Nat) (σ : St) (H S : Hp) (Ow : List Addr) (n : Nat) (t : TY) (Wx : Value → Option Addr → Hp → Prop) (Q : List V → Hp → Prop) : R (List t.A) × Eff.W M → Prop
  | (.ok xs, w') => ∀ vs H' S', ESt H S Ow [] H' S' → Eff.ws (M := M) w' (σ[p]?.join) H' Ow → vs.length = n → RepL K S' (xs.map t.enc) vs → Q vs H'
  | (.er x, w') => ∀ cls d H' S', ESt H S Ow [] H' S' → Eff.ws (M := M) w' (σ[p]?.join) H' Ow → ErrR K S' x cls d → Wx cls d H'
  | (.bad, _) => False
theorem PostL.pre {K : PySem.W.Frag} {p : Nat} {σ : St} {H S : Hp} {Ow : List Addr} {n : Nat} {t : TY} {Wx : Value → Option Addr → Hp → Prop} {Q : List V → Hp → Prop} {H1 S1 : Hp} (st : ESt H S Ow [] H1 S1) : ∀ {o : R (List t.A) × Eff.W M}, PostL M K p σ H S Ow n t Wx Q o → PostL M K p σ H1 S1 Ow n t Wx Q o
  | (.ok x, w'), h => fun vs H' S' a b c d => h vs H' S' (st.trans a) b c d
  | (.er x, w'), h => fun cls d H' S' a b c => h cls d H' S' (st.trans a) b c
  | (.bad, _), h => h
structure LJ (M : Type → Type) [Eff M] (C : Cf) (G : Ctx) (es : List Expr) (t : TY) where
  den : ST G → M (List t.A)
  ok : ∀ X Wx, XG C X → Takes X Wx → PA X es (fun σ H Q => ∃ s w S Ow O, Sat M C.T.K C.p G s w σ H S Ow O ∧ PostL M C.T.K C.p σ H S Ow es.length t (fun cls d H' => Wx cls d σ H') Q (Eff.run (den s) w))
def LJ.nil {t : TY} : LJ M C G [] t where
  den _ := pure []
  ok X Wx g tk := by
    refine PA.imp pa_nil fun σ H Q q => ?_
    obtain ⟨s, w, S, Ow, O, x, k⟩ := q
    rw [Eff.run_pure] at k
    exact k [] H S (ESt.refl x.sub) x.ws rfl rfl
def LJ.cons {t : TY} {e : Expr} {es : List Expr} (a : EJ M C G e (.sh t)) (b : LJ M C G es t) (hs : ∀ env, starEach (e :: es) env = (false, eval e env) :: starEach es env := by intro _; rfl) : LJ M C G (e :: es) t where
  den s := a.den s >>= fun x => b.den s >>= fun y => pure (x :: y)
  ok X Wx g tk := by
    refine PA.imp (pa_cons (a.ok X Wx g tk) (b.ok X Wx g tk) (hs _)) fun σ H Q q => ?_
    obtain ⟨s, w, S, Ow, O, x, k⟩ := q
    refine step_gen (fun H S o => PostL M C.T.K C.p σ H S Ow (e :: es).length t (fun cls d H' => Wx cls d σ H') Q o) x k (fun _ _ _ st z => z.pre st) (fun b w' z => z) (fun _ z => z) fun y w1 v1 H1 S1 _ st1 sat1 rp1 k1 => ?_
    refine ⟨s, w1, S1, Ow, O, sat1, ?_⟩
    cases e2 : Eff.run (b.den s) w1 with
    | mk o w2 =>
      cases o with
      | ok z =>
        rw [run_ok _ e2, Eff.run_pure] at k1
        intro vs H2 S2 st2 hw2 hl sl
        exact k1 (v1 :: vs) H2 S2 st2 hw2 (by simp [hl]) ⟨v1, vs, rfl, rp1.mono st2.ext, sl⟩
      | er z => rw [run_er _ e2] at k1; exact k1
      | bad => rw [run_bad' _ e2] at k1; exact k1
/-- the same, all total -/
structure LP (M : Type → Type) [Eff M] (C : Cf) (G : Ctx) (es : List Expr) (t : TY) extends LJ M C G es t where
  f : ST G → List t.A
  hf : ∀ s w, Eff.run (den s) w = (.ok (f s), w)
def LP.nil {t : TY} : LP M C G [] t := ⟨LJ.nil, fun _ => [], fun _ _ => Eff.run_pure _ _⟩
def LP.cons {t : TY} {e : Expr} {es : List Expr} (a : EP M C G e t) (b : LP M C G es t) (hs : ∀ env, starEach (e :: es) env = (false, eval e env) :: starEach es env := by intro _; rfl) : LP M C G (e :: es) t :=
  ⟨LJ.cons a.toEJ b.toLJ hs, fun s => a.den s :: b.f s, fun s w => by
    show Eff.run (pure (a.den s) >>= fun x => b.den s >>= fun y => pure (x :: y)) w = _
    rw [run_ok _ (Eff.run_pure _ _), run_ok _ (b.hf s w), Eff.run_pure]⟩
/-- a new cell -/
theorem ESt.new1 {H S H1 S1 : Hp} {Ow : List Addr} {p : Addr} {o : HO} (st : ESt H S Ow [] H1 S1) (hp : H1 p = none) : ESt H S Ow [p] (upd H1 p o) S1 where
  ext := st.ext
  fr := fun a o h e => by
    have e1 := st.fr a o h e
    rw [upd_ne (fun z => by subst z; rw [hp] at e1; cases e1)]; exact e1
  th := fun a o e => by
    obtain ⟨o', e1⟩ := st.th a o e
    exact ⟨o', by rw [upd_ne (fun z => by subst z; rw [hp] at e1; cases e1)]; exact e1⟩
  new := st.new
  sub := fun a o e => by
    have e1 := st.sub a o e
    rw [upd_ne (fun z => by subst z; rw [hp] at e1; cases e1)]; exact e1
  o1 := fun a ha => by
    simp at ha; subst ha
    refine ⟨none_of_th st.th hp, ?_⟩
    cases e : S1 a with
    | none => rfl
    | some o => rw [st.sub a o e] at hp; cases hp
  n1 := by simp
theorem ws_new {w : Eff.W M} {v : Option V} {H : Hp} {Ow : List Addr} {p : Addr} {o : HO} (h : Eff.ws w v H Ow) (hp : H p = none) : Eff.ws w v (upd H p o) Ow :=
  Eff.ws_mono h fun a ha => upd_ne fun z => by
    subst z
    obtain ⟨o, e⟩ := Eff.ws_there h _ ha
    rw [hp] at e; cases e
def EJ.lst {es : List Expr} {t : TY} {pos : Pos} (a : LJ M C G es t) (hn : es.length ≤ 1000 := by first | decide | exact of_decide_eq_true rfl) : EJ M C G (.List es pos) (.o1 t) where
  den := a.den
  ok X Wx g tk := by
    refine PE.imp (pe_lst (a.ok X Wx g tk)) fun σ H Q q => ?_
    obtain ⟨s, w, S, Ow, O, x, k⟩ := q
    refine ⟨s, w, S, Ow, O, x, ?_⟩
    cases e : Eff.run (a.den s) w with
    | mk o w' =>
      rw [e] at k
      cases o with
      | ok b =>
        intro vs H1 S1 st hw hl sl
        refine ⟨by have h2 : sizeLine = 16777216 := sizeLine_eq; omega, fun l hn => ?_⟩
        exact k _ _ S1 [l] (st.new1 hn) (ws_new hw hn) ⟨l, vs, rfl, rfl, upd_same, sl⟩
      | er b => exact k
      | bad => exact k
def EP.lst {es : List Expr} {t : TY} {pos : Pos} (a : LP M C G es t) (hn : es.length ≤ 1000 := by first | decide | exact of_decide_eq_true rfl) : EP M C G (.List es pos) (.list t) :=
  EP.ofJ (EJ.share (EJ.lst a.toLJ hn)) a.f a.hf
/-- a new tuple -/
theorem rep_tup {K : PySem.W.Frag} {S : Hp} {p : Addr} {vs : List V} {xs : List PV} (hp : S p = some (.tup vs)) (h : RepL K S xs vs) : Rep K S (.tup xs) (.ref p) := ⟨p, vs, rfl, .inl (.inl hp), h⟩
theorem ESt.newS {H S H1 S1 : Hp} {Ow : List Addr} {p : Addr} {o : HO} (st : ESt H S Ow [] H1 S1) (hp : H1 p = none) : ESt H S Ow [] (upd H1 p o) (upd S1 p o) := by
  have h := (st.new1 (o := o) hp).share
  have e : own S1 (upd H1 p o) [p] = upd S1 p o := by
    funext b
    by_cases hb : b = p
    · subst hb; rw [own_in (by simp), upd_same, upd_same]
    · rw [own_out (by simpa using hb), upd_ne hb]
  rwa [e] at h
theorem ext_upd {S : Hp} {p : Addr} {o : HO} (h : S p = none) : Ext S (upd S p o) := fun a u e => by
  rw [upd_ne (fun z => by subst z; rw [h] at e; cases e)]; exact e
theorem none_sub {H S : Hp} {p : Addr} (sub : ∀ a o, S a = some o → H a = some o) (h : H p = none) : S p = none := by
  cases e : S p with
  | none => rfl
  | some o => rw [sub p o e] at h; cases h
def EP.tup0 {j : Nat} {pos : Pos} : EP M C G (.Tuple [] j pos) TY.tup0 where
  den _ := ()
  ok X g := by
    refine PE.imp (pe_tup pa_nil) fun σ H Q q => ?_
    obtain ⟨s, w, S, Ow, O, x, k⟩ := q
    exact ⟨Nat.zero_le _, fun l hn => k _ _ _ ((ESt.refl x.sub).newS hn) (ws_new x.ws hn) (rep_tup (vs := []) upd_same rfl)⟩
def EJ.tup1 {a : TY} {e1 : Expr} {j : Nat} {pos : Pos} (x : EJ M C G e1 (.sh a)) (h1 : ∀ env, starEach [e1] env = (false, eval e1 env) :: starEach [] env := by intro _; rfl) : EJ M C G (.Tuple [e1] j pos) (.sh (TY.tup1 a)) where
  den s := x.den s
  ok X Wx g tk := by
    refine PE.imp (pe_tup (pa_cons (x.ok X Wx g tk) pa_nil (h1 _))) fun σ H Q q => ?_
    obtain ⟨s, w, S, Ow, O, sat, k⟩ := q
    refine ⟨s, w, S, Ow, O, sat, ?_⟩
    cases e : Eff.run (x.den s) w with
    | mk o w' =>
      rw [e] at k
      cases o with
      | ok b =>
        intro v1 H1 S1 O1 st1 hw se
        obtain ⟨e1, u, e2, rp1⟩ := se
        cases e1; cases e2
        have sat1 := sat.after st1 hw
        exact ⟨by rw [sizeLine_eq]; simp, fun l hn => k _ _ _ [] (st1.newS hn) (ws_new sat1.ws hn) ⟨rfl, _, rfl, rep_tup (vs := [v1]) upd_same
          (RepL.mono (ext_upd (none_sub sat1.sub hn)) (RepL.cons rp1 rfl))⟩⟩
      | er b => exact k
      | bad => exact k
def EJ.tup2 {a b : TY} {e1 e2 : Expr} {j : Nat} {pos : Pos} (x : EJ M C G e1 (.sh a)) (y : EJ M C G e2 (.sh b)) (h1 : ∀ env, starEach [e1, e2] env = (false, eval e1 env) :: starEach [e2] env := by intro _; rfl)
    (h2 : ∀ env, starEach [e2] env = (false, eval e2 env) :: starEach [] env := by intro _; rfl) : EJ M C G (.Tuple [e1, e2] j pos) (.sh (TY.tup2 a b)) where
  den s := x.den s >>= fun i => y.den s >>= fun j => pure (i, j)
  ok X Wx g tk := by
    refine PE.imp (pe_tup (pa_cons (x.ok X Wx g tk) (pa_cons (y.ok X Wx g tk) pa_nil (h2 _)) (h1 _))) fun σ H Q q => ?_
    obtain ⟨s, w, S, Ow, O, sat, k⟩ := q
    refine step_E sat k fun i w1 v1 H1 S1 st1 sat1 rp1 k1 => ?_
    refine step_E sat1 k1 fun j w2 v2 H2 S2 st2 sat2 rp2 k2 => ?_
    rw [Eff.run_pure] at k2
    exact ⟨by rw [sizeLine_eq]; simp, fun l hn => k2 _ _ _ [] ((ESt.refl sat2.sub).newS hn) (ws_new sat2.ws hn) ⟨rfl, _, rfl, rep_tup (vs := [v1, v2]) upd_same
      (RepL.mono (ext_upd (none_sub sat2.sub hn)) (RepL.cons (rp1.mono st2.ext) (RepL.cons rp2 rfl)))⟩⟩
def EJ.tup3 {a b c : TY} {e1 e2 e3 : Expr} {j : Nat} {pos : Pos} (x : EJ M C G e1 (.sh a)) (y : EJ M C G e2 (.sh b)) (z : EJ M C G e3 (.sh c)) (h1 : ∀ env, starEach [e1, e2, e3] env = (false, eval e1 env) :: starEach [e2, e3] env := by intro _; rfl)
    (h2 : ∀ env, starEach [e2, e3] env = (false, eval e2 env) :: starEach [e3] env := by intro _; rfl) (h3 : ∀ env, starEach [e3] env = (false, eval e3 env) :: starEach [] env := by intro _; rfl) : EJ M C G (.Tuple [e1, e2, e3] j pos) (.sh (TY.tup3 a b c)) where
  den s := x.den s >>= fun i => y.den s >>= fun j => z.den s >>= fun k => pure (i, j, k)
  ok X Wx g tk := by
    refine PE.imp (pe_tup (pa_cons (x.ok X Wx g tk) (pa_cons (y.ok X Wx g tk) (pa_cons (z.ok X Wx g tk) pa_nil (h3 _)) (h2 _)) (h1 _))) fun σ H Q q => ?_
    obtain ⟨s, w, S, Ow, O, sat, k⟩ := q
    refine step_E sat k fun i w1 v1 H1 S1 st1 sat1 rp1 k1 => ?_
    refine step_E sat1 k1 fun j w2 v2 H2 S2 st2 sat2 rp2 k2 => ?_
    refine step_E sat2 k2 fun l w3 v3 H3 S3 st3 sat3 rp3 k3 => ?_
    rw [Eff.run_pure] at k3
    exact ⟨by rw [sizeLine_eq]; simp, fun l hn => k3 _ _ _ [] ((ESt.refl sat3.sub).newS hn) (ws_new sat3.ws hn) ⟨rfl, _, rfl, rep_tup (vs := [v1, v2, v3]) upd_same
      (RepL.mono (ext_upd (none_sub sat3.sub hn)) (RepL.cons (rp1.mono (st2.ext.trans st3.ext)) (RepL.cons (rp2.mono st3.ext) (RepL.cons rp3 rfl))))⟩⟩
def EJ.tup4 {a b c d : TY} {e1 e2 e3 e4 : Expr} {j : Nat} {pos : Pos} (x : EJ M C G e1 (.sh a)) (y : EJ M C G e2 (.sh b)) (z : EJ M C G e3 (.sh c)) (u : EJ M C G e4 (.sh d)) (h1 : ∀ env, starEach [e1, e2, e3, e4] env = (false, eval e1 env) :: starEach [e2, e3, e4] env := by intro _; rfl)
    (h2 : ∀ env, starEach [e2, e3, e4] env = (false, eval e2 env) :: starEach [e3, e4] env := by intro _; rfl) (h3 : ∀ env, starEach [e3, e4] env = (false, eval e3 env) :: starEach [e4] env := by intro _; rfl) (h4 : ∀ env, starEach [e4] env = (false, eval e4 env) :: starEach [] env := by intro _; rfl) : EJ M C G (.Tuple [e1, e2, e3, e4] j pos) (.sh (TY.tup4 a b c d)) where
  den s := x.den s >>= fun i => y.den s >>= fun j => z.den s >>= fun k => u.den s >>= fun l => pure (i, j, k, l)
  ok X Wx g tk := by
    refine PE.imp (pe_tup (pa_cons (x.ok X Wx g tk) (pa_cons (y.ok X Wx g tk) (pa_cons (z.ok X Wx g tk) (pa_cons (u.ok X Wx g tk) pa_nil (h4 _)) (h3 _)) (h2 _)) (h1 _))) fun σ H Q q => ?_
    obtain ⟨s, w, S, Ow, O, sat, k⟩ := q
    refine step_E sat k fun i w1 v1 H1 S1 st1 sat1 rp1 k1 => ?_
    refine step_E sat1 k1 fun j w2 v2 H2 S2 st2 sat2 rp2 k2 => ?_
    refine step_E sat2 k2 fun l w3 v3 H3 S3 st3 sat3 rp3 k3 => ?_
    refine step_E sat3 k3 fun m w4 v4 H4 S4 st4 sat4 rp4 k4 => ?_
    rw [Eff.run_pure] at k4
    exact ⟨by rw [sizeLine_eq]; simp, fun l hn => k4 _ _ _ [] ((ESt.refl sat4.sub).newS hn) (ws_new sat4.ws hn) ⟨rfl, _, rfl, rep_tup (vs := [v1, v2, v3, v4]) upd_same
      (RepL.mono (ext_upd (none_sub sat4.sub hn)) (RepL.cons (rp1.mono ((st2.ext.trans st3.ext).trans st4.ext)) (RepL.cons (rp2.mono (st3.ext.trans st4.ext)) (RepL.cons (rp3.mono st4.ext) (RepL.cons rp4 rfl)))))⟩⟩
theorem run2 {A B D : Type} {w : Eff.W M} {a : A} {b : B} (f : A → B → D) : Eff.run ((pure a : M A) >>= fun i => (pure b : M B) >>= fun j => (pure (f i j) : M D)) w = (.ok (f a b), w) := by
  rw [run_ok _ (Eff.run_pure _ _), run_ok _ (Eff.run_pure _ _), Eff.run_pure]
def EP.tup1 {a : TY} {e1 : Expr} {j : Nat} {pos : Pos} (x : EP M C G e1 a) (h1 : ∀ env, starEach [e1] env = (false, eval e1 env) :: starEach [] env := by intro _; rfl) : EP M C G (.Tuple [e1] j pos) (TY.tup1 a) :=
  EP.ofJ (EJ.tup1 x.toEJ h1) x.den fun s w => Eff.run_pure _ _
def EP.tup2 {a b : TY} {e1 e2 : Expr} {j : Nat} {pos : Pos} (x : EP M C G e1 a) (y : EP M C G e2 b) (h1 : ∀ env, starEach [e1, e2] env = (false, eval e1 env) :: starEach [e2] env := by intro _; rfl)
    (h2 : ∀ env, starEach [e2] env = (false, eval e2 env) :: starEach [] env := by intro _; rfl) : EP M C G (.Tuple [e1, e2] j pos) (TY.tup2 a b) :=
  EP.ofJ (EJ.tup2 x.toEJ y.toEJ h1 h2) (fun s => (x.den s, y.den s)) fun s w => run2 Prod.mk
def EP.tup3 {a b c : TY} {e1 e2 e3 : Expr} {j : Nat} {pos : Pos} (x : EP M C G e1 a) (y : EP M C G e2 b) (z : EP M C G e3 c) (h1 : ∀ env, starEach [e1, e2, e3] env = (false, eval e1 env) :: starEach [e2, e3] env := by intro _; rfl)
    (h2 : ∀ env, starEach [e2, e3] env = (false, eval e2 env) :: starEach [e3] env := by intro _; rfl) (h3 : ∀ env, starEach [e3] env = (false, eval e3 env) :: starEach [] env := by intro _; rfl) : EP M C G (.Tuple [e1, e2, e3] j pos) (TY.tup3 a b c) :=
  EP.ofJ (EJ.tup3 x.toEJ y.toEJ z.toEJ h1 h2 h3) (fun s => (x.den s, y.den s, z.den s)) fun s w => by
    show Eff.run (pure (x.den s) >>= fun i => _) w = _
    rw [run_ok _ (Eff.run_pure _ _)]
    exact run2 _
def EP.tup4 {a b c d : TY} {e1 e2 e3 e4 : Expr} {j : Nat} {pos : Pos} (x : EP M C G e1 a) (y : EP M C G e2 b) (z : EP M C G e3 c) (u : EP M C G e4 d) (h1 : ∀ env, starEach [e1, e2, e3, e4] env = (false, eval e1 env) :: starEach [e2, e3, e4] env := by intro _; rfl)
    (h2 : ∀ env, starEach [e2, e3, e4] env = (false, eval e2 env) :: starEach [e3, e4] env := by intro _; rfl) (h3 : ∀ env, starEach [e3, e4] env = (false, eval e3 env) :: starEach [e4] env := by intro _; rfl) (h4 : ∀ env, starEach [e4] env = (false, eval e4 env) :: starEach [] env := by intro _; rfl) : EP M C G (.Tuple [e1, e2, e3, e4] j pos) (TY.tup4 a b c d) :=
  EP.ofJ (EJ.tup4 x.toEJ y.toEJ z.toEJ u.toEJ h1 h2 h3 h4) (fun s => (x.den s, y.den s, z.den s, u.den s)) fun s w => by
    show Eff.run (pure (x.den s) >>= fun i => _) w = _
    rw [run_ok _ (Eff.run_pure _ _)]
    show Eff.run (pure (y.den s) >>= fun i => _) w = _
    rw [run_ok _ (Eff.run_pure _ _)]
    exact run2 _
end
end Tp

set_option Elab.async false
set_option linter.all false
set_option maxRecDepth 100000
set_option maxHeartbeats 4000000
/-! Tp11: the built-in functions, subscripts, slices, in, isinstance. -/
namespace Tp
open PySem PySem.Spec L2
open PyProof.Rows hiding St

theorem bt_all : bootBuiltins "all" = some (.builtin "all") := by decide +kernel
theorem bt_any : bootBuiltins "any" = some (.builtin "any") := by decide +kernel
theorem bt_sum : bootBuiltins "sum" = some (.builtin "sum") := by decide +kernel
theorem bt_len : bootBuiltins "len" = some (.builtin "len") := by decide +kernel
theorem bt_abs : bootBuiltins "abs" = some (.builtin "abs") := by decide +kernel
theorem bt_max : bootBuiltins "max" = some (.builtin "max") := by decide +kernel
theorem bt_min : bootBuiltins "min" = some (.builtin "min") := by decide +kernel
theorem bt_sorted : bootBuiltins "sorted" = some (.builtin "sorted") := by decide +kernel
theorem bt_repr : bootBuiltins "repr" = some (.builtin "repr") := by decide +kernel
theorem bt_divmod : bootBuiltins "divmod" = some (.builtin "divmod") := by decide +kernel
theorem bt_isinstance : bootBuiltins "isinstance" = some (.builtin "isinstance") := by decide +kernel
theorem bt_int : bootBuiltins "int" = some (.type "int") := by decide +kernel
theorem bt_bool : bootBuiltins "bool" = some (.type "bool") := by decide +kernel
theorem bt_str : bootBuiltins "str" = some (.type "str") := by decide +kernel
theorem bt_list : bootBuiltins "list" = some (.type "list") := by decide +kernel
theorem bt_tuple : bootBuiltins "tuple" = some (.type "tuple") := by decide +kernel
theorem bt_dict : bootBuiltins "dict" = some (.type "dict") := by decide +kernel
theorem bt_set : bootBuiltins "set" = some (.type "set") := by decide +kernel

abbrev Sub (S H : Hp) : Prop := ∀ a o, S a = some o → H a = some o
theorem CallR.imp {X : Cx} {f : Value} {r r' : List V → Hp → VK → Prop} (h : CallR X f r) (k : ∀ xs H Q, r' xs H Q → r xs H Q) : CallR X f r' :=
  fun pins s σ H xs us Q I rv q => h pins s σ H xs us Q I rv (k xs H Q q)
theorem CallR.know {X : Cx} {f : Value} {r : List V → Hp → VK → Prop} (h : CallR X f r) : CallR X f (fun xs H Q => Knows X H → r xs H Q) :=
  fun pins s σ H xs us Q I rv q => h pins s σ H xs us Q I rv (q (knows_of I))
/-- one argument, an answer that is no object -/
def Fn1 (C : Cf) (f : Value) (a b : TY) (g : a.A → b.A) : Prop := ∀ X, XG C X → CallR X f (fun xs H Q => ∃ v, ∃ i : a.A, ∃ S, xs = [v] ∧ Sub S H ∧ Rep C.T.K S (a.enc i) v ∧ ∀ v', (∀ S, Rep C.T.K S (b.enc (g i)) v') → Q v' H)
/-- .. at some arguments alone -/
def Fn1R (C : Cf) (f : Value) (a b : TY) (g : a.A → Option b.A) : Prop := ∀ X, XG C X → CallR X f (fun xs H Q => ∃ v, ∃ i : a.A, ∃ y : b.A, ∃ S, xs = [v] ∧ Sub S H ∧ Rep C.T.K S (a.enc i) v ∧ g i = some y ∧ ∀ v', (∀ S, Rep C.T.K S (b.enc y) v') → Q v' H)
/-- one argument, a new list -/
def FnL (C : Cf) (f : Value) (a t : TY) (g : a.A → List t.A) : Prop := ∀ X, XG C X → CallR X f (fun xs H Q => ∃ v, ∃ i : a.A, ∃ S, xs = [v] ∧ Sub S H ∧ Rep C.T.K S (a.enc i) v ∧ ∀ p ws, H p = none → RepL C.T.K S ((g i).map t.enc) ws → Q (.ref p) (upd H p (.lst ws)))
def Fn2 (C : Cf) (f : Value) (a b c : TY) (g : a.A → b.A → c.A) : Prop := ∀ X, XG C X → CallR X f (fun xs H Q => ∃ v u, ∃ i : a.A, ∃ j : b.A, ∃ S, xs = [v, u] ∧ Sub S H ∧ Rep C.T.K S (a.enc i) v ∧ Rep C.T.K S (b.enc j) u ∧ ∀ v', (∀ S, Rep C.T.K S (c.enc (g i j)) v') → Q v' H)

section
variable {C : Cf} {K : PySem.W.Frag} {S H : Hp}
theorem repL_bools : ∀ {bs : List Bool} {vs : List V}, RepL K S (bs.map PV.bl) vs → vs = bs.map V.bl
  | [], _, h => h
  | b :: bs, _, h => by obtain ⟨v, r, e1, e2, e3⟩ := h; rw [e1, show v = V.bl b from e2, repL_bools e3]; rfl
theorem repL_ints : ∀ {bs : List Int} {vs : List V}, RepL K S (bs.map PV.int) vs → vs = bs.map V.int
  | [], _, h => h
  | b :: bs, _, h => by obtain ⟨v, r, e1, e2, e3⟩ := h; rw [e1, show v = V.int b from e2, repL_ints e3]; rfl
theorem ints_repL : ∀ {bs : List Int}, RepL K S (bs.map PV.int) (bs.map V.int)
  | [] => rfl
  | b :: bs => ⟨_, _, rfl, rfl, ints_repL⟩
theorem sqL_of {a : Addr} {vs : List V} (sub : Sub S H) (h : S a = some (.lst vs)) : SqL K H a vs := .inl (.inl (sub _ _ h))
theorem fn_all : Fn1 C (.builtin "all") (.list .bool) .bool (fun bs => bs.all id) := fun X g => CallR.imp (cr_all g.calm) fun xs H Q ⟨v, i, S, e, sub, r, k⟩ => by
  obtain ⟨a, vs, e1, e2, e3⟩ := r
  rw [repL_bools e3] at e2
  exact ⟨a, i, by rw [e, e1], sqL_of sub e2, k _ fun _ => rfl⟩
theorem fn_any : Fn1 C (.builtin "any") (.list .bool) .bool (fun bs => bs.any id) := fun X g => CallR.imp (cr_any g.calm) fun xs H Q ⟨v, i, S, e, sub, r, k⟩ => by
  obtain ⟨a, vs, e1, e2, e3⟩ := r
  rw [repL_bools e3] at e2
  exact ⟨a, i, by rw [e, e1], sqL_of sub e2, k _ fun _ => rfl⟩
theorem fn_sum : Fn1 C (.builtin "sum") (.list .int) .int (fun bs => bs.sum) := fun X g => CallR.imp (cr_sum g.calm) fun xs H Q ⟨v, i, S, e, sub, r, k⟩ => by
  obtain ⟨a, vs, e1, e2, e3⟩ := r
  rw [repL_ints e3] at e2
  exact ⟨a, i, by rw [e, e1], sqL_of sub e2, k _ fun _ => rfl⟩
/-- the greatest, the least of a list -/
theorem fn_maxL : Fn1R C (.builtin "max") (.list .int) .int (fun bs => bs.max?) := fun X g => CallR.imp (cr_max g.calm) fun xs H Q ⟨v, i, y, S, e, sub, r, hy, k⟩ => by
  obtain ⟨a, vs, e1, e2, e3⟩ := r
  rw [repL_ints e3] at e2
  have hm := (List.max?_eq_some_iff (xs := i)).mp hy
  refine ⟨a, i, by rw [e, e1], sqL_of sub e2, List.length_pos_of_mem hm.1, fun m h1 h2 => ?_⟩
  have : m = y := Int.le_antisymm (hm.2 m h1) (h2 y hm.1)
  subst this
  exact k _ fun _ => rfl
theorem fn_minL : Fn1R C (.builtin "min") (.list .int) .int (fun bs => bs.min?) := fun X g => CallR.imp (cr_min g.calm) fun xs H Q ⟨v, i, y, S, e, sub, r, hy, k⟩ => by
  obtain ⟨a, vs, e1, e2, e3⟩ := r
  rw [repL_ints e3] at e2
  have hm := (List.min?_eq_some_iff (xs := i)).mp hy
  refine ⟨a, i, by rw [e, e1], sqL_of sub e2, List.length_pos_of_mem hm.1, fun m h1 h2 => ?_⟩
  have : m = y := Int.le_antisymm (h2 y hm.1) (hm.2 m h1)
  subst this
  exact k _ fun _ => rfl
theorem fn_len {t : TY} : Fn1 C (.builtin "len") (.list t) .int (fun bs => (bs.length : Int)) := fun X g => CallR.imp call_len_seq fun xs H Q ⟨v, i, S, e, sub, r, k⟩ => by
  obtain ⟨a, vs, e1, e2, e3⟩ := r
  refine ⟨a, vs, by rw [e, e1], .inl (sqL_of sub e2), k _ fun _ => ?_⟩
  rw [e3.len, List.length_map]; rfl
theorem fn_lenT {t : TY} {n : t.A → Int} (h : ∀ x, ∃ ys, t.enc x = .tup ys ∧ n x = ys.length) : Fn1 C (.builtin "len") t .int n := fun X g => CallR.imp call_len_seq fun xs H Q ⟨v, i, S, e, sub, r, k⟩ => by
  obtain ⟨ys, h1, h2⟩ := h i
  rw [h1] at r
  obtain ⟨a, vs, e1, e2, e3⟩ := r
  refine ⟨a, vs, by rw [e, e1], .inr (by rw [g.K]; exact ext_seqT sub e2), k _ fun _ => ?_⟩
  rw [e3.len, h2]; rfl
theorem fn_lenS : Fn1 C (.builtin "len") .scr .int (fun bs => (bs.length : Int)) := fun X g => CallR.imp call_len_seq fun xs H Q ⟨v, i, S, e, sub, r, k⟩ => by
  obtain ⟨a, e1, e2⟩ := r
  refine ⟨a, _, by rw [e, e1], .inl (by rw [g.K]; exact Same.seq sub e2), k _ fun _ => ?_⟩
  rw [List.length_map]; rfl
theorem fn_abs : Fn1 C (.builtin "abs") .int .int (fun i => if i < 0 then -i else i) := fun X g => CallR.imp call_abs fun xs H Q ⟨v, i, S, e, sub, r, k⟩ => ⟨i, by rw [e, show v = V.int i from r], k _ fun _ => rfl⟩
theorem fn_intI : Fn1 C (.type "int") .int .int (fun i => i) := fun X g => CallR.imp call_int1 fun xs H Q ⟨v, i, S, e, sub, r, k⟩ => .inl ⟨i, by rw [e, show v = V.int i from r], k _ fun _ => rfl⟩
theorem fn_intB : Fn1 C (.type "int") .bool .int (fun b => if b = true then 1 else 0) := fun X g => CallR.imp call_int1 fun xs H Q ⟨v, i, S, e, sub, r, k⟩ => .inr ⟨i, by rw [e, show v = V.bl i from r], k _ fun _ => rfl⟩
theorem fn_max2 : Fn2 C (.builtin "max") .int .int .int (fun i j => if j > i then j else i) := fun X g => CallR.imp (call_max2 g.calm) fun xs H Q ⟨v, u, i, j, S, e, sub, r1, r2, k⟩ => ⟨i, j, by rw [e, show v = V.int i from r1, show u = V.int j from r2], k _ fun _ => rfl⟩
theorem fn_min2 : Fn2 C (.builtin "min") .int .int .int (fun i j => if j < i then j else i) := fun X g => CallR.imp (call_min2 g.calm) fun xs H Q ⟨v, u, i, j, S, e, sub, r1, r2, k⟩ => ⟨i, j, by rw [e, show v = V.int i from r1, show u = V.int j from r2], k _ fun _ => rfl⟩
theorem fl_sorted {t : TY} (z : SortT t) (hd : z.q.dep ≤ 60 := by first | decide | exact of_decide_eq_true rfl) : FnL C (.builtin "sorted") (.list t) t (fun xs => xs.mergeSort z.le) := fun X g => CallR.imp (call_sorted z g.room.r.units hd) fun xs H Q ⟨v, i, S, e, sub, r, k⟩ => by
  obtain ⟨a, vs, e1, e2, e3⟩ := r
  rw [g.K]
  exact ⟨a, vs, i, S, by rw [e, e1], sub, sqL_of sub e2, e3, k⟩
theorem fl_list {t : TY} : FnL C (.type "list") (.list t) t (fun xs => xs) := fun X g => CallR.imp call_list_of fun xs H Q ⟨v, i, S, e, sub, r, k⟩ => by
  obtain ⟨a, vs, e1, e2, e3⟩ := r
  exact ⟨a, vs, by rw [e, e1], .inl (sqL_of sub e2), fun p hp => k p vs hp e3⟩
theorem fl_listT {t : TY} : FnL C (.type "list") (.tupl t) t (fun xs => xs) := fun X g => CallR.imp call_list_of fun xs H Q ⟨v, i, S, e, sub, r, k⟩ => by
  obtain ⟨a, vs, e1, e2, e3⟩ := r
  exact ⟨a, vs, by rw [e, e1], .inr (by rw [g.K]; exact ext_seqT sub e2), fun p hp => k p vs hp e3⟩
theorem fl_listS : FnL C (.type "list") .scr .int (fun xs => xs) := fun X g => CallR.imp call_list_of fun xs H Q ⟨v, i, S, e, sub, r, k⟩ => by
  obtain ⟨a, e1, e2⟩ := r
  exact ⟨a, _, by rw [e, e1], .inl (by rw [g.K]; exact Same.seq sub e2), fun p hp => k p _ hp ints_repL⟩
end

/-! ### values that repr shows -/
/-- what repr wants of a value: none too great -/
def showOk (x : PV) : Bool := isD x && isDisplay (toD x) && PyData.showable (toD x) && decide ((toD x).depth ≤ 60) && decide ((shows x).length ≤ sizeLine)
def reprO (t : TY) (x : t.A) : Option Str := if showOk (t.enc x) = true then some (shows (t.enc x)) else none
theorem fr_repr {C : Cf} {t : TY} : Fn1R C (.builtin "repr") t .str (reprO t) := fun X g => CallR.imp (call_repr g.room.g g.room.r.units) fun xs H Q ⟨v, i, y, S, e, sub, r, hy, k⟩ => by
  unfold reprO at hy
  by_cases h : showOk (t.enc i) = true
  · rw [if_pos h] at hy
    cases hy
    unfold showOk at h
    simp only [Bool.and_eq_true, decide_eq_true_eq] at h
    obtain ⟨⟨⟨⟨h1, h2⟩, h3⟩, h4⟩, h5⟩ := h
    exact ⟨v, t.enc i, S, e, sub, by rw [g.K]; exact r, h1, h2, h3, h4, h5, k _ fun _ => rfl⟩
  · rw [if_neg h] at hy; cases hy

/-- an answer that may lack -/
def optM {M : Type → Type} [Eff M] {A : Type} : Option A → M A
  | some a => pure a
  | none => Eff.bad
section
variable {M : Type → Type} [Eff M] {C : Cf} {G : Ctx}
theorem run_opt {A : Type} {o : Option A} {w : Eff.W M} {B : Type} (f : A → M B) : Eff.run ((optM o : M A) >>= f) w = match o with
    | some a => Eff.run (f a) w
    | none => (.bad, w) := by
  cases o with
  | some a => exact run_ok _ (Eff.run_pure _ _)
  | none => exact run_bad' _ (Eff.run_bad _)
theorem run_optM {A : Type} {o : Option A} {w : Eff.W M} : Eff.run (optM o : M A) w = match o with
    | some a => (.ok a, w)
    | none => (.bad, w) := by
  cases o with
  | some a => exact Eff.run_pure _ _
  | none => exact Eff.run_bad _

section
variable {x : Str} {p pos : Pos} {id T : String} {e e2 : Expr}
/-- f(e): a built-in function, a built-in type -/
inductive Bt (x : Str) : Value → Prop where
  | fn {id : String} (h : bootBuiltins x = some (.builtin id)) : Bt x (.builtin id)
  | ty {T : String} (h : bootBuiltins x = some (.type T)) : Bt x (.type T)
theorem pe_bt {X : Cx} {f : Value} {es : List Expr} {t : TA} {r : List V → Hp → VK → Prop} (b : Bt x f) (hc : CallR X f r) (hg : Gl X x) (hm : X.mg x = none) (ha : PA X (e :: es) t) (hn : x ≠ "__name__") (hdb : (x == ("__debug__" : Str)) = false)
    (he : starEach (e :: es) X.env = (false, eval e X.env) :: starEach es X.env) (hpl : (backTo pos (starEach es X.env)).any (·.1) = false) : PE X (.Call (.Name x p) (e :: es) [] pos) (tCB r t) := by
  cases b with
  | fn h => exact pe_callB hc hg hm h ha hn hdb he hpl
  | ty h => exact pe_callTy hc hg hm h ha hn hdb he hpl
def EJ.fn1 {f : Value} {a b : TY} {g : a.A → b.A} (F : Fn1 C f a b g) (bt : Bt x f) (hm : C.T.mg x = none) (y : EJ M C G e (.sh a)) (hg : C.sc.names.lookup x = some .globalImplicit := by rfl) (hn : x ≠ "__name__" := by first | decide | exact of_decide_eq_true rfl) (hdb : (x == ("__debug__" : Str)) = false := by first | decide | exact of_decide_eq_true rfl)
    (h1 : ∀ env, starEach [e] env = (false, eval e env) :: starEach [] env := by intro _; rfl) : EJ M C G (.Call (.Name x p) [e] [] pos) (.sh b) where
  den s := y.den s >>= fun i => pure (g i)
  ok X Wx gx tk := by
    refine PE.imp (pe_bt bt (F X gx) (gx.gl hg) (by rw [gx.mg]; exact hm) (pa_cons (y.ok X Wx gx tk) pa_nil (h1 _)) hn hdb (h1 _) rfl) fun σ H Q q => ?_
    obtain ⟨s, w, S, Ow, O, x, k⟩ := q
    refine step_E x k fun i w1 v1 H1 S1 st1 sat1 rp1 k1 => ?_
    rw [Eff.run_pure] at k1
    exact ⟨v1, i, S1, rfl, sat1.sub, rp1, fun v' h => k1 v' H1 S1 [] (ESt.refl sat1.sub) sat1.ws ⟨rfl, v', rfl, h S1⟩⟩
def EP.fn1 {f : Value} {a b : TY} {g : a.A → b.A} (F : Fn1 C f a b g) (bt : Bt x f) (hm : C.T.mg x = none) (y : EP M C G e a) (hg : C.sc.names.lookup x = some .globalImplicit := by rfl) (hn : x ≠ "__name__" := by first | decide | exact of_decide_eq_true rfl) (hdb : (x == ("__debug__" : Str)) = false := by first | decide | exact of_decide_eq_true rfl)
    (h1 : ∀ env, starEach [e] env = (false, eval e env) :: starEach [] env := by intro _; rfl) : EP M C G (.Call (.Name x p) [e] [] pos) b :=
  EP.ofJ (EJ.fn1 (p := p) (pos := pos) F bt hm y.toEJ hg hn hdb h1) (fun s => g (y.den s)) fun s w => by
    show Eff.run (pure (y.den s) >>= fun i => pure (g i)) w = _
    rw [run_ok _ (Eff.run_pure _ _), Eff.run_pure]
def EJ.fn1R {f : Value} {a b : TY} {g : a.A → Option b.A} (F : Fn1R C f a b g) (bt : Bt x f) (hm : C.T.mg x = none) (y : EJ M C G e (.sh a)) (hg : C.sc.names.lookup x = some .globalImplicit := by rfl) (hn : x ≠ "__name__" := by first | decide | exact of_decide_eq_true rfl) (hdb : (x == ("__debug__" : Str)) = false := by first | decide | exact of_decide_eq_true rfl)
    (h1 : ∀ env, starEach [e] env = (false, eval e env) :: starEach [] env := by intro _; rfl) : EJ M C G (.Call (.Name x p) [e] [] pos) (.sh b) where
  den s := y.den s >>= fun i => optM (g i)
  ok X Wx gx tk := by
    refine PE.imp (pe_bt bt (F X gx) (gx.gl hg) (by rw [gx.mg]; exact hm) (pa_cons (y.ok X Wx gx tk) pa_nil (h1 _)) hn hdb (h1 _) rfl) fun σ H Q q => ?_
    obtain ⟨s, w, S, Ow, O, x, k⟩ := q
    refine step_E x k fun i w1 v1 H1 S1 st1 sat1 rp1 k1 => ?_
    rw [run_optM] at k1
    cases e : g i with
    | none => rw [e] at k1; exact k1.elim
    | some z =>
      rw [e] at k1
      exact ⟨v1, i, z, S1, rfl, sat1.sub, rp1, e, fun v' h => k1 v' H1 S1 [] (ESt.refl sat1.sub) sat1.ws ⟨rfl, v', rfl, h S1⟩⟩
def EJ.fnL {f : Value} {a t : TY} {g : a.A → List t.A} (F : FnL C f a t g) (bt : Bt x f) (hm : C.T.mg x = none) (y : EJ M C G e (.sh a)) (hg : C.sc.names.lookup x = some .globalImplicit := by rfl) (hn : x ≠ "__name__" := by first | decide | exact of_decide_eq_true rfl) (hdb : (x == ("__debug__" : Str)) = false := by first | decide | exact of_decide_eq_true rfl)
    (h1 : ∀ env, starEach [e] env = (false, eval e env) :: starEach [] env := by intro _; rfl) : EJ M C G (.Call (.Name x p) [e] [] pos) (.o1 t) where
  den s := y.den s >>= fun i => pure (g i)
  ok X Wx gx tk := by
    refine PE.imp (pe_bt bt (F X gx) (gx.gl hg) (by rw [gx.mg]; exact hm) (pa_cons (y.ok X Wx gx tk) pa_nil (h1 _)) hn hdb (h1 _) rfl) fun σ H Q q => ?_
    obtain ⟨s, w, S, Ow, O, x, k⟩ := q
    refine step_E x k fun i w1 v1 H1 S1 st1 sat1 rp1 k1 => ?_
    rw [Eff.run_pure] at k1
    exact ⟨v1, i, S1, rfl, sat1.sub, rp1, fun p ws hp hw => k1 _ _ S1 [p] ((ESt.refl sat1.sub).new1 hp) (ws_new sat1.ws hp) ⟨p, ws, rfl, rfl, upd_same, hw⟩⟩
def EP.fnL {f : Value} {a t : TY} {g : a.A → List t.A} (F : FnL C f a t g) (bt : Bt x f) (hm : C.T.mg x = none) (y : EP M C G e a) (hg : C.sc.names.lookup x = some .globalImplicit := by rfl) (hn : x ≠ "__name__" := by first | decide | exact of_decide_eq_true rfl) (hdb : (x == ("__debug__" : Str)) = false := by first | decide | exact of_decide_eq_true rfl)
    (h1 : ∀ env, starEach [e] env = (false, eval e env) :: starEach [] env := by intro _; rfl) : EP M C G (.Call (.Name x p) [e] [] pos) (.list t) :=
  EP.ofJ (EJ.share (EJ.fnL (p := p) (pos := pos) F bt hm y.toEJ hg hn hdb h1)) (fun s => g (y.den s)) fun s w => by
    show Eff.run (pure (y.den s) >>= fun i => pure (g i)) w = _
    rw [run_ok _ (Eff.run_pure _ _), Eff.run_pure]
def EJ.fn2 {f : Value} {a b c : TY} {g : a.A → b.A → c.A} (F : Fn2 C f a b c g) (bt : Bt x f) (hm : C.T.mg x = none) (y : EJ M C G e (.sh a)) (z : EJ M C G e2 (.sh b)) (hg : C.sc.names.lookup x = some .globalImplicit := by rfl) (hn : x ≠ "__name__" := by first | decide | exact of_decide_eq_true rfl) (hdb : (x == ("__debug__" : Str)) = false := by first | decide | exact of_decide_eq_true rfl)
    (h1 : ∀ env, starEach [e, e2] env = (false, eval e env) :: starEach [e2] env := by intro _; rfl) (h2 : ∀ env, starEach [e2] env = (false, eval e2 env) :: starEach [] env := by intro _; rfl) (hpl : ∀ env, (backTo pos (starEach [e2] env)).any (·.1) = false := by intro _; rfl) : EJ M C G (.Call (.Name x p) [e, e2] [] pos) (.sh c) where
  den s := y.den s >>= fun i => z.den s >>= fun j => pure (g i j)
  ok X Wx gx tk := by
    refine PE.imp (pe_bt bt (F X gx) (gx.gl hg) (by rw [gx.mg]; exact hm) (pa_cons (y.ok X Wx gx tk) (pa_cons (z.ok X Wx gx tk) pa_nil (h2 _)) (h1 _)) hn hdb (h1 _) (hpl _)) fun σ H Q q => ?_
    obtain ⟨s, w, S, Ow, O, x, k⟩ := q
    refine step_E x k fun i w1 v1 H1 S1 st1 sat1 rp1 k1 => ?_
    refine step_E sat1 k1 fun j w2 v2 H2 S2 st2 sat2 rp2 k2 => ?_
    rw [Eff.run_pure] at k2
    exact ⟨v1, v2, i, j, S2, rfl, sat2.sub, rp1.mono st2.ext, rp2, fun v' h => k2 v' H2 S2 [] (ESt.refl sat2.sub) sat2.ws ⟨rfl, v', rfl, h S2⟩⟩
def EP.fn2 {f : Value} {a b c : TY} {g : a.A → b.A → c.A} (F : Fn2 C f a b c g) (bt : Bt x f) (hm : C.T.mg x = none) (y : EP M C G e a) (z : EP M C G e2 b) (hg : C.sc.names.lookup x = some .globalImplicit := by rfl) (hn : x ≠ "__name__" := by first | decide | exact of_decide_eq_true rfl) (hdb : (x == ("__debug__" : Str)) = false := by first | decide | exact of_decide_eq_true rfl)
    (h1 : ∀ env, starEach [e, e2] env = (false, eval e env) :: starEach [e2] env := by intro _; rfl) (h2 : ∀ env, starEach [e2] env = (false, eval e2 env) :: starEach [] env := by intro _; rfl) (hpl : ∀ env, (backTo pos (starEach [e2] env)).any (·.1) = false := by intro _; rfl) : EP M C G (.Call (.Name x p) [e, e2] [] pos) c :=
  EP.ofJ (EJ.fn2 (p := p) (pos := pos) F bt hm y.toEJ z.toEJ hg hn hdb h1 h2 hpl) (fun s => g (y.den s) (z.den s)) fun s w => run2 _
end
end
end Tp

set_option Elab.async false
set_option linter.all false
set_option maxRecDepth 100000
set_option maxHeartbeats 4000000
/-! Tp12: subscripts, slices, +, in, isinstance. -/
namespace Tp
open PySem PySem.Spec L2
open PyProof.Rows hiding St

theorem RepL.atI {K : PySem.W.Frag} {S : Hp} {xs : List PV} {vs : List V} {i : Int} {x : PV} (h : RepL K S xs vs) (e : atI xs i = some x) : ∃ v, L2.atI vs i = some v ∧ Rep K S x v := by
  unfold L2.atI at e ⊢
  rw [h.len]
  cases q : ixN xs.length i with
  | none => rw [q] at e; cases e
  | some j =>
    rw [q] at e
    exact h.get e
theorem atI_map {A B : Type} (f : A → B) (xs : List A) (i : Int) : atI (xs.map f) i = (atI xs i).map f := by
  unfold L2.atI
  rw [List.length_map]
  cases ixN xs.length i with
  | none => rfl
  | some j => simp
/-- the part of a list that a slice means -/
def cut {A : Type} (xs : List A) (lo hi : Option Int) : List A := (xs.drop (HT.sIx xs.length 0 lo)).take (HT.sIx xs.length xs.length hi - HT.sIx xs.length 0 lo)
theorem cut_map {A B : Type} (f : A → B) (xs : List A) (lo hi : Option Int) : cut (xs.map f) lo hi = (cut xs lo hi).map f := by
  unfold cut
  rw [List.length_map, List.map_take, List.map_drop]
theorem RepL.cut {K : PySem.W.Frag} {S : Hp} {xs : List PV} {vs : List V} (lo hi : Option Int) (h : RepL K S xs vs) : RepL K S (Tp.cut xs lo hi) (cutV vs lo hi) := by
  unfold cutV Tp.cut
  rw [h.len]
  exact (h.drop _).take _

section
variable {M : Type → Type} [Eff M] {C : Cf} {G : Ctx}
/-! ### xs[i] -/
/-- what a subscript of a value gives, by values -/
def Ix2 (C : Cf) (a b : TY) (f : a.A → Int → Option b.A) : Prop := ∀ X, XG C X → IxR X fun x y H Q => ∃ i : a.A, ∃ j : Int, ∃ z : b.A, ∃ S, Sub S H ∧ Rep C.T.K S (a.enc i) x ∧ y = .int j ∧ f i j = some z ∧ ∀ v, Rep C.T.K S (b.enc z) v → Q v H
theorem IxR.imp {X : Cx} {r r' : R2} (h : IxR X r) (k : ∀ x y H Q, r' x y H Q → r x y H Q) : IxR X r' :=
  fun value slice pins s σ H x y v u Q I rx ry q hs => h value slice pins s σ H x y v u Q I rx ry (k x y H Q q) hs
theorem ix_lst {t : TY} : Ix2 C (.list t) t (fun xs i => atI xs i) := fun X g => IxR.imp ix_list fun x y H Q ⟨i, j, z, S, sub, r, ey, hz, k⟩ => by
  obtain ⟨a, vs, e1, e2, e3⟩ := r
  obtain ⟨v, h1, h2⟩ := e3.atI (i := j) (x := t.enc z) (by rw [atI_map, show atI i j = some z from hz]; rfl)
  exact ⟨a, vs, j, v, e1, ey, sqL_of sub e2, h1, k v h2⟩
theorem ix_scr : Ix2 C .scr .int (fun xs i => atI xs i) := fun X g => IxR.imp ix_list fun x y H Q ⟨i, j, z, S, sub, r, ey, hz, k⟩ => by
  obtain ⟨a, e1, e2⟩ := r
  exact ⟨a, _, j, .int z, e1, ey, by rw [g.K]; exact Same.seq sub e2, by rw [atI_map, show atI i j = some z from hz]; rfl, k _ rfl⟩
theorem ix_tupl {t : TY} : Ix2 C (.tupl t) t (fun xs i => atI xs i) := fun X g => IxR.imp ix_tup fun x y H Q ⟨i, j, z, S, sub, r, ey, hz, k⟩ => by
  obtain ⟨a, vs, e1, e2, e3⟩ := r
  obtain ⟨v, h1, h2⟩ := e3.atI (i := j) (x := t.enc z) (by rw [atI_map, show atI i j = some z from hz]; rfl)
  exact ⟨a, vs, j, v, e1, ey, by rw [g.K]; exact ext_seqT sub e2, h1, k v h2⟩
def EJ.ix {a b : TY} {f : a.A → Int → Option b.A} {e1 e2 : Expr} {pos : Pos} (F : Ix2 C a b f) (x : EJ M C G e1 (.sh a)) (y : EJ M C G e2 (.sh .int)) (hs : PlainIx e2 := by intro _ _; rfl) : EJ M C G (.Subscript e1 e2 pos) (.sh b) where
  den s := x.den s >>= fun i => y.den s >>= fun j => optM (f i j)
  ok X Wx g tk := by
    refine PE.imp (pe_ix (F X g) (x.ok X Wx g tk) (y.ok X Wx g tk) hs) fun σ H Q q => ?_
    obtain ⟨s, w, S, Ow, O, sat, k⟩ := q
    refine step_E sat k fun i w1 v1 H1 S1 st1 sat1 rp1 k1 => ?_
    refine step_E sat1 k1 fun j w2 v2 H2 S2 st2 sat2 rp2 k2 => ?_
    rw [run_optM] at k2
    cases e : f i j with
    | none => rw [e] at k2; exact k2.elim
    | some z =>
      rw [e] at k2
      exact ⟨i, j, z, S2, sat2.sub, rp1.mono st2.ext, rp2, e, fun v h => k2 v H2 S2 [] (ESt.refl sat2.sub) sat2.ws ⟨rfl, v, rfl, h⟩⟩
/-- a part of a tuple of known length -/
def EP.part {a b : TY} (n : Nat) (f : a.A → b.A) {e1 : Expr} {j : Nat} {p pos : Pos} (x : EP M C G e1 a) (h : ∀ y, ∃ ys, a.enc y = .tup ys ∧ ys[n]? = some (b.enc (f y)) := by intro _; exact ⟨_, rfl, rfl⟩) : EP M C G (.Subscript e1 (.Constant (.int n) j p) pos) b where
  den s := f (x.den s)
  ok X g := by
    refine PE.imp (pe_ix ix_tup (x.ok X g) pe_int (fun _ _ => rfl)) fun σ H Q q => ?_
    obtain ⟨s, w, S, Ow, O, sat, k⟩ := q
    refine step_p sat fun v1 H1 S1 st1 sat1 rp1 => ?_
    obtain ⟨ys, h1, h2⟩ := h (x.den s)
    rw [h1] at rp1
    obtain ⟨l, vs, e1, e2, e3⟩ := rp1
    obtain ⟨v, h3, h4⟩ := e3.get h2
    exact ⟨l, vs, n, v, e1, rfl, by rw [g.K]; exact ext_seqT sat1.sub e2, atI_nat h3, k v H1 S1 st1 sat1.ws h4⟩
def EJ.part {a b : TY} (n : Nat) (f : a.A → b.A) {e1 : Expr} {j : Nat} {p pos : Pos} (x : EJ M C G e1 (.sh a)) (h : ∀ y, ∃ ys, a.enc y = .tup ys ∧ ys[n]? = some (b.enc (f y)) := by intro _; exact ⟨_, rfl, rfl⟩) : EJ M C G (.Subscript e1 (.Constant (.int n) j p) pos) (.sh b) where
  den s := x.den s >>= fun i => pure (f i)
  ok X Wx g tk := by
    refine PE.imp (pe_ix ix_tup (x.ok X Wx g tk) pe_int (fun _ _ => rfl)) fun σ H Q q => ?_
    obtain ⟨s, w, S, Ow, O, sat, k⟩ := q
    refine step_E sat k fun i w1 v1 H1 S1 st1 sat1 rp1 k1 => ?_
    rw [Eff.run_pure] at k1
    obtain ⟨ys, h1, h2⟩ := h i
    rw [h1] at rp1
    obtain ⟨l, vs, e1, e2, e3⟩ := rp1
    obtain ⟨v, h3, h4⟩ := e3.get h2
    exact ⟨l, vs, n, v, e1, rfl, by rw [g.K]; exact ext_seqT sat1.sub e2, atI_nat h3, k1 v H1 S1 [] (ESt.refl sat1.sub) sat1.ws ⟨rfl, v, rfl, h4⟩⟩

/-! ### slices -/
/-- a slice's bound -/
structure OJ (M : Type → Type) [Eff M] (C : Cf) (G : Ctx) (e : Option Expr) where
  den : ST G → M (Option Int)
  ok : ∀ X Wx, XG C X → Takes X Wx → ∃ t : TO, PO X e t ∧ ∀ (s : ST G) (w : Eff.W M) (S : Hp) (Ow O : List Addr) (σ : St) (H : Hp) (B : Type) (Z : Hp → Hp → R B × Eff.W M → Prop) (f : Option Int → M B) (Q : Option Int → Hp → Prop), Sat M C.T.K C.p G s w σ H S Ow O → Z H S (Eff.run (den s >>= f) w) → (∀ H1 S1 o, ESt H S Ow [] H1 S1 → Z H S o → Z H1 S1 o) →
    (∀ b w', Z H S (.er b, w') → ∀ cls d H' S', ESt H S Ow [] H' S' → Eff.ws (M := M) w' (σ[C.p]?.join) H' Ow → ErrR C.T.K S' b cls d → Wx cls d σ H') → (∀ w', Z H S (.bad, w') → False) →
    (∀ (a : Option Int) (w' : Eff.W M) H' S', ESt H S Ow [] H' S' → Sat M C.T.K C.p G s w' σ H' S' Ow O → Z H' S' (Eff.run (f a) w') → Q a H') → t σ H Q
def OJ.none : OJ M C G none where
  den _ := pure .none
  ok X Wx g tk := ⟨_, po_none, fun s w S Ow O σ H B Z f Q sat z hp he hb k => by
    rw [run_ok _ (Eff.run_pure _ _)] at z
    exact k .none w H S (ESt.refl sat.sub) sat z⟩
def OJ.some {e : Expr} (a : EJ M C G e (.sh .int)) : OJ M C G (some e) where
  den s := a.den s >>= fun i => pure (.some i)
  ok X Wx g tk := ⟨_, po_some (a.ok X Wx g tk), fun s w S Ow O σ H B Z f Q sat z hp he hb k => by
    have z2 : Z H S (Eff.run (a.den s >>= fun i => f (.some i)) w) := by
      rw [Eff.run_bind] at z ⊢
      cases e : Eff.run (a.den s) w with
      | mk o w' =>
        rw [Eff.run_bind, e] at z
        cases o with
        | ok b =>
          dsimp only at z
          rw [Eff.run_pure] at z
          exact z
        | er b => exact z
        | bad => exact z
    exact step_gen Z sat z2 hp he hb fun i w1 v1 H1 S1 _ st1 sat1 rp1 k1 => ⟨i, rp1, k _ w1 H1 S1 st1 sat1 k1⟩⟩
def Sl2 (C : Cf) (a t : TY) (f : a.A → Option Int → Option Int → List t.A) : Prop := ∀ X, XG C X → SlR X fun x lo hi H Q => ∃ i : a.A, ∃ S, Sub S H ∧ Rep C.T.K S (a.enc i) x ∧ ∀ p ws, H p = none → RepL C.T.K S ((f i lo hi).map t.enc) ws → Q (.ref p) (upd H p (.lst ws))
theorem SlR.imp {X : Cx} {r r' : V → Option Int → Option Int → Hp → VK → Prop} (h : SlR X r) (k : ∀ x lo hi H Q, r' x lo hi H Q → r x lo hi H Q) : SlR X r' :=
  fun pins s σ H x v vl vu lo hi sl Q I rx hs pl pu q => h pins s σ H x v vl vu lo hi sl Q I rx hs pl pu (k x lo hi H Q q)
theorem sl_lst {t : TY} : Sl2 C (.list t) t (fun xs lo hi => cut xs lo hi) := fun X g => SlR.imp sl_list fun x lo hi H Q ⟨i, S, sub, r, k⟩ => by
  obtain ⟨a, vs, e1, e2, e3⟩ := r
  refine ⟨a, vs, e1, sqL_of sub e2, fun p hp => k p _ hp ?_⟩
  have := e3.cut lo hi
  rwa [cut_map] at this
theorem sl_scr : Sl2 C .scr .int (fun xs lo hi => cut xs lo hi) := fun X g => SlR.imp sl_list fun x lo hi H Q ⟨i, S, sub, r, k⟩ => by
  obtain ⟨a, e1, e2⟩ := r
  refine ⟨a, _, e1, by rw [g.K]; exact Same.seq sub e2, fun p hp => k p _ hp ?_⟩
  have := (ints_repL (K := C.T.K) (S := S) (bs := i)).cut lo hi
  rwa [cut_map] at this
def EJ.slice {a t : TY} {f : a.A → Option Int → Option Int → List t.A} {e1 : Expr} {lo hi : Option Expr} {p2 pos : Pos} (F : Sl2 C a t f) (x : EJ M C G e1 (.sh a)) (l : OJ M C G lo) (u : OJ M C G hi) : EJ M C G (.Subscript e1 (.Slice lo hi none p2) pos) (.o1 t) where
  den s := x.den s >>= fun i => l.den s >>= fun j => u.den s >>= fun k => pure (f i j k)
  ok X Wx g tk := by
    obtain ⟨tl, pl, hl⟩ := l.ok X Wx g tk
    obtain ⟨tu, pu, hu⟩ := u.ok X Wx g tk
    refine PE.imp (pe_slice (F X g) (x.ok X Wx g tk) pl pu) fun σ H Q q => ?_
    obtain ⟨s, w, S, Ow, O, sat, k⟩ := q
    refine step_E sat k fun i w1 v1 H1 S1 st1 sat1 rp1 k1 => ?_
    refine hl s w1 S1 Ow O σ H1 _ (fun H S o => PostE M C.T.K C.p σ H S Ow (.o1 t) (fun cls d H' => Wx cls d σ H') Q o) _ _ sat1 k1 (fun _ _ _ st z => z.pre st) (fun b w' z => z) (fun _ z => z) fun j w2 H2 S2 st2 sat2 k2 => ?_
    refine hu s w2 S2 Ow O σ H2 _ (fun H S o => PostE M C.T.K C.p σ H S Ow (.o1 t) (fun cls d H' => Wx cls d σ H') Q o) _ _ sat2 k2 (fun _ _ _ st z => z.pre st) (fun b w' z => z) (fun _ z => z) fun l w3 H3 S3 st3 sat3 k3 => ?_
    rw [Eff.run_pure] at k3
    exact ⟨i, S3, sat3.sub, rp1.mono (st2.ext.trans st3.ext), fun p ws hp hw => k3 _ _ S3 [p] ((ESt.refl sat3.sub).new1 hp) (ws_new sat3.ws hp) ⟨p, ws, rfl, rfl, upd_same, hw⟩⟩
/-- bounds that are total -/
structure OP (M : Type → Type) [Eff M] (C : Cf) (G : Ctx) (e : Option Expr) extends OJ M C G e where
  f : ST G → Option Int
  hf : ∀ s w, Eff.run (den s) w = (.ok (f s), w)
def OP.none : OP M C G none := ⟨OJ.none, fun _ => .none, fun _ _ => Eff.run_pure _ _⟩
def OP.some {e : Expr} (a : EP M C G e .int) : OP M C G (some e) := ⟨OJ.some a.toEJ, fun s => .some (a.den s), fun s w => by
  show Eff.run (pure (a.den s) >>= fun i => pure (Option.some i)) w = _
  rw [run_ok _ (Eff.run_pure _ _), Eff.run_pure]⟩
def EP.slice {a t : TY} {f : a.A → Option Int → Option Int → List t.A} {e1 : Expr} {lo hi : Option Expr} {p2 pos : Pos} (F : Sl2 C a t f) (x : EP M C G e1 a) (l : OP M C G lo) (u : OP M C G hi) : EP M C G (.Subscript e1 (.Slice lo hi none p2) pos) (.list t) :=
  EP.ofJ (EJ.share (EJ.slice (p2 := p2) (pos := pos) F x.toEJ l.toOJ u.toOJ)) (fun s => f (x.den s) (l.f s) (u.f s)) fun s w => by
    show Eff.run (pure (x.den s) >>= fun i => l.den s >>= fun j => u.den s >>= fun k => pure (f i j k)) w = _
    rw [run_ok _ (Eff.run_pure _ _), run_ok _ (l.hf s w), run_ok _ (u.hf s w), Eff.run_pure]

/-! ### xs + ys -/
/-- together not too long -/
def catO {A : Type} (xs ys : List A) : Option (List A) := if xs.length + ys.length ≤ sizeLine then some (xs ++ ys) else none
def EJ.cat {t : TY} {e1 e2 : Expr} {pos : Pos} (x : EJ M C G e1 (.sh (.list t))) (y : EJ M C G e2 (.sh (.list t))) : EJ M C G (.BinOp e1 .Add e2 pos) (.o1 t) where
  den s := x.den s >>= fun i => y.den s >>= fun j => optM (catO i j)
  ok X Wx g tk := by
    refine PE.imp (pe_op op_cat (x.ok X Wx g tk) (y.ok X Wx g tk)) fun σ H Q q => ?_
    obtain ⟨s, w, S, Ow, O, sat, k⟩ := q
    refine step_E sat k fun i w1 v1 H1 S1 st1 sat1 rp1 k1 => ?_
    refine step_E sat1 k1 fun j w2 v2 H2 S2 st2 sat2 rp2 k2 => ?_
    rw [run_optM] at k2
    unfold catO at k2
    by_cases h : (i : List t.A).length + (j : List t.A).length ≤ sizeLine
    · rw [if_pos h] at k2
      obtain ⟨l1, vs1, a1, a2, a3⟩ := rp1.mono st2.ext
      obtain ⟨l2, vs2, b1, b2, b3⟩ := rp2
      refine ⟨l1, l2, vs1, vs2, a1, b1, sat2.sub _ _ a2, sat2.sub _ _ b2, by rw [a3.len, b3.len, List.length_map, List.length_map]; exact h, fun p hp => ?_⟩
      refine k2 _ _ S2 [p] ((ESt.refl sat2.sub).new1 hp) (ws_new sat2.ws hp) ⟨p, _, rfl, rfl, upd_same, ?_⟩
      rw [List.map_append]
      exact a3.app b3
    · rw [if_neg h] at k2; exact k2.elim

/-! ### in -/
/-- a readable row: a list, a tuple, as a row of one type -/
structure RowT (K : PySem.W.Frag) (a t : TY) where
  f : a.A → List t.A
  ok : ∀ S H x v, Sub S H → Rep K S (a.enc x) v → ∃ l vs, v = .ref l ∧ (SqL K H l vs ∨ SqT K H l vs) ∧ RepL K S ((f x).map t.enc) vs
def RowT.list {K : PySem.W.Frag} {t : TY} : RowT K (.list t) t where
  f x := x
  ok S H x v sub r := by
    obtain ⟨a, vs, e1, e2, e3⟩ := r
    exact ⟨a, vs, e1, .inl (sqL_of sub e2), e3⟩
def RowT.tupl {K : PySem.W.Frag} {t : TY} : RowT K (.tupl t) t where
  f x := x
  ok S H x v sub r := by
    obtain ⟨a, vs, e1, e2, e3⟩ := r
    exact ⟨a, vs, e1, .inr (ext_seqT sub e2), e3⟩
def RowT.tup2 {K : PySem.W.Frag} {t : TY} : RowT K (.tup2 t t) t where
  f x := [x.1, x.2]
  ok S H x v sub r := by
    obtain ⟨a, vs, e1, e2, e3⟩ := r
    exact ⟨a, vs, e1, .inr (ext_seqT sub e2), e3⟩
def RowT.tup3 {K : PySem.W.Frag} {t : TY} : RowT K (.tup3 t t t) t where
  f x := [x.1, x.2.1, x.2.2]
  ok S H x v sub r := by
    obtain ⟨a, vs, e1, e2, e3⟩ := r
    exact ⟨a, vs, e1, .inr (ext_seqT sub e2), e3⟩
def RowT.scr {K : PySem.W.Frag} : RowT K .scr .int where
  f x := x
  ok S H x v sub r := by
    obtain ⟨a, e1, e2⟩ := r
    exact ⟨a, _, e1, .inl (Same.seq sub e2), ints_repL⟩
def EJ.inn {a b t : TY} {f : a.A → List b.A → Bool} {op : CmpOp} {e1 e2 : Expr} {pos : Pos} (F : In2 C op a b f) (Rw : RowT C.T.K t b) (x : EJ M C G e1 (.sh a)) (y : EJ M C G e2 (.sh t)) (hm : behindInMarks op e2 = false := by first | exact nomark _ | rfl) : EJ M C G (.Compare e1 [op] [e2] pos) (.sh .bool) where
  den s := x.den s >>= fun i => y.den s >>= fun j => pure (f i (Rw.f j))
  ok X Wx g tk := by
    refine PE.imp (pe_cmpR (F X g) (x.ok X Wx g tk) (y.ok X Wx g tk) hm) fun σ H Q q => ?_
    obtain ⟨s, w, S, Ow, O, sat, k⟩ := q
    refine step_E sat k fun i w1 v1 H1 S1 st1 sat1 rp1 k1 => ?_
    refine step_E sat1 k1 fun j w2 v2 H2 S2 st2 sat2 rp2 k2 => ?_
    rw [Eff.run_pure] at k2
    obtain ⟨l, vs, e1, e2, e3⟩ := Rw.ok S2 H2 j v2 sat2.sub rp2
    exact ⟨i, Rw.f j, S2, l, vs, sat2.sub, rp1.mono st2.ext, e1, e2, e3, k2 _ H2 S2 [] (ESt.refl sat2.sub) sat2.ws ⟨rfl, _, rfl, rfl⟩⟩
def EP.inn {a b t : TY} {f : a.A → List b.A → Bool} {op : CmpOp} {e1 e2 : Expr} {pos : Pos} (F : In2 C op a b f) (Rw : RowT C.T.K t b) (x : EP M C G e1 a) (y : EP M C G e2 t) (hm : behindInMarks op e2 = false := by first | exact nomark _ | rfl) : EP M C G (.Compare e1 [op] [e2] pos) .bool :=
  EP.ofJ (EJ.inn (pos := pos) F Rw x.toEJ y.toEJ hm) (fun s => f (x.den s) (Rw.f (y.den s))) fun s w => run2 _
def TJ.inn {a b t : TY} {f : a.A → List b.A → Bool} {op : CmpOp} {e1 e2 : Expr} {pos : Pos} (F : In2 C op a b f) (Rw : RowT C.T.K t b) (x : EJ M C G e1 (.sh a)) (y : EJ M C G e2 (.sh t)) (hm : behindInMarks op e2 = false := by first | exact nomark _ | rfl) : TJ M C G (.Compare e1 [op] [e2] pos) where
  den s := x.den s >>= fun i => y.den s >>= fun j => pure (f i (Rw.f j))
  ok X Wx g tk := by
    refine PT.imp (pt_cmpR (F X g) (x.ok X Wx g tk) (y.ok X Wx g tk) hm) fun σ H Q q => ?_
    obtain ⟨s, w, S, Ow, O, sat, k⟩ := q
    refine step_gen (fun H S o => PostT M C.T.K C.p σ H S Ow (fun cls d H' => Wx cls d σ H') Q o) sat k (fun _ _ _ st z => z.pre st) (fun b w' z => z) (fun _ z => z) fun i w1 v1 H1 S1 _ st1 sat1 rp1 k1 => ?_
    refine step_gen (fun H S o => PostT M C.T.K C.p σ H S Ow (fun cls d H' => Wx cls d σ H') Q o) sat1 k1 (fun _ _ _ st z => z.pre st) (fun b w' z => z) (fun _ z => z) fun j w2 v2 H2 S2 _ st2 sat2 rp2 k2 => ?_
    rw [Eff.run_pure] at k2
    obtain ⟨l, vs, e1, e2, e3⟩ := Rw.ok S2 H2 j v2 sat2.sub rp2
    exact ⟨i, Rw.f j, S2, l, vs, sat2.sub, rp1.mono st2.ext, e1, e2, e3, _, rfl, k2 H2 S2 (ESt.refl sat2.sub) sat2.ws⟩
def TP.inn {a b t : TY} {f : a.A → List b.A → Bool} {op : CmpOp} {e1 e2 : Expr} {pos : Pos} (F : In2 C op a b f) (Rw : RowT C.T.K t b) (x : EP M C G e1 a) (y : EP M C G e2 t) (hm : behindInMarks op e2 = false := by first | exact nomark _ | rfl) : TP M C G (.Compare e1 [op] [e2] pos) :=
  TP.ofJ (TJ.inn (pos := pos) F Rw x.toEJ y.toEJ hm) (fun s => f (x.den s) (Rw.f (y.den s))) fun s w => run2 _

/-! ### is None -/
/-- never None, maybe None -/
def isNon : PV → Bool
  | .non => true
  | _ => false
theorem rep_non {K : PySem.W.Frag} {S : Hp} {x : PV} {v : V} (r : Rep K S x v) : (v = .non ↔ isNon x = true) := by
  cases x <;> simp only [Rep, isNon] at r ⊢
  · simp [r]
  · simp [r]
  · simp [r]
  · simp [r]
  · obtain ⟨a, vs, e, _⟩ := r; simp [e]
  · obtain ⟨a, vs, e, _⟩ := r; simp [e]
  · obtain ⟨a, dx, gs, e, _⟩ := r; simp [e]
  · obtain ⟨a, e, _⟩ := r; simp [e]
class NotN (t : TY) : Prop where
  h : ∀ x : t.A, isNon (t.enc x) = false
instance : NotN .int := ⟨fun _ => rfl⟩
instance : NotN .bool := ⟨fun _ => rfl⟩
instance : NotN .str := ⟨fun _ => rfl⟩
instance : NotN .scr := ⟨fun _ => rfl⟩
instance {t : TY} : NotN (.list t) := ⟨fun _ => rfl⟩
instance {t : TY} : NotN (.tupl t) := ⟨fun _ => rfl⟩
instance : NotN .tup0 := ⟨fun _ => rfl⟩
instance {a : TY} : NotN (.tup1 a) := ⟨fun _ => rfl⟩
instance {a b : TY} : NotN (.tup2 a b) := ⟨fun _ => rfl⟩
instance {a b c : TY} : NotN (.tup3 a b c) := ⟨fun _ => rfl⟩
instance {a b c d : TY} : NotN (.tup4 a b c d) := ⟨fun _ => rfl⟩
theorem isNon_opt {t : TY} [NotN t] : ∀ o : Option t.A, isNon ((TY.opt t).enc o) = o.isNone
  | none => rfl
  | some y => NotN.h (t := t) y
theorem dec_non {K : PySem.W.Frag} {S : Hp} {x : PV} {v : V} (r : Rep K S x v) : decide (v = .non) = isNon x := by
  have h := rep_non r
  cases e : isNon x with
  | true => exact decide_eq_true (h.mpr e)
  | false => exact decide_eq_false fun z => by rw [h.mp z] at e; cases e
theorem cm2_isN {t : TY} (hn : ∀ x : t.A, isNon (t.enc x) = false := by intro _; rfl) : Cm2 C .Is (.opt t) .non (fun o _ => o.isNone) := fun X g => OpR.imp op_isN fun x y H Q ⟨i, j, S, _, r1, r2, k⟩ => by
  cases (show y = V.non from r2)
  refine ⟨rfl, ?_⟩
  haveI : NotN t := ⟨hn⟩
  rw [dec_non r1, isNon_opt]
  exact k
theorem cm2_notN {t : TY} (hn : ∀ x : t.A, isNon (t.enc x) = false := by intro _; rfl) : Cm2 C .IsNot (.opt t) .non (fun o _ => !o.isNone) := fun X g => OpR.imp op_notN fun x y H Q ⟨i, j, S, _, r1, r2, k⟩ => by
  cases (show y = V.non from r2)
  refine ⟨rfl, ?_⟩
  haveI : NotN t := ⟨hn⟩
  rw [dec_non r1, isNon_opt]
  exact k
/-- a value that is one of two -/
def EJ.unopt {t : TY} {e : Expr} (x : EJ M C G e (.sh (.opt t))) : EJ M C G e (.sh t) where
  den s := x.den s >>= optM
  ok X Wx g tk := by
    refine PE.imp (x.ok X Wx g tk) fun σ H Q q => ?_
    obtain ⟨s, w, S, Ow, O, sat, k⟩ := q
    refine step_E sat k fun i w1 v1 H1 S1 st1 sat1 rp1 k1 => ?_
    rw [run_optM] at k1
    cases i with
    | none => exact k1.elim
    | some z => exact k1 v1 H1 S1 [] (ESt.refl sat1.sub) sat1.ws ⟨rfl, v1, rfl, rp1⟩
/-- a value, said as one that may be None -/
def EP.toOpt {t : TY} {e : Expr} (x : EP M C G e t) : EP M C G e (.opt t) := x.as Option.some fun _ => rfl
def EP.nonOpt {t : TY} {e : Expr} (x : EP M C G e .non) : EP M C G e (.opt t) := x.as (fun _ => none) fun _ => rfl
def EJ.as {e : Expr} {t t' : TY} (a : EJ M C G e (.sh t)) (f : t.A → t'.A) (h : ∀ x, t'.enc (f x) = t.enc x) : EJ M C G e (.sh t') where
  den s := a.den s >>= fun x => pure (f x)
  ok X Wx g tk := by
    refine PE.imp (a.ok X Wx g tk) fun σ H Q q => ?_
    obtain ⟨s, w, S, Ow, O, sat, k⟩ := q
    refine step_E sat k fun i w1 v1 H1 S1 st1 sat1 rp1 k1 => ?_
    rw [Eff.run_pure] at k1
    exact k1 v1 H1 S1 [] (ESt.refl sat1.sub) sat1.ws ⟨rfl, v1, rfl, by rw [h]; exact rp1⟩
def EJ.toOpt {t : TY} {e : Expr} (x : EJ M C G e (.sh t)) : EJ M C G e (.sh (.opt t)) := x.as (t' := .opt t) Option.some fun _ => rfl
end

/-! ### isinstance -/
/-- what is asked of an own class -/
structure InsF (T : Wd) (c : Str) : Prop where
  cl : Cls T.K (He.ga T.K c)
  ha : PySem.W.findIn T.K (.ref (He.ga T.K c)) "__class__" = some (some (.builtin "object.__class__"))
  hn : PySem.W.specialIn T.K (.builtin "object.__class__") "__get__" = some (some (.builtin "getset_descriptor.__get__"))
  htk : PySem.W.takesIn T.K (.builtin "object.__class__") = some true
  hm : PySem.W.mroIn T.K (He.ga T.K c) (.type "object") = some true
/-- the class of all values of a type -/
structure TagT (T : Wd) (t : TY) where
  tg : Value
  ok : ∀ S H (x : t.A) v, Sub S H → Rep T.K S (t.enc x) v → TyX T.K H v tg
theorem tyx_seqL {K : PySem.W.Frag} {H : Hp} {a : Addr} {vs : List V} (h : SqL K H a vs) : TyX K H (.ref a) (.type "list") := by
  rcases h with (h | ⟨o, h⟩) | ⟨o, its, n, h, hc, _⟩
  · exact .base (.lst h)
  · exact .base (.frz h)
  · exact .kList h hc
theorem tyx_seqT {K : PySem.W.Frag} {H : Hp} {a : Addr} {vs : List V} (h : SqT K H a vs) : TyX K H (.ref a) (.type "tuple") := by
  rcases h with (h | ⟨o, h⟩) | ⟨o, its, n, h, hc, _⟩
  · exact .base (.tup h)
  · exact .fTuple h
  · exact .kTuple h hc
section
variable {T : Wd}
def TagT.int : TagT T .int := ⟨.type "int", fun S H x v sub r => by cases (show v = V.int x from r); exact .base (.int _)⟩
def TagT.bool : TagT T .bool := ⟨.type "bool", fun S H x v sub r => by cases (show v = V.bl x from r); exact .base (.bl _)⟩
def TagT.str : TagT T .str := ⟨.type "str", fun S H x v sub r => by cases (show v = V.str x from r); exact .base (.str _)⟩
def TagT.non : TagT T .non := ⟨.type "NoneType", fun S H x v sub r => by cases (show v = V.non from r); exact .base .non⟩
def TagT.list {t : TY} : TagT T (.list t) := ⟨.type "list", fun S H x v sub r => by obtain ⟨a, vs, rfl, e2, e3⟩ := r; exact tyx_seqL (sqL_of sub e2)⟩
def TagT.scr : TagT T .scr := ⟨.type "list", fun S H x v sub r => by obtain ⟨a, rfl, e2⟩ := r; exact tyx_seqL (Same.seq sub e2)⟩
theorem tag_tup {S H : Hp} {xs : List PV} {v : V} (sub : Sub S H) (r : Rep T.K S (.tup xs) v) : TyX T.K H v (.type "tuple") := by
  obtain ⟨a, vs, rfl, e2, e3⟩ := r; exact tyx_seqT (ext_seqT sub e2)
def TagT.tupl {t : TY} : TagT T (.tupl t) := ⟨.type "tuple", fun S H x v sub r => tag_tup sub r⟩
def TagT.tup0 : TagT T .tup0 := ⟨.type "tuple", fun S H x v sub r => tag_tup sub r⟩
def TagT.tup1 {a : TY} : TagT T (.tup1 a) := ⟨.type "tuple", fun S H x v sub r => tag_tup sub r⟩
def TagT.tup2 {a b : TY} : TagT T (.tup2 a b) := ⟨.type "tuple", fun S H x v sub r => tag_tup sub r⟩
def TagT.tup3 {a b c : TY} : TagT T (.tup3 a b c) := ⟨.type "tuple", fun S H x v sub r => tag_tup sub r⟩
def TagT.tup4 {a b c d : TY} : TagT T (.tup4 a b c d) := ⟨.type "tuple", fun S H x v sub r => tag_tup sub r⟩
/-- an instance of an own class -/
@[reducible] def TY.ins (c : Str) (fs : List (Str × TY)) : TY := ⟨FT fs, fun x => .ins c (FT.enc fs x)⟩
def TagT.ins {c : Str} {fs : List (Str × TY)} (F : InsF T c) : TagT T (TY.ins c fs) := ⟨.ref (He.ga T.K c), fun S H x v sub r => by
  obtain ⟨a, dx, gs, rfl, e2, e3⟩ := r
  exact .base (.ins (sub _ _ e2) F.cl F.ha F.hn F.htk F.hm)⟩
end
section
variable {M : Type → Type} [Eff M] {C : Cf} {G : Ctx}
/-- a class as an expression -/
structure CE (C : Cf) (e : Expr) where
  v : V
  u : Value
  cv : ClsV v u
  ok : ∀ X, XG C X → PE X e (tC v)
def CE.ty {x : Str} {p : Pos} (n : String) (hm : C.T.mg x = none) (hv : bootBuiltins x = some (.type n)) (hg : C.sc.names.lookup x = some .globalImplicit := by rfl) (hn : x ≠ "__name__" := by first | decide | exact of_decide_eq_true rfl) (hd : (x == ("__debug__" : Str)) = false := by first | decide | exact of_decide_eq_true rfl) : CE C (.Name x p) where
  v := .ty n
  u := .type n
  cv := .ty n
  ok X g := pe_bltn (g.gl hg) (by rw [g.mg]; exact hm) hv rfl hn hd
def CE.cls {x : Str} {p : Pos} (a : Addr) (hm : C.T.mg x = some (.ref a)) (hg : C.sc.names.lookup x = some .globalImplicit := by rfl) (hd : (x == ("__debug__" : Str)) = false := by first | decide | exact of_decide_eq_true rfl) : CE C (.Name x p) where
  v := .ref a
  u := .ref a
  cv := .own a
  ok X g := pe_glob (v := .ref a) (u := .ref a) (g.gl hg) (by rw [g.mg]; exact hm) rfl hd
def EP.isi {x : Str} {p pos : Pos} {e c : Expr} {t : TY} (y : EP M C G e t) (k : TagT C.T t) (ce : CE C c) (b : Bool) (hb : PySem.W.kitOne C.T.K k.tg ce.u = some b) (hm : C.T.mg x = none) (hv : bootBuiltins x = some (.builtin "isinstance"))
    (hg : C.sc.names.lookup x = some .globalImplicit := by rfl) (hn : x ≠ "__name__" := by first | decide | exact of_decide_eq_true rfl) (hdb : (x == ("__debug__" : Str)) = false := by first | decide | exact of_decide_eq_true rfl)
    (h1 : ∀ env, starEach [e, c] env = (false, eval e env) :: starEach [c] env := by intro _; rfl) (h2 : ∀ env, starEach [c] env = (false, eval c env) :: starEach [] env := by intro _; rfl) (hpl : ∀ env, (backTo pos (starEach [c] env)).any (·.1) = false := by intro _; rfl) : EP M C G (.Call (.Name x p) [e, c] [] pos) .bool where
  den _ := b
  ok X g := by
    refine PE.imp (pe_callB call_isi (g.gl hg) (by rw [g.mg]; exact hm) hv (pa_cons (y.ok X g) (pa_cons (ce.ok X g) pa_nil (h2 _)) (h1 _)) hn hdb (h1 _) (hpl _)) fun σ H Q q => ?_
    obtain ⟨s, w, S, Ow, O, sat, k'⟩ := q
    refine step_p sat fun v1 H1 S1 st1 sat1 rp1 => ?_
    exact ⟨v1, ce.v, k.tg, ce.u, b, rfl, ce.cv, by rw [g.K]; exact k.ok S1 H1 _ v1 sat1.sub rp1, by rw [g.K]; exact hb, k' _ H1 S1 st1 sat1.ws rfl⟩
/-- isinstance(x, (c1, c2)) -/
def EP.isi2 {x : Str} {p pos pos2 : Pos} {e c1 c2 : Expr} {j : Nat} {t : TY} (y : EP M C G e t) (k : TagT C.T t) (ce1 : CE C c1) (ce2 : CE C c2) (b : Bool) (hb : PySem.W.kitAny C.T.K k.tg [ce1.u, ce2.u] = some b) (hm : C.T.mg x = none) (hv : bootBuiltins x = some (.builtin "isinstance"))
    (hg : C.sc.names.lookup x = some .globalImplicit := by rfl) (hn : x ≠ "__name__" := by first | decide | exact of_decide_eq_true rfl) (hdb : (x == ("__debug__" : Str)) = false := by first | decide | exact of_decide_eq_true rfl)
    (h1 : ∀ env, starEach [e, .Tuple [c1, c2] j pos2] env = (false, eval e env) :: starEach [.Tuple [c1, c2] j pos2] env := by intro _; rfl) (h2 : ∀ env, starEach [.Tuple [c1, c2] j pos2] env = (false, eval (.Tuple [c1, c2] j pos2) env) :: starEach [] env := by intro _; rfl)
    (h3 : ∀ env, starEach [c1, c2] env = (false, eval c1 env) :: starEach [c2] env := by intro _; rfl) (h4 : ∀ env, starEach [c2] env = (false, eval c2 env) :: starEach [] env := by intro _; rfl) (hpl : ∀ env, (backTo pos (starEach [.Tuple [c1, c2] j pos2] env)).any (·.1) = false := by intro _; rfl) : EP M C G (.Call (.Name x p) [e, .Tuple [c1, c2] j pos2] [] pos) .bool where
  den _ := b
  ok X g := by
    refine PE.imp (pe_callB call_isiT (g.gl hg) (by rw [g.mg]; exact hm) hv (pa_cons (y.ok X g) (pa_cons (pe_tup (pa_cons (ce1.ok X g) (pa_cons (ce2.ok X g) pa_nil (h4 _)) (h3 _))) pa_nil (h2 _)) (h1 _)) hn hdb (h1 _) (hpl _)) fun σ H Q q => ?_
    obtain ⟨s, w, S, Ow, O, sat, k'⟩ := q
    refine step_p sat fun v1 H1 S1 st1 sat1 rp1 => ⟨by rw [sizeLine_eq]; simp, fun l hl => ?_⟩
    refine ⟨v1, l, [ce1.v, ce2.v], k.tg, [ce1.u, ce2.u], b, rfl, upd_same, .cons ce1.cv (.cons ce2.cv .nil), ?_, by rw [g.K]; exact hb, ?_⟩
    · rw [g.K]
      exact k.ok S1 _ _ v1 (fun a o e => by
        have e1 := sat1.sub a o e
        rw [upd_ne (fun z => by subst z; rw [hl] at e1; cases e1)]; exact e1) rp1
    · exact k' _ _ _ (st1.newS hl) (ws_new sat1.ws hl) rfl
end
end Tp

set_option Elab.async false
set_option linter.all false
set_option maxRecDepth 100000
set_option maxHeartbeats 4000000
/-! Tp13: what is walked, targets, list comprehensions. -/
namespace Tp
open PySem PySem.Spec L2
open PyProof.Rows hiding St

/-- the walk yields these items, as long as S0 stands -/
structure Walk (K : PySem.W.Frag) (J : It) (S0 : Hp) (t : TY) (xs : List t.A) : Prop where
  go : ∀ i H, i < xs.length → Sub S0 H → J.go i H
  yld : ∀ i y H S v H', xs[i]? = some y → Ext S0 S → Sub S H → J.yld i H v H' → ∃ S', ESt H S [] [] H' S' ∧ Rep K S' (t.enc y) v
  stop : ∀ H, Sub S0 H → J.stop xs.length H

theorem Ext.sub {S0 S H : Hp} (e : Ext S0 S) (s : Sub S H) : Sub S0 H := fun a o h => s a o (e a o h)
theorem walk_list {K : PySem.W.Frag} {t : TY} {S0 : Hp} {a : Addr} {vs : List V} {xs : List t.A} (hq : ∀ H, Sub S0 H → SqL K H a vs) (r : RepL K S0 (xs.map t.enc) vs) : Walk K (Itl K a) S0 t xs where
  go i H hi sub := by
    have hl := r.len
    rw [List.length_map] at hl
    exact ⟨vs, vs[i], hq H sub, by simp [hl, hi]⟩
  yld i y H S v H' hy e sub q := by
    obtain ⟨rfl, q⟩ := q
    refine ⟨S, ESt.refl sub, ?_⟩
    obtain ⟨u, h1, h2⟩ := r.get (i := i) (x := t.enc y) (by rw [List.getElem?_map, hy]; rfl)
    have h3 := q vs (hq _ (e.sub sub))
    rw [h1] at h3; cases h3
    exact h2.mono e
  stop H sub := ⟨vs, hq H sub, by have hl := r.len; rw [List.length_map] at hl; omega⟩
theorem walk_tup {K : PySem.W.Frag} {t : TY} {S0 : Hp} {a : Addr} {vs : List V} {xs : List t.A} (hq : ∀ H, Sub S0 H → SqT K H a vs) (r : RepL K S0 (xs.map t.enc) vs) : Walk K (Itt K a) S0 t xs where
  go i H hi sub := by
    have hl := r.len
    rw [List.length_map] at hl
    exact ⟨vs, vs[i], hq H sub, by simp [hl, hi]⟩
  yld i y H S v H' hy e sub q := by
    obtain ⟨rfl, q⟩ := q
    refine ⟨S, ESt.refl sub, ?_⟩
    obtain ⟨u, h1, h2⟩ := r.get (i := i) (x := t.enc y) (by rw [List.getElem?_map, hy]; rfl)
    have h3 := q vs (hq _ (e.sub sub))
    rw [h1] at h3; cases h3
    exact h2.mono e
  stop H sub := ⟨vs, hq H sub, by have hl := r.len; rw [List.length_map] at hl; omega⟩
/-- lo, lo + 1, .. -/
def upTo (lo : Int) (n : Nat) : List Int := (List.range n).map fun (i : Nat) => lo + (i : Int)
theorem upTo_len {lo : Int} {n : Nat} : (upTo lo n).length = n := by simp [upTo]
theorem walk_range {K : PySem.W.Frag} {S0 : Hp} {lo : Int} {n : Nat} : Walk K (Itr lo n) S0 .int (upTo lo n) where
  go i H hi sub := by rw [upTo_len] at hi; exact hi
  yld i y H S v H' hy e sub q := by
    obtain ⟨rfl, q⟩ := q
    refine ⟨S, ESt.refl sub, ?_⟩
    have : y = lo + (i : Int) := by
      unfold upTo at hy
      rw [List.getElem?_map] at hy
      cases h : (List.range n)[i]? with
      | none => rw [h] at hy; cases hy
      | some j =>
        rw [h] at hy
        have := (List.getElem?_eq_some_iff.mp h).2
        simp at this
        subst this
        simpa using hy.symm
    rw [this]
    exact q
  stop H sub := by show n ≤ _; rw [upTo_len]; exact Nat.le_refl _
/-- both at once -/
theorem walk_zip {K : PySem.W.Frag} {t u : TY} {S0 : Hp} {a b : Addr} {vs ws : List V} {xs : List t.A} {ys : List u.A} (ha : ∀ H, Sub S0 H → SqL K H a vs) (hb : ∀ H, Sub S0 H → SqL K H b ws) (r : RepL K S0 (xs.map t.enc) vs) (r2 : RepL K S0 (ys.map u.enc) ws) :
    Walk K (Itz K a b) S0 (.tup2 t u) (xs.zip ys) where
  go i H hi sub := by
    have hl := r.len
    have hl2 := r2.len
    rw [List.length_map] at hl hl2
    rw [List.length_zip] at hi
    exact ⟨vs, ws, vs[i], ws[i], ha H sub, hb H sub, by simp, by simp⟩
  yld i y H S v H' hy e sub q := by
    obtain ⟨T, x1, x2, rfl, hT, rfl, q1, q2⟩ := q
    refine ⟨upd S T (.tup [x1, x2]), (ESt.refl sub).newS hT, ?_⟩
    rw [List.getElem?_zip_eq_some] at hy
    obtain ⟨u1, h1, h2⟩ := r.get (i := i) (x := t.enc y.1) (by rw [List.getElem?_map, hy.1]; rfl)
    obtain ⟨u2, h3, h4⟩ := r2.get (i := i) (x := u.enc y.2) (by rw [List.getElem?_map, hy.2]; rfl)
    have g1 := q1 vs (ha _ (e.sub sub))
    have g2 := q2 ws (hb _ (e.sub sub))
    rw [h1] at g1; cases g1
    rw [h3] at g2; cases g2
    exact rep_tup (vs := [x1, x2]) upd_same (RepL.mono (e.trans (ext_upd (none_sub sub hT))) (RepL.cons h2 (RepL.cons h4 rfl)))
  stop H sub := by
    have hl := r.len
    have hl2 := r2.len
    rw [List.length_map] at hl hl2
    refine ⟨vs, ws, ha H sub, hb H sub, ?_⟩
    rw [List.length_zip]; omega
def numbered {A : Type} (xs : List A) : List (Int × A) := xs.zipIdx.map fun p => ((p.2 : Int), p.1)
theorem walk_enum {K : PySem.W.Frag} {t : TY} {S0 : Hp} {a : Addr} {vs : List V} {xs : List t.A} (ha : ∀ H, Sub S0 H → SqL K H a vs) (r : RepL K S0 (xs.map t.enc) vs) : Walk K (Ite K a) S0 (.tup2 .int t) (numbered xs) where
  go i H hi sub := by
    have hl := r.len
    rw [List.length_map] at hl
    unfold numbered at hi
    rw [List.length_map, List.length_zipIdx] at hi
    exact ⟨vs, vs[i], ha H sub, by simp [hl, hi]⟩
  yld i y H S v H' hy e sub q := by
    obtain ⟨T, x1, rfl, hT, rfl, q1⟩ := q
    refine ⟨upd S T (.tup [.int (i : Nat), x1]), (ESt.refl sub).newS hT, ?_⟩
    unfold numbered at hy
    rw [List.getElem?_map, List.getElem?_zipIdx] at hy
    cases h : xs[i]? with
    | none => rw [h] at hy; cases hy
    | some z =>
      rw [h] at hy
      simp at hy
      subst hy
      obtain ⟨u1, h1, h2⟩ := r.get (i := i) (x := t.enc z) (by rw [List.getElem?_map, h]; rfl)
      have g1 := q1 vs (ha _ (e.sub sub))
      rw [h1] at g1; cases g1
      exact rep_tup (vs := [.int (i : Nat), x1]) upd_same (RepL.mono (e.trans (ext_upd (none_sub sub hT))) (RepL.cons rfl (RepL.cons h2 rfl)))
  stop H sub := by
    have hl := r.len
    rw [List.length_map] at hl
    refine ⟨vs, ha H sub, ?_⟩
    unfold numbered
    rw [List.length_map, List.length_zipIdx]; omega

section
variable (M : Type → Type) [Eff M]
def PostI (K : PySem.W.Frag) (p : Nat) (σ : St) (H S : Hp) (Ow : List Addr) (t : TY) (Wx : Value → Option Addr → Hp → Prop) (Q : It → Hp → Prop) : R (List t.A) × Eff.W M → Prop
  | (.ok xs, w') => ∀ J H' S', ESt H S Ow [] H' S' → Eff.ws (M := M) w' (σ[p]?.join) H' Ow → xs.length ≤ sizeLine → Walk K J S' t xs → Q J H'
  | (.er x, w') => ∀ cls d H' S', ESt H S Ow [] H' S' → Eff.ws (M := M) w' (σ[p]?.join) H' Ow → ErrR K S' x cls d → Wx cls d H'
  | (.bad, _) => False
structure IJ (C : Cf) (G : Ctx) (tg iter : Expr) (t : TY) where
  den : ST G → M (List t.A)
  ok : ∀ X Wx, XG C X → Takes X Wx → PI X tg iter fun σ H R => ∃ s w S Ow O, Sat M C.T.K C.p G s w σ H S Ow O ∧ PostI M C.T.K C.p σ H S Ow t (fun cls d H' => Wx cls d σ H') R (Eff.run (den s) w)
  nf : ∀ env x, foldedSetIterable iter env x = pure x
structure IP (C : Cf) (G : Ctx) (tg iter : Expr) (t : TY) extends IJ M C G tg iter t where
  f : ST G → List t.A
  hf : ∀ s w, Eff.run (den s) w = (.ok (f s), w)
end
section
variable {M : Type → Type} [Eff M] {C : Cf} {G : Ctx} {tg : Expr}
theorem PostI.pre {K : PySem.W.Frag} {p : Nat} {σ : St} {H S H1 S1 : Hp} {Ow : List Addr} {t : TY} {Wx : Value → Option Addr → Hp → Prop} {Q : It → Hp → Prop} (st : ESt H S Ow [] H1 S1) : ∀ {o : R (List t.A) × Eff.W M}, PostI M K p σ H S Ow t Wx Q o → PostI M K p σ H1 S1 Ow t Wx Q o
  | (.ok x, w'), h => fun J H' S' a b c d => h J H' S' (st.trans a) b c d
  | (.er x, w'), h => fun cls d H' S' a b c => h cls d H' S' (st.trans a) b c
  | (.bad, _), h => h
theorem len_of {X : Cx} {H S : Hp} {a : Addr} {vs : List V} {t : TY} {xs : List t.A} (kn : Knows X H) (q : SqL X.K H a vs ∨ SqT X.K H a vs) (r : RepL X.K S (xs.map t.enc) vs) : xs.length ≤ sizeLine := by
  have := kn a vs q
  have hl := r.len
  rw [List.length_map] at hl
  omega
def IJ.list {t : TY} {e : Expr} (x : EJ M C G e (.sh (.list t))) (nf : ∀ env x, foldedSetIterable e env x = pure x := by intro _ _; rfl) : IJ M C G tg e t where
  den s := x.den s
  nf := nf
  ok X Wx g tk := by
    refine PI.imp (PI.inv (pi_list (x.ok X Wx g tk))) fun σ H R q => ?_
    obtain ⟨s, w, S, Ow, O, sat, k⟩ := q
    refine ⟨s, w, S, Ow, O, sat, ?_⟩
    cases e : Eff.run (x.den s) w with
    | mk o w' =>
      rw [e] at k
      cases o with
      | ok b =>
        intro v H1 S1 O1 st1 hw se
        obtain ⟨e1, u, e2, a, vs, e3, e4, e5⟩ := se
        cases e1; cases e2; subst e3
        rw [g.K]
        refine ⟨a, rfl, ⟨vs, sqL_of st1.sub e4⟩, fun kn => k _ H1 S1 st1 hw (len_of kn (.inl (sqL_of st1.sub e4)) (by rw [g.K]; exact e5)) (walk_list (fun H sub => .inl (.inl (sub _ _ e4))) e5)⟩
      | er b => exact k
      | bad => exact k
def IJ.scr {e : Expr} (x : EJ M C G e (.sh .scr)) (nf : ∀ env x, foldedSetIterable e env x = pure x := by intro _ _; rfl) : IJ M C G tg e .int where
  den s := x.den s
  nf := nf
  ok X Wx g tk := by
    refine PI.imp (PI.inv (pi_list (x.ok X Wx g tk))) fun σ H R q => ?_
    obtain ⟨s, w, S, Ow, O, sat, k⟩ := q
    refine ⟨s, w, S, Ow, O, sat, ?_⟩
    cases e : Eff.run (x.den s) w with
    | mk o w' =>
      rw [e] at k
      cases o with
      | ok b =>
        intro v H1 S1 O1 st1 hw se
        obtain ⟨e1, u, e2, a, e3, e4⟩ := se
        cases e1; cases e2; subst e3
        rw [g.K]
        refine ⟨a, rfl, ⟨_, Same.seq st1.sub e4⟩, fun kn => k _ H1 S1 st1 hw (len_of (S := S1) (t := .int) kn (.inl (by rw [g.K]; exact Same.seq st1.sub e4)) ints_repL) (walk_list (fun H sub => Same.seq sub e4) ints_repL)⟩
      | er b => exact k
      | bad => exact k
/-- a tuple as a row of one type -/
structure RowU (K : PySem.W.Frag) (a t : TY) where
  f : a.A → List t.A
  ok : ∀ S x v, Rep K S (a.enc x) v → ∃ l vs, v = .ref l ∧ SqT K S l vs ∧ RepL K S ((f x).map t.enc) vs
def RowU.tupl {K : PySem.W.Frag} {t : TY} : RowU K (.tupl t) t := ⟨fun x => x, fun S x v r => r⟩
def RowU.tup1 {K : PySem.W.Frag} {t : TY} : RowU K (.tup1 t) t := ⟨fun x => [x], fun S x v r => r⟩
def RowU.tup2 {K : PySem.W.Frag} {t : TY} : RowU K (.tup2 t t) t := ⟨fun x => [x.1, x.2], fun S x v r => r⟩
def RowU.tup3 {K : PySem.W.Frag} {t : TY} : RowU K (.tup3 t t t) t := ⟨fun x => [x.1, x.2.1, x.2.2], fun S x v r => r⟩
def RowU.tup4 {K : PySem.W.Frag} {t : TY} : RowU K (.tup4 t t t t) t := ⟨fun x => [x.1, x.2.1, x.2.2.1, x.2.2.2], fun S x v r => r⟩
def IJ.tup {a t : TY} {e : Expr} (Rw : RowU C.T.K a t) (x : EJ M C G e (.sh a)) (nf : ∀ env x, foldedSetIterable e env x = pure x := by intro _ _; rfl) : IJ M C G tg e t where
  den s := x.den s >>= fun y => pure (Rw.f y)
  nf := nf
  ok X Wx g tk := by
    refine PI.imp (PI.inv (pi_tup (x.ok X Wx g tk))) fun σ H R q => ?_
    obtain ⟨s, w, S, Ow, O, sat, k⟩ := q
    refine step_gen (fun H S o => PostI M C.T.K C.p σ H S Ow t (fun cls d H' => Wx cls d σ H') R o) sat k (fun _ _ _ st z => z.pre st) (fun b w' z => z) (fun _ z => z) fun i w1 v1 H1 S1 _ st1 sat1 rp1 k1 => ?_
    rw [Eff.run_pure] at k1
    obtain ⟨l, vs, e1, e2, e3⟩ := Rw.ok S1 i v1 rp1
    subst e1
    have hq : SqT C.T.K H1 l vs := ext_seqT sat1.sub e2
    rw [g.K]
    exact ⟨l, rfl, ⟨vs, hq⟩, fun kn => k1 _ H1 S1 (ESt.refl sat1.sub) sat1.ws (len_of kn (.inr (by rw [g.K]; exact hq)) (by rw [g.K]; exact e3)) (walk_tup (fun H sub => ext_seqT sub e2) e3)⟩
/-- range(j): bounded -/
def rng1 (j : Int) : Option (List Int) := if -(2 ^ 62) ≤ j ∧ j ≤ sizeLine then some (upTo 0 j.toNat) else none
def rng2 (i j : Int) : Option (List Int) := if -(2 ^ 61) ≤ i ∧ i < 2 ^ 61 ∧ -(2 ^ 62) ≤ j ∧ j ≤ i + sizeLine then some (upTo i (j - i).toNat) else none
theorem PI.args1 {K : PySem.W.Frag} {p : Nat} {e : Expr} {t : TY} {σ : St} {H : Hp} : True := trivial
def IJ.range1 {e : Expr} {q pos : Pos} (x : EJ M C G e (.sh .int)) (hm : C.T.mg "range" = none) (hg : C.sc.names.lookup ("range" : Str) = some NameKind.globalImplicit := by rfl) (h1 : ∀ env, starEach [e] env = (false, eval e env) :: starEach [] env := by intro _; rfl) : IJ M C G tg (.Call (.Name "range" q) [e] [] pos) .int where
  den s := x.den s >>= fun j => optM (rng1 j)
  nf := fun _ _ => rfl
  ok X Wx g tk := by
    refine PI.imp (pi_range1 (g.gl hg) (by rw [g.mg]; exact hm) (pa_cons (x.ok X Wx g tk) pa_nil (h1 _)) (h1 _)) fun σ H R q => ?_
    obtain ⟨s, w, S, Ow, O, sat, k⟩ := q
    refine step_gen (fun H S o => PostI M C.T.K C.p σ H S Ow .int (fun cls d H' => Wx cls d σ H') R o) sat k (fun _ _ _ st z => z.pre st) (fun b w' z => z) (fun _ z => z) fun (i : Int) w1 v1 H1 S1 _ st1 sat1 rp1 k1 => ?_
    rw [run_optM] at k1
    unfold rng1 at k1
    have hz : sizeLine = 16777216 := sizeLine_eq
    by_cases h : -(2 ^ 62) ≤ i ∧ i ≤ sizeLine
    · rw [if_pos h] at k1
      refine ⟨i, by rw [show v1 = V.int i from rp1], h.1, by omega, k1 _ H1 S1 (ESt.refl sat1.sub) sat1.ws (by rw [upTo_len]; omega) walk_range⟩
    · rw [if_neg h] at k1; exact k1.elim
def IJ.range2 {e1 e2 : Expr} {q pos : Pos} (x : EJ M C G e1 (.sh .int)) (y : EJ M C G e2 (.sh .int)) (hm : C.T.mg "range" = none) (hg : C.sc.names.lookup ("range" : Str) = some NameKind.globalImplicit := by rfl) (h1 : ∀ env, starEach [e1, e2] env = (false, eval e1 env) :: starEach [e2] env := by intro _; rfl)
    (h2 : ∀ env, starEach [e2] env = (false, eval e2 env) :: starEach [] env := by intro _; rfl) : IJ M C G tg (.Call (.Name "range" q) [e1, e2] [] pos) .int where
  den s := x.den s >>= fun i => y.den s >>= fun j => optM (rng2 i j)
  nf := fun _ _ => rfl
  ok X Wx g tk := by
    refine PI.imp (pi_range2 (g.gl hg) (by rw [g.mg]; exact hm) (pa_cons (x.ok X Wx g tk) (pa_cons (y.ok X Wx g tk) pa_nil (h2 _)) (h1 _)) (by rw [h1, h2]; rfl) (by rw [h2]; rfl)) fun σ H R q => ?_
    obtain ⟨s, w, S, Ow, O, sat, k⟩ := q
    refine step_gen (fun H S o => PostI M C.T.K C.p σ H S Ow .int (fun cls d H' => Wx cls d σ H') R o) sat k (fun _ _ _ st z => z.pre st) (fun b w' z => z) (fun _ z => z) fun (i : Int) w1 v1 H1 S1 _ st1 sat1 rp1 k1 => ?_
    refine step_gen (fun H S o => PostI M C.T.K C.p σ H S Ow .int (fun cls d H' => Wx cls d σ H') R o) sat1 k1 (fun _ _ _ st z => z.pre st) (fun b w' z => z) (fun _ z => z) fun (j : Int) w2 v2 H2 S2 _ st2 sat2 rp2 k2 => ?_
    rw [run_optM] at k2
    unfold rng2 at k2
    have hz : sizeLine = 16777216 := sizeLine_eq
    by_cases h : -(2 ^ 61) ≤ i ∧ i < 2 ^ 61 ∧ -(2 ^ 62) ≤ j ∧ j ≤ i + sizeLine
    · rw [if_pos h] at k2
      refine ⟨i, j, by rw [show v1 = V.int i from rp1, show v2 = V.int j from rp2], ⟨by omega, by omega, by omega, by omega⟩, k2 _ H2 S2 (ESt.refl sat2.sub) sat2.ws (by rw [upTo_len]; omega) walk_range⟩
    · rw [if_neg h] at k2; exact k2.elim
/-- zip(xs, ys) of two lists, the target a written tuple -/
def IJ.zip {e1 e2 : Expr} {q pos tpos : Pos} {elts : List Expr} {kk : Nat} {t u : TY} (x : EJ M C G e1 (.sh (.list t))) (y : EJ M C G e2 (.sh (.list u))) (hm : C.T.mg "zip" = none) (hg : C.sc.names.lookup ("zip" : Str) = some NameKind.globalImplicit := by rfl) (h1 : ∀ env, starEach [e1, e2] env = (false, eval e1 env) :: starEach [e2] env := by intro _; rfl)
    (h2 : ∀ env, starEach [e2] env = (false, eval e2 env) :: starEach [] env := by intro _; rfl) : IJ M C G (.Tuple elts kk tpos) (.Call (.Name "zip" q) [e1, e2] [] pos) (.tup2 t u) where
  den s := x.den s >>= fun i => y.den s >>= fun j => pure (List.zip i j)
  nf := fun _ _ => rfl
  ok X Wx g tk := by
    refine PI.imp (PI.inv (pi_zip (g.gl hg) (by rw [g.mg]; exact hm) (pa_cons (x.ok X Wx g tk) (pa_cons (y.ok X Wx g tk) pa_nil (h2 _)) (h1 _)) (h1 _) (by rw [h2]; rfl))) fun σ H R q => ?_
    obtain ⟨s, w, S, Ow, O, sat, k⟩ := q
    refine step_gen (fun H S o => PostI M C.T.K C.p σ H S Ow (.tup2 t u) (fun cls d H' => Wx cls d σ H') R o) sat k (fun _ _ _ st z => z.pre st) (fun b w' z => z) (fun _ z => z) fun i w1 v1 H1 S1 _ st1 sat1 rp1 k1 => ?_
    refine step_gen (fun H S o => PostI M C.T.K C.p σ H S Ow (.tup2 t u) (fun cls d H' => Wx cls d σ H') R o) sat1 k1 (fun _ _ _ st z => z.pre st) (fun b w' z => z) (fun _ z => z) fun j w2 v2 H2 S2 _ st2 sat2 rp2 k2 => ?_
    rw [Eff.run_pure] at k2
    obtain ⟨a, vs, rfl, a2, a3⟩ := rp1.mono st2.ext
    obtain ⟨b, ws, rfl, b2, b3⟩ := rp2
    rw [g.K]
    refine ⟨a, b, vs, ws, rfl, sqL_of sat2.sub a2, sqL_of sat2.sub b2, fun kn => k2 _ H2 S2 (ESt.refl sat2.sub) sat2.ws ?_ (walk_zip (fun H sub => sqL_of sub a2) (fun H sub => sqL_of sub b2) a3 b3)⟩
    have := len_of (xs := i) kn (.inl (by rw [g.K]; exact sqL_of sat2.sub a2)) (by rw [g.K]; exact a3)
    rw [List.length_zip]
    omega
def IJ.enum {e1 : Expr} {q pos tpos : Pos} {elts : List Expr} {kk : Nat} {t : TY} (x : EJ M C G e1 (.sh (.list t))) (hm : C.T.mg "enumerate" = none) (hg : C.sc.names.lookup ("enumerate" : Str) = some NameKind.globalImplicit := by rfl) (h1 : ∀ env, starEach [e1] env = (false, eval e1 env) :: starEach [] env := by intro _; rfl) : IJ M C G (.Tuple elts kk tpos) (.Call (.Name "enumerate" q) [e1] [] pos) (.tup2 .int t) where
  den s := x.den s >>= fun i => pure (numbered i)
  nf := fun _ _ => rfl
  ok X Wx g tk := by
    refine PI.imp (PI.inv (pi_enum (g.gl hg) (by rw [g.mg]; exact hm) (pa_cons (x.ok X Wx g tk) pa_nil (h1 _)) (h1 _))) fun σ H R q => ?_
    obtain ⟨s, w, S, Ow, O, sat, k⟩ := q
    refine step_gen (fun H S o => PostI M C.T.K C.p σ H S Ow (.tup2 .int t) (fun cls d H' => Wx cls d σ H') R o) sat k (fun _ _ _ st z => z.pre st) (fun b w' z => z) (fun _ z => z) fun i w1 v1 H1 S1 _ st1 sat1 rp1 k1 => ?_
    rw [Eff.run_pure] at k1
    obtain ⟨a, vs, rfl, a2, a3⟩ := rp1
    rw [g.K]
    refine ⟨a, vs, rfl, sqL_of sat1.sub a2, fun kn => k1 _ H1 S1 (ESt.refl sat1.sub) sat1.ws ?_ (walk_enum (fun H sub => sqL_of sub a2) a3)⟩
    have := len_of (xs := i) kn (.inl (by rw [g.K]; exact sqL_of sat1.sub a2)) (by rw [g.K]; exact a3)
    unfold numbered
    rw [List.length_map, List.length_zipIdx]
    exact this
def IP.list {t : TY} {e : Expr} (x : EP M C G e (.list t)) (nf : ∀ env x, foldedSetIterable e env x = pure x := by intro _ _; rfl) : IP M C G tg e t := ⟨IJ.list x.toEJ nf, x.den, fun s w => Eff.run_pure _ _⟩
def IP.scr {e : Expr} (x : EP M C G e .scr) (nf : ∀ env x, foldedSetIterable e env x = pure x := by intro _ _; rfl) : IP M C G tg e .int := ⟨IJ.scr x.toEJ nf, x.den, fun s w => Eff.run_pure _ _⟩
def IP.tup {a t : TY} {e : Expr} (Rw : RowU C.T.K a t) (x : EP M C G e a) (nf : ∀ env x, foldedSetIterable e env x = pure x := by intro _ _; rfl) : IP M C G tg e t := ⟨IJ.tup Rw x.toEJ nf, fun s => Rw.f (x.den s), fun s w => by
  show Eff.run (pure (x.den s) >>= fun y => pure (Rw.f y)) w = _
  rw [run_ok _ (Eff.run_pure _ _), Eff.run_pure]⟩
def IP.zip {e1 e2 : Expr} {q pos tpos : Pos} {elts : List Expr} {kk : Nat} {t u : TY} (x : EP M C G e1 (.list t)) (y : EP M C G e2 (.list u)) (hm : C.T.mg "zip" = none) (hg : C.sc.names.lookup ("zip" : Str) = some NameKind.globalImplicit := by rfl) (h1 : ∀ env, starEach [e1, e2] env = (false, eval e1 env) :: starEach [e2] env := by intro _; rfl)
    (h2 : ∀ env, starEach [e2] env = (false, eval e2 env) :: starEach [] env := by intro _; rfl) : IP M C G (.Tuple elts kk tpos) (.Call (.Name "zip" q) [e1, e2] [] pos) (.tup2 t u) :=
  ⟨IJ.zip x.toEJ y.toEJ hm hg h1 h2, fun s => List.zip (x.den s) (y.den s), fun s w => run2 _⟩
def IP.enum {e1 : Expr} {q pos tpos : Pos} {elts : List Expr} {kk : Nat} {t : TY} (x : EP M C G e1 (.list t)) (hm : C.T.mg "enumerate" = none) (hg : C.sc.names.lookup ("enumerate" : Str) = some NameKind.globalImplicit := by rfl) (h1 : ∀ env, starEach [e1] env = (false, eval e1 env) :: starEach [] env := by intro _; rfl) : IP M C G (.Tuple elts kk tpos) (.Call (.Name "enumerate" q) [e1] [] pos) (.tup2 .int t) :=
  ⟨IJ.enum x.toEJ hm hg h1, fun s => numbered (x.den s), fun s w => by
    show Eff.run (pure (x.den s) >>= fun y => pure (numbered y)) w = _
    rw [run_ok _ (Eff.run_pure _ _), Eff.run_pure]⟩
end
end Tp

set_option Elab.async false
set_option linter.all false
set_option maxRecDepth 100000
set_option maxHeartbeats 4000000
/-! Tp14: targets, list comprehensions. -/
namespace Tp
open PySem PySem.Spec L2
open PyProof.Rows hiding St

/-! ### where an item goes -/
structure TG1 (C : Cf) (tg : Expr) (t : TY) (vs : List Nat) (A : Ctx) where
  f : t.A → ST A
  keys : ∀ j ∈ A.map (·.1), j ∈ vs
  g : TG
  ok : ∀ X, XG C X → PG X tg g
  run : ∀ x y S σ H Q, Sub S H → Rep C.T.K S (t.enc y) x → σ.length = C.N.length → (∀ σ2, σ2.length = σ.length → (∀ j, j ∉ vs → σ2[j]? = σ[j]?) → (∀ H2 S2, Ext S S2 → SatL C.T.K S2 H2 A (f y) σ2 []) → Q σ2 H) → g x σ H Q
section
variable {C : Cf}
def TG1.name (i : Nat) {x : Str} {p : Pos} {t : TY} (hN : C.N[i]? = some x := by rfl) (hl : Loc C.sc x := by first | exact Or.inl rfl | exact Or.inr rfl) (hf : C.fb x = true ∨ C.sc.names.lookup x = some .local := by first | exact Or.inl rfl | exact Or.inr rfl)
    (hi : i < C.N.length := by first | decide | exact of_decide_eq_true rfl) : TG1 C (.Name x p) t [i] [(i, .sh t)] where
  f y := (y, ())
  keys := by simp
  g := gName i
  ok X g := pg_name (by rw [g.n]; exact g.nd) (g.name hN) (show Loc X.env.scope x by rw [g.sc]; exact hl) (hf.elim (fun h => .inl (g.fn _ h)) fun h => .inr (by rw [g.sc]; exact h))
  run x y S σ H Q sub r hl k := by
    refine k (σ.set i (some x)) (List.length_set ..) (fun j hj => set_other (by simpa using hj)) fun H2 S2 e => ⟨[], [], rfl, ⟨rfl, x, ?_, r.mono e⟩, rfl⟩
    rw [set_self (by omega)]
    rfl
def TG1.pair {e1 e2 : Expr} {t1 t2 : TY} {vs1 vs2 : List Nat} {A1 A2 : Ctx} {kk : Nat} {p : Pos} (a : TG1 C e1 t1 vs1 A1) (b : TG1 C e2 t2 vs2 A2) (hd : ∀ i ∈ vs1, i ∉ vs2 := by first | decide | exact of_decide_eq_true rfl)
    (hn : ∀ env, (assignEach [e1, e2] env).length = 2 := by intro _; rfl) (hst : ∀ env, (assignEach [e1, e2] env).findIdx? (·.1) = none := by intro _; rfl)
    (h1 : ∀ env, (assignEach [e1, e2] env).map (·.2) = assign e1 env :: (assignEach [e2] env).map (·.2) := by intro _; rfl) (h2 : ∀ env, (assignEach [e2] env).map (·.2) = assign e2 env :: (assignEach [] env).map (·.2) := by intro _; rfl) :
    TG1 C (.Tuple [e1, e2] kk p) (.tup2 t1 t2) (vs1 ++ vs2) (A1 ++ A2) where
  f y := ST.app A1 A2 (a.f y.1) (b.f y.2)
  keys j hj := by
    rw [List.map_append] at hj
    rcases List.mem_append.mp hj with h | h
    · exact List.mem_append_left _ (a.keys j h)
    · exact List.mem_append_right _ (b.keys j h)
  g := gTup C.T.K 2 (gCons a.g (gCons b.g gNil))
  ok X g := by
    have := pg_tup (k := kk) (pos := p) g.calm (pgs_cons (a.ok X g) (pgs_cons (b.ok X g) pgs_nil (h2 _)) (h1 _)) (hn X.env) (hst X.env)
    rwa [g.K] at this
  run x y S σ H Q sub r hl k := by
    obtain ⟨l, vs, e1, e2, e3⟩ := r
    obtain ⟨v1, r1, rfl, p1, v2, r2, rfl, p2, rfl⟩ := e3
    refine ⟨l, _, e1, ext_seqT sub e2, rfl, v1, _, rfl, a.run v1 y.1 S σ H _ sub p1 hl fun σ1 l1 o1 s1 => ⟨v2, _, rfl, b.run v2 y.2 S σ1 H _ sub p2 (l1.trans hl) fun σ2 l2 o2 s2 => ⟨rfl, ?_⟩⟩⟩
    refine k σ2 (l2.trans l1) (fun j hj => ?_) fun H2 S2 e => ?_
    · rw [List.mem_append, not_or] at hj
      exact (o2 j hj.2).trans (o1 j hj.1)
    · exact SatL.app (O1 := []) (O2 := []) ((s1 H2 S2 e).slots fun i hi => by rw [o2 i (hd i (a.keys i hi))]) (s2 H2 S2 e)
def TG1.trip {e1 e2 e3 : Expr} {t1 t2 t3 : TY} {vs1 vs2 vs3 : List Nat} {A1 A2 A3 : Ctx} {kk : Nat} {p : Pos} (a : TG1 C e1 t1 vs1 A1) (b : TG1 C e2 t2 vs2 A2) (c : TG1 C e3 t3 vs3 A3) (hd : ∀ i ∈ vs1, i ∉ vs2 := by first | decide | exact of_decide_eq_true rfl) (hd2 : ∀ i ∈ vs1, i ∉ vs3 := by first | decide | exact of_decide_eq_true rfl) (hd3 : ∀ i ∈ vs2, i ∉ vs3 := by first | decide | exact of_decide_eq_true rfl)
    (hn : ∀ env, (assignEach [e1, e2, e3] env).length = 3 := by intro _; rfl) (hst : ∀ env, (assignEach [e1, e2, e3] env).findIdx? (·.1) = none := by intro _; rfl)
    (h1 : ∀ env, (assignEach [e1, e2, e3] env).map (·.2) = assign e1 env :: (assignEach [e2, e3] env).map (·.2) := by intro _; rfl) (h2 : ∀ env, (assignEach [e2, e3] env).map (·.2) = assign e2 env :: (assignEach [e3] env).map (·.2) := by intro _; rfl) (h3 : ∀ env, (assignEach [e3] env).map (·.2) = assign e3 env :: (assignEach [] env).map (·.2) := by intro _; rfl) :
    TG1 C (.Tuple [e1, e2, e3] kk p) (.tup3 t1 t2 t3) (vs1 ++ (vs2 ++ vs3)) (A1 ++ (A2 ++ A3)) where
  f y := ST.app A1 _ (a.f y.1) (ST.app A2 A3 (b.f y.2.1) (c.f y.2.2))
  keys j hj := by
    rw [List.map_append, List.map_append] at hj
    rcases List.mem_append.mp hj with h | h
    · exact List.mem_append_left _ (a.keys j h)
    · rcases List.mem_append.mp h with h | h
      · exact List.mem_append_right _ (List.mem_append_left _ (b.keys j h))
      · exact List.mem_append_right _ (List.mem_append_right _ (c.keys j h))
  g := gTup C.T.K 3 (gCons a.g (gCons b.g (gCons c.g gNil)))
  ok X g := by
    have := pg_tup (k := kk) (pos := p) g.calm (pgs_cons (a.ok X g) (pgs_cons (b.ok X g) (pgs_cons (c.ok X g) pgs_nil (h3 _)) (h2 _)) (h1 _)) (hn X.env) (hst X.env)
    rwa [g.K] at this
  run x y S σ H Q sub r hl k := by
    obtain ⟨l, vs, e1, e2, e3⟩ := r
    obtain ⟨v1, r1, rfl, p1, v2, r2, rfl, p2, v3, r3, rfl, p3, rfl⟩ := e3
    refine ⟨l, _, e1, ext_seqT sub e2, rfl, v1, _, rfl, a.run v1 y.1 S σ H _ sub p1 hl fun σ1 l1 o1 s1 => ⟨v2, _, rfl, b.run v2 y.2.1 S σ1 H _ sub p2 (l1.trans hl) fun σ2 l2 o2 s2 => ⟨v3, _, rfl, c.run v3 y.2.2 S σ2 H _ sub p3 (l2.trans (l1.trans hl)) fun σ3 l3 o3 s3 => ⟨rfl, ?_⟩⟩⟩⟩
    refine k σ3 (l3.trans (l2.trans l1)) (fun j hj => ?_) fun H2 S2 e => ?_
    · rw [List.mem_append, List.mem_append, not_or, not_or] at hj
      exact (o3 j hj.2.2).trans ((o2 j hj.2.1).trans (o1 j hj.1))
    · exact SatL.app (O1 := []) (O2 := []) ((s1 H2 S2 e).slots fun i hi => by rw [o3 i (hd2 i (a.keys i hi)), o2 i (hd i (a.keys i hi))]) (SatL.app (O1 := []) (O2 := []) ((s2 H2 S2 e).slots fun i hi => by rw [o3 i (hd3 i (b.keys i hi))]) (s3 H2 S2 e))
end

/-! ### the block of a comprehension -/
def Cf.blk (C : Cf) (scope : Scope) : Cf := { C with sc := relS scope C.sc, fb := fun x => scope.names.lookup x == some .cell }
theorem XG.blk {C : Cf} {X : Cx} (g : XG C X) {scope : Scope} (s : Shared) (H : Hp) (L : Addr) (cl : List (Str × Addr)) (fp : List Addr) : XG (C.blk scope) (X.blk s H scope (compEnvC scope cl L X.env) fp) where
  fn := fun x h => h
  prog := g.prog
  w := g.w
  K := g.K
  mg := g.mg
  base := g.base
  n := g.n
  sc := by show relS scope X.env.scope = _; rw [g.sc]; rfl
  calm := g.calm
  room := g.room
  nd := g.nd
theorem PTs.imp {X : Cx} {ifs : List Expr} {t t' : TT} (h : PTs X ifs t) (k : ∀ σ H Q, t' σ H Q → t σ H Q) : PTs X ifs t' :=
  ⟨fun pins s σ H Q I q => h.run pins s σ H Q I (k σ H Q q)⟩
section
variable {M : Type → Type} [Eff M] {C : Cf} {G : Ctx}
structure CJ (M : Type → Type) [Eff M] (C : Cf) (G : Ctx) (ifs : List Expr) where
  den : ST G → M Bool
  ok : ∀ X Wx, XG C X → Takes X Wx → PTs X ifs (tT M C.T.K C.p G den Wx)
def CJ.nil : CJ M C G [] where
  den _ := pure true
  ok X Wx g tk := PTs.imp pts_nil fun σ H Q ⟨s, w, S, Ow, O, x, k⟩ => by
    rw [Eff.run_pure] at k
    exact k H S (ESt.refl x.sub) x.ws
def CJ.one {c : Expr} (t : TJ M C G c) : CJ M C G [c] where
  den := t.den
  ok X Wx g tk := pts_one (t.ok X Wx g tk)

/-- the kept answers, one behind another -/
def compM {A B : Type} (f : A → M (Option B)) : List A → M (List B)
  | [] => pure []
  | x :: xs => f x >>= fun y => compM f xs >>= fun r => pure (match y with | some z => z :: r | none => r)
theorem run_compM {A B : Type} {f : A → M (Option B)} {x : A} {xs : List A} {w wN : Eff.W M} {ys : List B} (h : Eff.run (compM f (x :: xs)) w = (.ok ys, wN)) : ∃ y w1 r, Eff.run (f x) w = (.ok y, w1) ∧ Eff.run (compM f xs) w1 = (.ok r, wN) ∧ ys = match y with | some z => z :: r | none => r := by
  unfold compM at h
  rw [Eff.run_bind] at h
  cases e : Eff.run (f x) w with
  | mk o w1 =>
    rw [e] at h
    cases o with
    | er b => cases h
    | bad => cases h
    | ok y =>
      dsimp only at h
      rw [Eff.run_bind] at h
      cases e2 : Eff.run (compM f xs) w1 with
      | mk o w2 =>
        rw [e2] at h
        cases o with
        | er b => cases h
        | bad => cases h
        | ok r =>
          dsimp only at h
          rw [Eff.run_pure] at h
          cases h
          exact ⟨y, w1, r, rfl, e2, rfl⟩
theorem bind_ok {A B : Type} {m : M A} {f : A → M B} {w wN : Eff.W M} {b : B} (h : Eff.run (m >>= f) w = (.ok b, wN)) : ∃ a w1, Eff.run m w = (.ok a, w1) ∧ Eff.run (f a) w1 = (.ok b, wN) := by
  rw [Eff.run_bind] at h
  cases e : Eff.run m w with
  | mk o w1 =>
    rw [e] at h
    cases o with
    | er b => cases h
    | bad => cases h
    | ok y => exact ⟨y, w1, rfl, h⟩
/-- one item's part -/
def compF {A B : Type} (c : A → M Bool) (e : A → M B) (y : A) : M (Option B) := c y >>= fun b => if b = true then e y >>= fun z => pure (some z) else pure none
theorem wipe_get {σ : St} {j : Nat} : ∀ {vs : List Nat}, j ∉ vs → (wipe σ vs)[j]? = σ[j]?
  | [], _ => rfl
  | v :: vs, h => by
    unfold wipe
    rw [List.mem_cons, not_or] at h
    rw [List.getElem?_set_ne (Ne.symm h.1)]
    exact wipe_get h.2
theorem wipe_none {σ : St} {j : Nat} : ∀ {vs : List Nat}, j ∈ vs → j < σ.length → (wipe σ vs)[j]? = some none
  | v :: vs, h, hl => by
    unfold wipe
    by_cases e : j = v
    · subst e
      exact List.getElem?_set_self (by rw [wipe_length]; exact hl)
    · rw [List.getElem?_set_ne (Ne.symm e)]
      exact wipe_none ((List.mem_cons.mp h).resolve_left e) hl
theorem wipe_eq {σ σ2 : St} {vs : List Nat} (hl : σ2.length = σ.length) (h : ∀ j, j ∉ vs → σ2[j]? = σ[j]?) : wipe σ2 vs = wipe σ vs := by
  refine List.ext_getElem? fun j => ?_
  by_cases hj : j ∈ vs
  · by_cases hlt : j < σ.length
    · rw [wipe_none hj hlt, wipe_none hj (by omega)]
    · rw [List.getElem?_eq_none (by rw [wipe_length]; omega), List.getElem?_eq_none (by rw [wipe_length]; omega)]
  · rw [wipe_get hj, wipe_get hj, h j hj]
theorem ESt.bump {H1 S1 H S H' S' : Hp} {Ow : List Addr} {D : Addr} {o o2 : HO} (a : ESt H1 S1 Ow [D] H S) (hD : H D = some o) (b : ESt H S Ow [] H' S') : ESt H1 S1 Ow [D] (upd H' D o2) S' := by
  have c : ESt H1 S1 Ow ([D] ++ []) H' S' := a.trans2 b fun x hx => by simp at hx; subst hx; exact ⟨_, hD⟩
  have hn := (a.o1 D (by simp)).1
  have hs := (c.o1 D (by simp)).2
  refine ⟨c.ext, fun x u h e => ?_, fun x u e => ?_, c.new, fun x u e => ?_, fun x hx => c.o1 x (by simpa using hx), by simp⟩
  · rw [upd_ne (fun z => by subst z; rw [hn] at e; cases e)]; exact c.fr x u h e
  · obtain ⟨u', e'⟩ := c.th x u e
    exact ⟨u', by rw [upd_ne (fun z => by subst z; rw [hn] at e; cases e)]; exact e'⟩
  · rw [upd_ne (fun z => by subst z; rw [hs] at e; cases e)]; exact c.sub x u e
theorem PE.len0 {X : Cx} {e : Expr} {t : TE} (h : PE X e t) : PE X e (fun σ H Q => σ.length = X.N.length → t σ H Q) :=
  ⟨fun pins s σ H Q I q => h.run pins s σ H Q I (q I.len)⟩
/-- the state within a block -/
theorem Sat.blk {K : PySem.W.Frag} {p : Nat} {s : ST G} {w : Eff.W M} {σ σ2 : St} {H S : Hp} {Ow O : List Addr} {A : Ctx} {a : ST A} {vs : List Nat} (x : Sat M K p G s w σ H S Ow O) (h : ∀ j, j ∉ vs → σ2[j]? = σ[j]?) (hA : SatL K S H A a σ2 []) (hd : ∀ i ∈ vs, i ∉ G.map (·.1)) (hp : p ∉ vs) :
    Sat M K p (A ++ G) (ST.app A G a s) w σ2 H S Ow O :=
  ⟨x.sub, x.dis, x.nd, by rw [h p hp]; exact x.ws, SatL.app (O1 := []) hA (x.es.slots fun i hi => by rw [h i fun z => hd i z hi])⟩
def lcT {elt tg iter : Expr} {ifs : List Expr} {scope : Scope} {t u : TY} {A : Ctx} {vs : List Nat} (own : List (Str × Nat)) (I : IJ M C G tg iter t) (T : TG1 (C.blk scope) tg t vs A) (c : CJ M (C.blk scope) (A ++ G) ifs) (e : EJ M (C.blk scope) (A ++ G) elt (.sh u)) (Wx : WX) : TE :=
  tLc (fun σ H R => ∃ s w S Ow O, Sat M C.T.K C.p G s w σ H S Ow O ∧ PostI M C.T.K C.p σ H S Ow t (fun cls d H' => Wx cls d σ H') R (Eff.run (I.den s) w)) T.g (tT M C.T.K C.p (A ++ G) c.den (fun _ _ _ _ => False)) (tE M C.T.K C.p (A ++ G) (.sh u) e.den (fun _ _ _ _ => False)) (own.map (·.2))
theorem lc_imp {elt tg iter : Expr} {ifs : List Expr} {scope : Scope} {t u : TY} {A : Ctx} {vs : List Nat} {own : List (Str × Nat)} {I : IJ M C G tg iter t} {T : TG1 (C.blk scope) tg t vs A} {c : CJ M (C.blk scope) (A ++ G) ifs} {e : EJ M (C.blk scope) (A ++ G) elt (.sh u)}
    (hv : own.map (·.2) = vs) (hd : ∀ i ∈ vs, i ∉ G.map (·.1)) (hp : C.p ∉ vs) {Wx : WX} {σ : St} {H : Hp} {Q : VK} (hlen : σ.length = C.N.length)
    (q : tE M C.T.K C.p G (.o1 u) (fun s => I.den s >>= fun xs => Eff.noer (compM (compF (fun y => c.den (ST.app A G (T.f y) s)) fun y => e.den (ST.app A G (T.f y) s)) xs)) Wx σ H Q) : lcT own I T c e Wx σ H Q := by
  obtain ⟨s, w, S, Ow, O, sat, k⟩ := q
  refine ⟨s, w, S, Ow, O, sat, ?_⟩
  rw [hv]
  cases e1 : Eff.run (I.den s) w with
  | mk o w1 =>
    cases o with
    | er b => rw [run_er _ e1] at k; exact k
    | bad => rw [run_bad' _ e1] at k; exact k
    | ok xs =>
      rw [run_ok _ e1, Eff.run_noer] at k
      intro J H1 S1 st1 hw1 hlen1 W D hD
      cases e2 : Eff.run (compM (compF (fun y => c.den (ST.app A G (T.f y) s)) fun y => e.den (ST.app A G (T.f y) s)) xs) w1 with
      | mk o wN =>
        rw [e2] at k
        cases o with
        | er b => exact k.elim
        | bad => exact k.elim
        | ok ys =>
          let Pv : Nat → Hp → Prop := fun i Hh => ∃ Sh wh, ∃ (accY : List u.A), ∃ accV, ∃ (rest : List u.A), ESt H S Ow [D] Hh Sh ∧ Ext S1 Sh ∧ Eff.ws (M := M) wh (σ[C.p]?.join) Hh Ow ∧ Hh D = Option.some (HO.lst accV) ∧ RepL C.T.K Sh (accY.map u.enc) accV ∧ accY.length ≤ i ∧
            Eff.run (compM (compF (fun y => c.den (ST.app A G (T.f y) s)) fun y => e.den (ST.app A G (T.f y) s)) (xs.drop i)) wh = (.ok rest, wN) ∧ ys = accY ++ rest
          refine ⟨fun i m Hh => m = xs.length - i ∧ i ≤ xs.length ∧ Pv i Hh, ⟨xs.length, by simp, Nat.zero_le _, S1, w1, [], [], ys, st1.new1 hD, fun _ _ h => h, ws_new hw1 hD, upd_same, rfl, Nat.le_refl _, e2, rfl⟩, ?_⟩
          rintro i m Hh ⟨rfl, hi, Sh, wh, accY, accV, rest, st, ex, hws, hDl, rl, hal, hr, hy⟩
          have sub0 : Sub S1 Hh := ex.sub st.sub
          by_cases hlt : i < xs.length
          · refine .inr ⟨W.go i Hh hlt sub0, Pv (i + 1), fun H' p' => ⟨xs.length - (i + 1), by omega, rfl, hlt, p'⟩, fun v H' hyl => ?_⟩
            have hxi : xs[i]? = Option.some xs[i] := by simp [hlt]
            obtain ⟨S2, st2, rp⟩ := W.yld i xs[i] Hh Sh v H' hxi ex st.sub hyl
            rw [List.drop_eq_getElem_cons hlt] at hr
            obtain ⟨oy, w3, r3, hf, hr3, hrest⟩ := run_compM hr
            have stD := st.trans2 (st2.wide (Ow := Ow)) fun a ha => by simp at ha; subst ha; exact ⟨_, hDl⟩
            have hD2 : H' D = Option.some (HO.lst accV) := st2.fr _ _ (by simp) hDl
            have hDs : ∀ a ∈ Ow, a ≠ D := fun a ha z => by
              subst z
              obtain ⟨o, eo⟩ := Eff.ws_there sat.ws _ ha
              rw [(st.o1 a (by simp)).1] at eo; cases eo
            have hws2 : Eff.ws (M := M) wh (σ[C.p]?.join) H' Ow := Eff.ws_mono hws fun a ha => by
              obtain ⟨o, eo⟩ := Eff.ws_there hws a ha
              rw [eo]; exact st2.fr _ _ (by simp) eo
            refine T.run v xs[i] S2 (wipe σ vs) H' _ st2.sub rp (by rw [wipe_length, hlen]; rfl) fun σ2 l2 o2 s2 => ⟨?_, ?_⟩
            · exact wipe_eq (l2.trans (wipe_length ..)) fun j hj => (o2 j hj).trans (wipe_get hj)
            have sat2 : Sat M C.T.K C.p (A ++ G) (ST.app A G (T.f xs[i]) s) wh σ2 H' S2 Ow O := by
              have z := sat.after (S' := S2) (H' := H') (O1 := [D]) (by simpa using stD) hws2
              exact z.blk (fun j hj => (o2 j hj).trans (wipe_get hj)) (s2 H' S2 fun _ _ h => h) hd hp
            obtain ⟨b, w4, hc, hf2⟩ := bind_ok hf
            refine ⟨_, wh, S2, Ow, O, sat2, ?_⟩
            show PostT M C.T.K C.p σ2 H' S2 Ow _ _ _
            rw [hc]
            intro H3 S3 st3 hws3
            have hD3 : H3 D = Option.some (HO.lst accV) := st3.fr _ _ (fun z => hDs D z rfl) hD2
            have stD3 := (st.trans2 (st2.wide (Ow := Ow)) fun a ha => by simp at ha; subst ha; exact ⟨_, hDl⟩)
            have pj : (σ2[C.p]?.join) = (σ[C.p]?.join) := by rw [o2 _ hp, wipe_get hp]
            rw [pj] at hws3
            have ex3 : Ext Sh S3 := st2.ext.trans st3.ext
            cases b with
            | false =>
              rw [if_neg Bool.false_ne_true] at hf2 ⊢
              rw [Eff.run_pure] at hf2
              cases hf2
              refine ⟨S3, w3, accY, accV, rest, ?_, ex.trans ex3, hws3, hD3, rl.mono ex3, Nat.le_succ_of_le hal, ?_, hy⟩
              · have := stD3.trans2 st3 fun a ha => by simp at ha; subst ha; exact ⟨_, hD2⟩
                simpa using this
              · rw [hr3, hrest]
            | true =>
              rw [if_pos rfl] at hf2 ⊢
              obtain ⟨z, w5, he, hp5⟩ := bind_ok hf2
              rw [Eff.run_pure] at hp5
              cases hp5
              have sat3 : Sat M C.T.K C.p (A ++ G) (ST.app A G (T.f xs[i]) s) w4 σ2 H3 S3 Ow O := sat2.after st3 (by rw [pj]; exact hws3)
              refine ⟨_, w4, S3, Ow, O, sat3, ?_⟩
              show PostE M C.T.K C.p σ2 H3 S3 Ow (.sh u) _ _ _
              rw [he]
              intro v4 H4 S4 O4 st4 hws4 se
              obtain ⟨q1, v5, q2, rp4⟩ := se
              cases q1; cases q2
              rw [pj] at hws4
              have hD4 : H4 D = Option.some (HO.lst accV) := st4.fr _ _ (fun z => hDs D z rfl) hD3
              refine ⟨accV, hD4, ?_, S4, w3, accY ++ [z], accV ++ [v4], r3, ?_, ex.trans (ex3.trans st4.ext), ?_, upd_same, ?_, by simp; omega, hr3, ?_⟩
              · have := rl.len
                rw [List.length_map] at this
                omega
              · have s23 : ESt Hh Sh Ow [] H4 S4 := (st2.wide (Ow := Ow)).trans (st3.trans st4)
                exact st.bump hDl s23
              · exact Eff.ws_mono hws4 fun a ha => upd_ne (hDs a ha)
              · rw [List.map_append]
                exact (rl.mono (ex3.trans st4.ext)).app (RepL.cons rp4 rfl)
              · rw [hy, hrest]; simp
          · have e : i = xs.length := by omega
            subst e
            refine .inl ⟨W.stop Hh sub0, ?_⟩
            rw [List.drop_length] at hr
            have hr' : Eff.run (pure [] : M (List u.A)) wh = (.ok rest, wN) := hr
            rw [Eff.run_pure] at hr'
            cases hr'
            rw [List.append_nil] at hy
            subst hy
            exact k _ Hh Sh [D] st hws ⟨D, accV, rfl, rfl, hDl, rl⟩
def EJ.lc {elt tg iter : Expr} {ifs : List Expr} {scope : Scope} {pos : Pos} {t u : TY} {A : Ctx} {vs : List Nat} (own : List (Str × Nat)) (I : IJ M C G tg iter t) (T : TG1 (C.blk scope) tg t vs A) (c : CJ M (C.blk scope) (A ++ G) ifs) (e : EJ M (C.blk scope) (A ++ G) elt (.sh u))
    (hv : own.map (·.2) = vs := by rfl) (hb : blkC C.N C.sc scope own = true := by first | decide +kernel | (dsimp only [Cf.blk]; decide +kernel) | rfl) (hd : ∀ i ∈ vs, i ∉ G.map (·.1) := by first | decide | exact of_decide_eq_true rfl) (hp : C.p ∉ vs := by first | decide | exact of_decide_eq_true rfl) : EJ M C G (.ListComp elt [⟨tg, iter, ifs, 0⟩] scope pos) (.o1 u) where
  den s := I.den s >>= fun xs => Eff.noer (compM (compF (fun y => c.den (ST.app A G (T.f y) s)) fun y => e.den (ST.app A G (T.f y) s)) xs)
  ok X Wx g tk := PE.imp (PE.len0 (pe_lc (own := own) g.calm (by rw [g.n]; exact g.nd) (I.ok X Wx g tk) (by rw [g.n, g.sc]; exact blkOk_by hb) (fun s H L cl fp => T.ok _ (g.blk s H L cl fp)) (fun s H L cl fp => c.ok _ (fun _ _ _ _ => False) (g.blk s H L cl fp) takes0)
      (fun s H L cl fp => e.ok _ (fun _ _ _ _ => False) (g.blk s H L cl fp) takes0) (I.nf _))) fun σ H Q q hlen => lc_imp hv hd hp (hlen.trans (congrArg List.length g.n)) q
end
end Tp

set_option Elab.async false
set_option linter.all false
set_option maxRecDepth 100000
set_option maxHeartbeats 4000000
/-! Tp15: comprehensions whose items are total; slots left out; None told apart; calls with the world. -/
namespace Tp
open PySem PySem.Spec L2
open PyProof.Rows hiding St

section
variable {M : Type → Type} [Eff M] {C : Cf} {G : Ctx}
/-- the same, said otherwise -/
def EJ.eqv {e : Expr} {r : SE} (a : EJ M C G e r) (d : ST G → M r.T) (h : ∀ s w, Eff.run (a.den s) w = Eff.run (d s) w) : EJ M C G e r where
  den := d
  ok X Wx g tk := by
    refine PE.imp (a.ok X Wx g tk) fun σ H Q ⟨s, w, S, Ow, O, x, k⟩ => ⟨s, w, S, Ow, O, x, ?_⟩
    rw [h]; exact k
def TJ.eqv {e : Expr} (a : TJ M C G e) (d : ST G → M Bool) (h : ∀ s w, Eff.run (a.den s) w = Eff.run (d s) w) : TJ M C G e where
  den := d
  ok X Wx g tk := by
    refine PT.imp (a.ok X Wx g tk) fun σ H Q ⟨s, w, S, Ow, O, x, k⟩ => ⟨s, w, S, Ow, O, x, ?_⟩
    rw [h]; exact k
theorem compM_pure {A B : Type} (c : A → Bool) (e : A → B) : ∀ (xs : List A) (w : Eff.W M), Eff.run (compM (compF (M := M) (fun y => pure (c y)) (fun y => pure (e y))) xs) w = (.ok ((xs.filter c).map e), w)
  | [], w => Eff.run_pure _ _
  | x :: xs, w => by
    have ih := compM_pure c e xs w
    unfold compM
    have h1 : Eff.run (compF (M := M) (fun y => pure (c y)) (fun y => pure (e y)) x) w = (.ok (if c x = true then some (e x) else none), w) := by
      unfold compF
      rw [run_ok _ (Eff.run_pure _ _)]
      by_cases h : c x = true
      · rw [if_pos h, if_pos h, run_ok _ (Eff.run_pure _ _), Eff.run_pure]
      · rw [if_neg h, if_neg h, Eff.run_pure]
    rw [run_ok _ h1, run_ok _ ih, Eff.run_pure]
    by_cases h : c x = true
    · simp [h]
    · simp [h]
theorem filter_true {A : Type} (xs : List A) : xs.filter (fun _ => true) = xs := by simp
theorem noer_ok {A : Type} {m : M A} {w w' : Eff.W M} {a : A} (h : Eff.run m w = (.ok a, w')) : Eff.run (Eff.noer m) w = (.ok a, w') := by
  rw [Eff.run_noer, h]
theorem bind_congr {A B : Type} {m : M A} {f f' : A → M B} (h : ∀ a w, Eff.run (f a) w = Eff.run (f' a) w) (w : Eff.W M) : Eff.run (m >>= f) w = Eff.run (m >>= f') w := by
  rw [Eff.run_bind, Eff.run_bind]
  cases Eff.run m w with
  | mk o w' => cases o with
    | ok a => exact h a w'
    | er b => rfl
    | bad => rfl
/-- [e for ..] -/
def EJ.lcM {elt tg iter : Expr} {scope : Scope} {pos : Pos} {t u : TY} {A : Ctx} {vs : List Nat} (own : List (Str × Nat)) (I : IJ M C G tg iter t) (T : TG1 (C.blk scope) tg t vs A) (e : EP M (C.blk scope) (A ++ G) elt u)
    (hv : own.map (·.2) = vs := by rfl) (hb : blkC C.N C.sc scope own = true := by first | decide +kernel | (dsimp only [Cf.blk]; decide +kernel) | rfl) (hd : ∀ i ∈ vs, i ∉ G.map (·.1) := by first | decide | exact of_decide_eq_true rfl) (hp : C.p ∉ vs := by first | decide | exact of_decide_eq_true rfl) : EJ M C G (.ListComp elt [⟨tg, iter, [], 0⟩] scope pos) (.o1 u) :=
  (EJ.lc (pos := pos) own I T CJ.nil e.toEJ hv hb hd hp).eqv (fun s => I.den s >>= fun xs => pure (xs.map fun y => e.den (ST.app A G (T.f y) s))) fun s w => bind_congr (fun xs w1 => by
    rw [Eff.run_pure]
    refine noer_ok ?_
    have := compM_pure (M := M) (fun _ : t.A => true) (fun y => e.den (ST.app A G (T.f y) s)) xs w1
    rw [filter_true] at this
    exact this) w
/-- [e for .. if c] -/
def EJ.lcF {elt tg iter c0 : Expr} {scope : Scope} {pos : Pos} {t u : TY} {A : Ctx} {vs : List Nat} (own : List (Str × Nat)) (I : IJ M C G tg iter t) (T : TG1 (C.blk scope) tg t vs A) (c : TP M (C.blk scope) (A ++ G) c0) (e : EP M (C.blk scope) (A ++ G) elt u)
    (hv : own.map (·.2) = vs := by rfl) (hb : blkC C.N C.sc scope own = true := by first | decide +kernel | (dsimp only [Cf.blk]; decide +kernel) | rfl) (hd : ∀ i ∈ vs, i ∉ G.map (·.1) := by first | decide | exact of_decide_eq_true rfl) (hp : C.p ∉ vs := by first | decide | exact of_decide_eq_true rfl) : EJ M C G (.ListComp elt [⟨tg, iter, [c0], 0⟩] scope pos) (.o1 u) :=
  (EJ.lc (pos := pos) own I T (CJ.one c.toJ) e.toEJ hv hb hd hp).eqv (fun s => I.den s >>= fun xs => pure ((xs.filter fun y => c.den (ST.app A G (T.f y) s)).map fun y => e.den (ST.app A G (T.f y) s))) fun s w => bind_congr (fun xs w1 => by
    rw [Eff.run_pure]
    exact noer_ok (compM_pure (M := M) (fun y => c.den (ST.app A G (T.f y) s)) (fun y => e.den (ST.app A G (T.f y) s)) xs w1)) w
def EP.lcM {elt tg iter : Expr} {scope : Scope} {pos : Pos} {t u : TY} {A : Ctx} {vs : List Nat} (own : List (Str × Nat)) (I : IP M C G tg iter t) (T : TG1 (C.blk scope) tg t vs A) (e : EP M (C.blk scope) (A ++ G) elt u)
    (hv : own.map (·.2) = vs := by rfl) (hb : blkC C.N C.sc scope own = true := by first | decide +kernel | (dsimp only [Cf.blk]; decide +kernel) | rfl) (hd : ∀ i ∈ vs, i ∉ G.map (·.1) := by first | decide | exact of_decide_eq_true rfl) (hp : C.p ∉ vs := by first | decide | exact of_decide_eq_true rfl) : EP M C G (.ListComp elt [⟨tg, iter, [], 0⟩] scope pos) (.list u) :=
  EP.ofJ (EJ.share (EJ.lcM (pos := pos) own I.toIJ T e hv hb hd hp)) (fun s => (I.f s).map fun y => e.den (ST.app A G (T.f y) s)) fun s w => by
    show Eff.run (I.den s >>= fun xs => pure (xs.map fun y => e.den (ST.app A G (T.f y) s))) w = _
    rw [run_ok _ (I.hf s w), Eff.run_pure]
def EP.lcF {elt tg iter c0 : Expr} {scope : Scope} {pos : Pos} {t u : TY} {A : Ctx} {vs : List Nat} (own : List (Str × Nat)) (I : IP M C G tg iter t) (T : TG1 (C.blk scope) tg t vs A) (c : TP M (C.blk scope) (A ++ G) c0) (e : EP M (C.blk scope) (A ++ G) elt u)
    (hv : own.map (·.2) = vs := by rfl) (hb : blkC C.N C.sc scope own = true := by first | decide +kernel | (dsimp only [Cf.blk]; decide +kernel) | rfl) (hd : ∀ i ∈ vs, i ∉ G.map (·.1) := by first | decide | exact of_decide_eq_true rfl) (hp : C.p ∉ vs := by first | decide | exact of_decide_eq_true rfl) : EP M C G (.ListComp elt [⟨tg, iter, [c0], 0⟩] scope pos) (.list u) :=
  EP.ofJ (EJ.share (EJ.lcF (pos := pos) own I.toIJ T c e hv hb hd hp)) (fun s => ((I.f s).filter fun y => c.den (ST.app A G (T.f y) s)).map fun y => e.den (ST.app A G (T.f y) s)) fun s w => by
    show Eff.run (I.den s >>= fun xs => pure ((xs.filter fun y => c.den (ST.app A G (T.f y) s)).map fun y => e.den (ST.app A G (T.f y) s))) w = _
    rw [run_ok _ (I.hf s w), Eff.run_pure]
end
end Tp

set_option Elab.async false
set_option linter.all false
set_option maxRecDepth 100000
set_option maxHeartbeats 4000000
/-! Tp16: some of a context; for. -/
namespace Tp
open PySem PySem.Spec L2
open PyProof.Rows hiding St

/-! ### some slots of a context, the others -/
@[reducible] def pick (l : List Nat) : Ctx → Ctx
  | [] => []
  | (j, e) :: r => bif l.elem j then (j, e) :: pick l r else pick l r
@[reducible] def drp (l : List Nat) : Ctx → Ctx
  | [] => []
  | (j, e) :: r => bif l.elem j then drp l r else (j, e) :: drp l r
def ST.pick (l : List Nat) : (G : Ctx) → ST G → ST (Tp.pick l G)
  | [], _ => ()
  | (j, e) :: r, s => by
    show ST (bif l.elem j then (j, e) :: Tp.pick l r else Tp.pick l r)
    exact match l.elem j with
      | true => (s.1, ST.pick l r s.2)
      | false => ST.pick l r s.2
def ST.drp (l : List Nat) : (G : Ctx) → ST G → ST (Tp.drp l G)
  | [], _ => ()
  | (j, e) :: r, s => by
    show ST (bif l.elem j then Tp.drp l r else (j, e) :: Tp.drp l r)
    exact match l.elem j with
      | true => ST.drp l r s.2
      | false => (s.1, ST.drp l r s.2)
def mrg1 {R X Y : Type} {G : Ctx} {j : Nat} {e : SE} (f : X → Y → ST G) : (b : Bool) → (match b with | true => e.T × X | false => X) → (match b with | true => Y | false => e.T × Y) → ST ((j, e) :: G)
  | true, a, c => (a.1, f a.2 c)
  | false, a, c => (c.1, f a c.2)
theorem pick_ty {l : List Nat} {j : Nat} {e : SE} {r : Ctx} : ∀ b : Bool, ST (bif b then (j, e) :: pick l r else pick l r) = (match b with | true => e.T × ST (pick l r) | false => ST (pick l r))
  | true => rfl
  | false => rfl
theorem drp_ty {l : List Nat} {j : Nat} {e : SE} {r : Ctx} : ∀ b : Bool, ST (bif b then drp l r else (j, e) :: drp l r) = (match b with | true => ST (drp l r) | false => e.T × ST (drp l r))
  | true => rfl
  | false => rfl
def ST.mrg (l : List Nat) : (G : Ctx) → ST (Tp.pick l G) → ST (Tp.drp l G) → ST G
  | [], _, _ => ()
  | (j, e) :: r, a, c => mrg1 (R := Unit) (ST.mrg l r) (l.elem j) (cast (pick_ty (l := l) (j := j) (e := e) (r := r) (l.elem j)) a) (cast (drp_ty (l := l) (j := j) (e := e) (r := r) (l.elem j)) c)

section
variable {K : PySem.W.Frag} {S H : Hp}
theorem SatL.pick (l : List Nat) : ∀ {G : Ctx} {s : ST G} {σ : St} {O : List Addr}, SatL K S H G s σ O → ∃ O1 O2, O.Perm (O1 ++ O2) ∧ SatL K S H (Tp.pick l G) (ST.pick l G s) σ O1 ∧ SatL K S H (Tp.drp l G) (ST.drp l G s) σ O2
  | [], _, _, O, h => ⟨[], [], by cases h; simp, rfl, rfl⟩
  | (j, e) :: r, s, σ, O, h => by
    obtain ⟨P1, P2, e1, e2, e3⟩ := h
    subst e1
    obtain ⟨O1, O2, q1, q2, q3⟩ := SatL.pick l e3
    have key : ∀ b : Bool, l.elem j = b → ∃ O1 O2, (P1 ++ P2).Perm (O1 ++ O2) ∧ SatL K S H (bif b then (j, e) :: Tp.pick l r else Tp.pick l r) (match b with
        | true => (s.1, ST.pick l r s.2)
        | false => ST.pick l r s.2) σ O1 ∧ SatL K S H (bif b then Tp.drp l r else (j, e) :: Tp.drp l r) (match b with
        | true => ST.drp l r s.2
        | false => (s.1, ST.drp l r s.2)) σ O2 := fun b hb => by
      cases b with
      | true => exact ⟨P1 ++ O1, O2, by rw [List.append_assoc]; exact List.Perm.append_left _ q1, ⟨P1, O1, rfl, e2, q2⟩, q3⟩
      | false =>
        refine ⟨O1, P1 ++ O2, ?_, q2, ⟨P1, O2, rfl, e2, q3⟩⟩
        refine (List.Perm.append_left P1 q1).trans ?_
        rw [← List.append_assoc, ← List.append_assoc]
        exact List.Perm.append_right _ List.perm_append_comm
    exact key _ rfl
theorem SatL.mrg {l : List Nat} : ∀ {G : Ctx} {a : ST (Tp.pick l G)} {c : ST (Tp.drp l G)} {σ : St} {O1 O2 : List Addr}, SatL K S H (Tp.pick l G) a σ O1 → SatL K S H (Tp.drp l G) c σ O2 → ∃ O, O.Perm (O1 ++ O2) ∧ SatL K S H G (ST.mrg l G a c) σ O
  | [], _, _, _, O1, O2, h1, h2 => ⟨[], by cases h1; cases h2; simp, rfl⟩
  | (j, e) :: r, a, c, σ, O1, O2, h1, h2 => by
    have key : ∀ (b : Bool) (a : ST (bif b then (j, e) :: Tp.pick l r else Tp.pick l r)) (c : ST (bif b then Tp.drp l r else (j, e) :: Tp.drp l r)), SatL K S H (bif b then (j, e) :: Tp.pick l r else Tp.pick l r) a σ O1 → SatL K S H (bif b then Tp.drp l r else (j, e) :: Tp.drp l r) c σ O2 →
        ∃ O, O.Perm (O1 ++ O2) ∧ SatL K S H ((j, e) :: r) (mrg1 (R := Unit) (ST.mrg l r) b (cast (pick_ty b) a) (cast (drp_ty b) c)) σ O := fun b a c h1 h2 => by
      cases b with
      | true =>
        obtain ⟨P1, P2, rfl, e2, e3⟩ := h1
        obtain ⟨O, q1, q2⟩ := SatL.mrg e3 h2
        exact ⟨P1 ++ O, by rw [List.append_assoc]; exact List.Perm.append_left _ q1, P1, O, rfl, e2, q2⟩
      | false =>
        obtain ⟨P1, P2, rfl, e2, e3⟩ := h2
        obtain ⟨O, q1, q2⟩ := SatL.mrg h1 e3
        refine ⟨P1 ++ O, ?_, P1, O, rfl, e2, q2⟩
        refine (List.Perm.append_left P1 q1).trans ?_
        rw [← List.append_assoc, ← List.append_assoc]
        exact List.Perm.append_right _ List.perm_append_comm
    exact key _ _ _ h1 h2
theorem pick_keys {l : List Nat} : ∀ {G : Ctx} {i : Nat}, i ∈ (Tp.pick l G).map (·.1) → i ∈ G.map (·.1)
  | [], _, h => h
  | (j, e) :: r, i, h => by
    unfold Tp.pick at h
    cases hb : l.elem j with
    | true =>
      rw [hb] at h
      rcases List.mem_cons.mp (show i ∈ j :: (Tp.pick l r).map (·.1) from h) with q | q
      · rw [q]; exact List.mem_cons_self
      · exact List.mem_cons_of_mem _ (pick_keys q)
    | false =>
      rw [hb] at h
      exact List.mem_cons_of_mem _ (pick_keys h)
theorem drp_keys {l : List Nat} : ∀ {G : Ctx} {i : Nat}, i ∈ (Tp.drp l G).map (·.1) → i ∈ G.map (·.1)
  | [], _, h => h
  | (j, e) :: r, i, h => by
    unfold Tp.drp at h
    cases hb : l.elem j with
    | false =>
      rw [hb] at h
      rcases List.mem_cons.mp (show i ∈ j :: (Tp.drp l r).map (·.1) from h) with q | q
      · rw [q]; exact List.mem_cons_self
      · exact List.mem_cons_of_mem _ (drp_keys q)
    | true =>
      rw [hb] at h
      exact List.mem_cons_of_mem _ (drp_keys h)
end
/-- the way through a loop whose turns may return -/
def FL.map {A A' B : Type} (f : A → A') : FL A B → FL A' B
  | .nx a => .nx (f a)
  | .rt b => .rt b
section
variable {M : Type → Type} [Eff M]
def loopF {X A B : Type} (f : X → A → M (FL A B)) : List X → A → M (FL A B)
  | [], m => pure (.nx m)
  | x :: xs, m => f x m >>= fun o => match o with
    | .nx m' => loopF f xs m'
    | .rt v => pure (.rt v)
def loopN {X A : Type} (f : X → A → M A) : List X → A → M A
  | [], m => pure m
  | x :: xs, m => f x m >>= fun m' => loopN f xs m'
theorem run_loopF {X A B : Type} {f : X → A → M (FL A B)} {x : X} {xs : List X} {m : A} {w : Eff.W M} : Eff.run (loopF f (x :: xs) m) w = match Eff.run (f x m) w with
    | (.ok (.nx m'), w') => Eff.run (loopF f xs m') w'
    | (.ok (.rt v), w') => (.ok (.rt v), w')
    | (.er b, w') => (.er b, w')
    | (.bad, w') => (.bad, w') := by
  show Eff.run (f x m >>= _) w = _
  rw [Eff.run_bind]
  cases Eff.run (f x m) w with
  | mk o w' => cases o with
    | ok a => cases a with
      | nx m' => rfl
      | rt v => exact Eff.run_pure _ _
    | er b => rfl
    | bad => rfl
theorem loopF_N {X A B : Type} (f : X → A → M A) : ∀ (xs : List X) (m : A) (w : Eff.W M), Eff.run (loopF (B := B) (fun x m => f x m >>= fun m' => pure (.nx m')) xs m) w = mapO FL.nx (Eff.run (loopN f xs m) w)
  | [], m, w => by
    show Eff.run (pure (FL.nx m)) w = mapO FL.nx (Eff.run (pure m) w)
    rw [Eff.run_pure, Eff.run_pure]; rfl
  | x :: xs, m, w => by
    rw [run_loopF]
    show _ = mapO FL.nx (Eff.run (f x m >>= fun m' => loopN f xs m') w)
    rw [Eff.run_bind, Eff.run_bind]
    cases Eff.run (f x m) w with
    | mk o w' => cases o with
      | ok a =>
        dsimp only
        rw [Eff.run_pure]
        exact loopF_N f xs a w'
      | er b => rfl
      | bad => rfl
end
theorem SSt.widen {H S H' S' : Hp} {Ow O O1 O' O2 : List Addr} (a : SSt H S Ow O1 O' H' S') (h1 : ∀ x ∈ O1, x ∈ O) (h2 : ∀ x ∈ O2, (x ∈ O ∧ S' x = none) ∨ x ∈ O') (n : O2.Nodup) : SSt H S Ow O O2 H' S' where
  ext := a.ext
  fr := fun x o h q e => a.fr x o h (fun z => q (h1 x z)) e
  th := a.th
  new := fun x o e => (a.new x o e).imp id fun h => h.imp id fun h => h1 x h
  sub := a.sub
  o1 := fun x hx => (h2 x hx).elim (fun h => ⟨.inr h.1, h.2⟩) fun h => ⟨(a.o1 x h).1.imp id fun z => h1 x z, (a.o1 x h).2⟩
  n1 := n
end Tp

set_option Elab.async false
set_option linter.all false
set_option maxRecDepth 100000
set_option maxHeartbeats 4000000
/-! Tp17: for. -/
namespace Tp
open PySem PySem.Spec L2
open PyProof.Rows hiding St

section
variable {M : Type → Type} [Eff M] {K : PySem.W.Frag} {p n : Nat} {ro rw_ : Ctx} {c : ST ro} {m : ST rw_} {w : Eff.W M} {σ σ2 : St} {H S : Hp} {Ow Oc O : List Addr}
theorem Sat2.split (l : List Nat) (x : Sat2 M K p n ro rw_ c m w σ H S Ow Oc O) : ∃ O1 O2, O.Perm (O1 ++ O2) ∧ SatL K S H (drp l rw_) (ST.drp l rw_ m) σ O2 ∧ Sat2 M K p n (drp l rw_ ++ ro) (pick l rw_) (ST.app _ _ (ST.drp l rw_ m) c) (ST.pick l rw_ m) w σ H S Ow (O2 ++ Oc) O1 := by
  obtain ⟨O1, O2, q, e1, e2⟩ := x.es.pick l
  have hp : (Oc ++ O).Perm ((O2 ++ Oc) ++ O1) := by
    refine (List.Perm.append_left Oc q).trans ?_
    refine (List.Perm.append_left Oc List.perm_append_comm).trans ?_
    rw [← List.append_assoc]
    exact List.Perm.append_right _ List.perm_append_comm
  refine ⟨O1, O2, q, e2, x.sub, fun a ha => x.dis a ?_, (List.Perm.append_left Ow hp).nodup x.nd, x.ws, SatL.app e2 x.ec, e1, x.len⟩
  rcases List.mem_append.mp ha with h | h
  · exact List.mem_append_left _ h
  · exact List.mem_append_right _ (hp.mem_iff.mpr h)
theorem Sat2.tgt {A : Ctx} {a : ST A} {vs : List Nat} (x : Sat2 M K p n ro rw_ c m w σ H S Ow Oc O) (hl : σ2.length = σ.length) (h : ∀ j, j ∉ vs → σ2[j]? = σ[j]?) (hA : SatL K S H A a σ2 []) (h1 : ∀ i ∈ vs, i ∉ rw_.map (·.1)) (h2 : ∀ i ∈ vs, i ∉ ro.map (·.1)) (hp : p ∉ vs) :
    Sat2 M K p n ro (A ++ rw_) c (ST.app A rw_ a m) w σ2 H S Ow Oc O :=
  ⟨x.sub, x.dis, x.nd, by rw [h p hp]; exact x.ws, x.ec.slots fun i hi => by rw [h i fun z => h2 i z hi], SatL.app (O1 := []) hA (x.es.slots fun i hi => by rw [h i fun z => h1 i z hi]), hl.trans x.len⟩
/-- the items, in a statement -/
theorem stepS_I {C : Cf} {t : TY} {B : Type} {Wx : WX} {da : ST (rw_ ++ ro) → M (List t.A)} {f : List t.A → M B} {Q : It → Hp → Prop} (Z : Hp → Hp → List Addr → R B × Eff.W M → Prop) (x : Sat2 M K p n ro rw_ c m w σ H S Ow Oc O)
    (h : Z H S O (Eff.run (da (ST.app rw_ ro m c) >>= f) w))
    (her : ∀ b w', Z H S O (.er b, w') → ∀ cls d H' S', ESt H S Ow [] H' S' → Eff.ws (M := M) w' (σ[p]?.join) H' Ow → ErrR K S' b cls d → Wx cls d σ H') (hbad : ∀ w', Z H S O (.bad, w') → False)
    (k : ∀ (xs : List t.A) (w' : Eff.W M) J H' S', ESt H S Ow [] H' S' → Eff.ws w' (σ[p]?.join) H' Ow → xs.length ≤ sizeLine → Walk K J S' t xs → Z H S O (Eff.run (f xs) w') → Q J H') :
    ∃ s w S Ow O, Sat M K p (rw_ ++ ro) s w σ H S Ow O ∧ PostI M K p σ H S Ow t (fun cls d H' => Wx cls d σ H') Q (Eff.run (da s) w) := by
  refine ⟨_, w, S, Ow, _, x.sat, ?_⟩
  cases e : Eff.run (da (ST.app rw_ ro m c)) w with
  | mk q w' =>
    cases q with
    | ok xs =>
      rw [run_ok f e] at h
      exact fun J H' S' st hw hl W => k xs w' J H' S' st hw hl W h
    | er b =>
      rw [run_er f e] at h
      exact fun cls d H2 S2 st2 hw2 er2 => her b w' h cls d H2 S2 st2 hw2 er2
    | bad =>
      rw [run_bad' f e] at h
      exact hbad _ h
end

section
variable {M : Type → Type} [Eff M] {C : Cf} {ro rw_ rwE : Ctx} {r : SE}
/-- what a turn does with the carried slots -/
def turnF {A : Ctx} {t : TY} (cl : List Nat) (f : t.A → ST A) (ob : OZ rwE r) (hE : pick cl rwE = pick cl rw_) (b : ST (drp cl rw_ ++ ro) → ST (A ++ pick cl rw_) → M ob.Z) (c : ST ro) (m : ST rw_) (y : t.A) (m1 : ST (pick cl rw_)) : M (FL (ST (pick cl rw_)) r.T) :=
  b (ST.app _ _ (ST.drp cl rw_ m) c) (ST.app _ _ (f y) m1) >>= fun z => pure (FL.map (fun e => cast (congrArg ST hE) (ST.pick cl rwE e)) (ob.vw z))
theorem satL_cast {K : PySem.W.Frag} {S H : Hp} {G G' : Ctx} (h : G = G') {s : ST G} {σ : St} {O : List Addr} (q : SatL K S H G s σ O) : SatL K S H G' (cast (congrArg ST h) s) σ O := by
  subst h; exact q
theorem for_core {X : Cx} {Wx : WX} (g : SG C X) (tk : Takes X Wx) {tg iter : Expr} {body : List Stmt} {pos : Pos} {t : TY} {A : Ctx} {vs : List Nat} (cl : List Nat) (I : IJ M C (rw_ ++ ro) tg iter t) (T : TG1 C tg t vs A) (ob : OZ rwE r)
    (b : SJ M C (drp cl rw_ ++ ro) (A ++ pick cl rw_) body ob) (hE : pick cl rwE = pick cl rw_) (h1 : ∀ i ∈ vs, i ∉ rw_.map (·.1)) (h2 : ∀ i ∈ vs, i ∉ ro.map (·.1)) (hp : C.p ∉ vs) :
    PS X (.For tg iter body [] pos) (tS M C.T.K C.p C.N.length ro rw_ rw_ r (OZ.b rw_ r) (fun c m => I.den (ST.app rw_ ro m c) >>= fun xs => loopF (turnF cl T.f ob hE b.den c m) xs (ST.pick cl rw_ m) >>= fun fl => pure (FL.map (fun m1 => ST.mrg cl rw_ m1 (ST.drp cl rw_ m)) fl)) Wx) := by
  refine PS.imp (ps_for g.po g.calm (I.ok X Wx g.toXG tk) (T.ok X g.toXG) (b.ok X Wx g tk) (I.nf _)) fun D σ H q => ?_
  obtain ⟨c, m, w, S, Ow, Oc, O, x, k⟩ := q
  refine stepS_I (C := C) (fun H S O o => PostS M C.T.K C.p ro σ H S Ow O rw_ r Wx D (mapO id o)) x k (fun b' w' z cls d H' S' st hw er => z cls d σ H' S' O (x.sstE st) hw er (fun _ _ => rfl) rfl) (fun _ z => z) fun xs w1 J H1 S1 st1 hw1 hlen W k1 => ?_
  obtain ⟨O1, O2, hperm, es2, x0⟩ := x.split cl
  have hmem : ∀ a, a ∈ O ↔ a ∈ O1 ∨ a ∈ O2 := fun a => by rw [hperm.mem_iff, List.mem_append]
  -- the outcome of what is left
  have kk : ∀ (o : R (FL (ST (pick cl rw_)) r.T) × Eff.W M), Eff.run (loopF (turnF cl T.f ob hE b.den c m) xs (ST.pick cl rw_ m)) w1 = o → PostS M C.T.K C.p ro σ H S Ow O rw_ r Wx D (mapO (FL.map (fun m1 => ST.mrg cl rw_ m1 (ST.drp cl rw_ m))) o) := fun o e => by
    dsimp only at k1
    rw [Eff.run_bind, e] at k1
    obtain ⟨o, wN⟩ := o
    cases o with
    | ok fl => dsimp only at k1; rw [Eff.run_pure] at k1; exact k1
    | er b => exact k1
    | bad => exact k1
  generalize hout : Eff.run (loopF (turnF cl T.f ob hE b.den c m) xs (ST.pick cl rw_ m)) w1 = out at kk
  have kout := kk out rfl
  let Pv : Nat → St → Hp → Prop := fun i σi Hi => ∃ Si wi, ∃ (mi : ST (pick cl rw_)), ∃ Oi, SSt H S Ow O1 Oi Hi Si ∧ Ext S1 Si ∧ Eff.ws (M := M) wi (σ[C.p]?.join) Hi Ow ∧ SatL C.T.K Si Hi (pick cl rw_) mi σi Oi ∧ (∀ j, j = C.p ∨ j ∈ (drp cl rw_ ++ ro).map (·.1) → σi[j]? = σ[j]?) ∧ σi.length = σ.length ∧
    Eff.run (loopF (turnF cl T.f ob hE b.den c m) (xs.drop i) mi) wi = out
  refine ⟨fun i mm σi Hi => mm = xs.length - i ∧ i ≤ xs.length ∧ Pv i σi Hi, ⟨xs.length, by simp, Nat.zero_le _, S1, w1, _, O1, x0.sstE st1, fun _ _ h => h, hw1, x0.es' st1, fun _ _ => rfl, rfl, hout⟩, ?_⟩
  rintro i mm σi Hi ⟨rfl, hi, Si, wi, mi, Oi, st, ex, hws, es, hsl, hle, hr⟩
  have sub0 : Sub S1 Hi := ex.sub st.sub
  have x1 := x0.after st hws es hsl hle
  have hro : ∀ j, j = C.p ∨ j ∈ ro.map (·.1) → j = C.p ∨ j ∈ (drp cl rw_ ++ ro).map (·.1) := fun j hj => hj.imp id fun h => by rw [List.map_append]; exact List.mem_append_right _ h
  -- the cells of the others stand
  have hO2 : ∀ a ∈ O2, ∀ {Oj : List Addr} {Hj Sj : Hp}, SSt H S Ow O1 Oj Hj Sj → Sj a = none := fun a ha Oj Hj Sj sj => by
    cases e : Sj a with
    | none => rfl
    | some o =>
      rcases sj.new a o e with q | q | q
      · rw [x0.dis a (by simp [ha])] at q; cases q
      · obtain ⟨o', e'⟩ := x0.ec.there a (by simp [ha]); rw [q] at e'; cases e'
      · exact absurd rfl ((List.nodup_append.mp (List.nodup_append.mp x0.nd).2.1).2.2 a (by simp [ha]) a q)
  have disj : ∀ a ∈ O2, ∀ {Oj : List Addr} {Hj Sj : Hp}, SSt H S Ow O1 Oj Hj Sj → a ∉ Oj := fun a ha Oj Hj Sj sj hb => by
    rcases (sj.o1 a hb).1 with q | q
    · obtain ⟨o', e'⟩ := x0.ec.there a (by simp [ha]); rw [q] at e'; cases e'
    · exact absurd rfl ((List.nodup_append.mp (List.nodup_append.mp x0.nd).2.1).2.2 a (by simp [ha]) a q)
  have nd2 : O2.Nodup := by
    have := (List.nodup_append.mp (List.nodup_append.mp x0.nd).2.1).1
    exact (List.nodup_append.mp this).1
  by_cases hlt : i < xs.length
  · refine .inr ⟨W.go i Hi hlt sub0, Pv (i + 1), fun σ' H' p' => ⟨xs.length - (i + 1), by omega, rfl, hlt, p'⟩, fun v H' hyl => ?_⟩
    have hxi : xs[i]? = some xs[i] := by simp [hlt]
    obtain ⟨S2, st2, rp⟩ := W.yld i xs[i] Hi Si v H' hxi ex st.sub hyl
    have st2w := st2.wide (Ow := Ow)
    rw [List.drop_eq_getElem_cons hlt, run_loopF] at hr
    have hws2 : Eff.ws (M := M) wi (σi[C.p]?.join) H' Ow := by
      rw [hsl _ (.inl rfl)]
      exact Eff.ws_mono hws fun a ha => by
        obtain ⟨o, eo⟩ := Eff.ws_there hws a ha
        rw [eo]; exact st2.fr _ _ (by simp) eo
    have x2 := x1.afterE st2w hws2
    refine T.run v xs[i] S2 σi H' _ st2.sub rp (hle.trans x.len) fun σ2 l2 o2 s2 => ?_
    have x3 := x2.tgt l2 o2 (s2 H' S2 fun _ _ h => h) (fun j hj hk => h1 j hj (pick_keys hk)) (fun j hj hk => by
      rw [List.map_append] at hk
      rcases List.mem_append.mp hk with hk | hk
      · exact h1 j hj (drp_keys hk)
      · exact h2 j hj hk) hp
    refine ⟨_, _, wi, S2, Ow, _, Oi, x3, ?_⟩
    have sT : SSt H S Ow O1 Oi H' S2 := st.trans (x1.sstE st2w)
    have hsl2 : ∀ j, j = C.p ∨ j ∈ (drp cl rw_ ++ ro).map (·.1) → σ2[j]? = σ[j]? := fun j hj => (o2 j fun hv => by
      rcases hj with hj | hj
      · subst hj; exact hp hv
      · rw [List.map_append] at hj
        rcases List.mem_append.mp hj with hk | hk
        · exact h1 j hv (drp_keys hk)
        · exact h2 j hv hk).trans (hsl j hj)
    have ln2 := l2.trans hle
    have pj : σ2[C.p]?.join = σ[C.p]?.join := by rw [hsl2 _ (.inl rfl)]
    have hT : turnF cl T.f ob hE b.den c m xs[i] mi = (b.den (ST.app _ _ (ST.drp cl rw_ m) c) (ST.app _ _ (T.f xs[i]) mi) >>= fun z => pure (FL.map (fun e => cast (congrArg ST hE) (ST.pick cl rwE e)) (ob.vw z))) := rfl
    have hr' := hr
    rw [hT, Eff.run_bind] at hr'
    cases e : Eff.run (b.den (ST.app _ _ (ST.drp cl rw_ m) c) (ST.app _ _ (T.f xs[i]) mi)) wi with
    | mk o w' =>
      rw [e] at hr'
      cases o with
      | bad => rw [← hr'] at kout; exact kout
      | er eb =>
        rw [← hr'] at kout
        exact fun cls d σ' H'' S'' O'' st3 hw3 er3 hs3 hl3 => kout cls d σ' H'' S'' ([] : List Addr) ((sT.trans st3).widen (fun a ha => (hmem a).mpr (.inl ha)) (fun a ha => by cases ha) .nil) (by rw [← pj]; exact hw3) er3 (fun j hj => (hs3 j (hro j hj)).trans (hsl2 j (hro j hj))) (hl3.trans ln2)
      | ok z =>
        dsimp only at hr'
        rw [Eff.run_pure] at hr'
        show PostS M C.T.K C.p (drp cl rw_ ++ ro) σ2 H' S2 Ow Oi rwE r Wx _ (R.ok (ob.vw z), w')
        cases e4 : ob.vw z with
        | rt v =>
          rw [e4] at hr'
          rw [← hr'] at kout
          exact fun v H'' S'' O'' st3 hw3 se => kout v H'' S'' O'' ((sT.trans st3).widen (fun a ha => (hmem a).mpr (.inl ha)) (fun a ha => .inr ha) st3.n1) (by rw [← pj]; exact hw3) se
        | nx me =>
          rw [e4] at hr'
          intro σ' H'' S'' O'' st3 hw3 es3 hs3 hl3
          obtain ⟨P1, P2, q1, q2, _⟩ := es3.pick cl
          have es4 := satL_cast hE q2
          have hsub : ∀ a ∈ P1, a ∈ O'' := fun a ha => q1.mem_iff.mpr (List.mem_append_left _ ha)
          have nP1 : P1.Nodup := (List.nodup_append.mp (q1.nodup st3.n1)).1
          have st4 : SSt H' S2 Ow Oi P1 H'' S'' := ⟨st3.ext, st3.fr, st3.th, st3.new, st3.sub, fun a ha => st3.o1 a (hsub a ha), nP1⟩
          exact ⟨S'', w', _, P1, sT.trans st4, (ex.trans st2.ext).trans st3.ext, by rw [← pj]; exact hw3, es4, fun j hj => (hs3 j hj).trans (hsl2 j hj), hl3.trans ln2, hr'⟩
  · have e : i = xs.length := by omega
    subst e
    refine .inl ⟨W.stop Hi sub0, ?_⟩
    rw [List.drop_length] at hr
    have hr' : Eff.run (pure (FL.nx mi) : M (FL (ST (pick cl rw_)) r.T)) wi = out := hr
    rw [Eff.run_pure] at hr'
    rw [← hr'] at kout
    have es2' : SatL C.T.K Si Hi (drp cl rw_) (ST.drp cl rw_ m) σi O2 := (es2.mono st.ext fun a ha => by
      obtain ⟨o, eo⟩ := x0.ec.there a (by simp [ha])
      rw [eo]
      exact st.fr a o (fun hb => absurd rfl ((List.nodup_append.mp x0.nd).2.2 a hb a (by simp [ha]))) (fun hb => absurd rfl ((List.nodup_append.mp (List.nodup_append.mp x0.nd).2.1).2.2 a (by simp [ha]) a hb)) eo).slots fun j hj => by rw [hsl j (.inr (by rw [List.map_append]; exact List.mem_append_left _ hj))]
    obtain ⟨O', q1, q2⟩ := SatL.mrg es es2'
    refine kout σi Hi Si O' (st.widen (fun a ha => (hmem a).mpr (.inl ha)) (fun a ha => ?_) (q1.symm.nodup ?_)) hws q2 (fun j hj => hsl j (hro j hj)) hle
    · rcases List.mem_append.mp (q1.mem_iff.mp ha) with q | q
      · exact .inr q
      · exact .inl ⟨(hmem a).mpr (.inr q), hO2 a q st⟩
    · exact List.nodup_append.mpr ⟨st.n1, nd2, fun a ha b hb e => disj b hb st (e ▸ ha)⟩
end
end Tp

set_option Elab.async false
set_option linter.all false
set_option maxRecDepth 100000
set_option maxHeartbeats 4000000
/-! Tp18: for and while, with what comes behind. -/
namespace Tp
open PySem PySem.Spec L2
open PyProof.Rows hiding St

section
variable {M : Type → Type} [Eff M] {C : Cf} {ro rw_ rw' rw1 rwE : Ctx} {r : SE} {o : OZ rw' r}
theorem ps_n {X : Cx} {Wx : WX} {st : Stmt} {dF : ST ro → ST rw_ → M (FL (ST rw1) r.T)} {dN : ST ro → ST rw_ → M (ST rw1)} (h : PS X st (tS M C.T.K C.p C.N.length ro rw_ rw1 r (OZ.b rw1 r) dF Wx)) (k : ∀ c m w, Eff.run (dF c m) w = mapO FL.nx (Eff.run (dN c m) w)) :
    PS X st (tS M C.T.K C.p C.N.length ro rw_ rw1 r (OZ.n rw1 r) dN Wx) := by
  refine PS.imp h fun D σ H ⟨c, m, w, S, Ow, Oc, O, x, q⟩ => ⟨c, m, w, S, Ow, Oc, O, x, ?_⟩
  rw [k]
  cases e : Eff.run (dN c m) w with
  | mk oo w' =>
    rw [e] at q
    cases oo with
    | ok a => exact q
    | er b => exact q
    | bad => exact q
/-- a statement that may return, then the rest -/
theorem seqF_ok {X : Cx} {Wx : WX} {st : Stmt} {sts : List Stmt} {d1 : ST ro → ST rw_ → M (FL (ST rw1) r.T)} (h1 : PS X st (tS M C.T.K C.p C.N.length ro rw_ rw1 r (OZ.b rw1 r) d1 Wx)) {d2 : ST ro → ST rw1 → M o.Z}
    (h2 : PSs X sts (tS M C.T.K C.p C.N.length ro rw1 rw' r o d2 Wx)) (mkR : r.T → o.Z) (hR : ∀ x, o.vw (mkR x) = .rt x) :
    PSs X (st :: sts) (tS M C.T.K C.p C.N.length ro rw_ rw' r o (fun c m => d1 c m >>= fun fl => match fl with
      | .nx m1 => d2 c m1
      | .rt v => pure (mkR v)) Wx) := by
  refine PSs.imp (pss_cons h1 h2) fun D σ H q => ?_
  obtain ⟨c, m, w, S, Ow, Oc, O, y, k⟩ := q
  refine ⟨c, m, w, S, Ow, Oc, O, y, ?_⟩
  cases e : Eff.run (d1 c m) w with
  | mk q w' =>
    cases q with
    | ok z =>
      rw [run_ok _ e] at k
      cases z with
      | nx m1 => exact fun σ' H' S' O' st hw es hs hl => ⟨c, m1, w', S', Ow, Oc, O', y.after st hw es hs hl, k.pre st hs hl⟩
      | rt v =>
        dsimp only at k
        rw [Eff.run_pure] at k
        have k2 : PostS M C.T.K C.p ro σ H S Ow O rw' r Wx D (R.ok (o.vw (mkR v)), w') := k
        rw [hR] at k2
        exact k2
    | er b =>
      rw [run_er _ e] at k
      exact k
    | bad => rw [run_bad' _ e] at k; exact k
/-- for: the turns go on -/
def SJ.forN {tg iter : Expr} {body sts : List Stmt} {pos : Pos} {t : TY} {A : Ctx} {vs : List Nat} (cl : List Nat) (I : IJ M C (rw_ ++ ro) tg iter t) (T : TG1 C tg t vs A) (b : SJ M C (drp cl rw_ ++ ro) (A ++ pick cl rw_) body (OZ.n rwE r)) (rest : SJ M C ro rw_ sts o)
    (hE : pick cl rwE = pick cl rw_ := by rfl) (h1 : ∀ i ∈ vs, i ∉ rw_.map (·.1) := by first | decide | exact of_decide_eq_true rfl) (h2 : ∀ i ∈ vs, i ∉ ro.map (·.1) := by first | decide | exact of_decide_eq_true rfl) (hp : C.p ∉ vs := by first | decide | exact of_decide_eq_true rfl) : SJ M C ro rw_ (.For tg iter body [] pos :: sts) o where
  den c m := (I.den (ST.app rw_ ro m c) >>= fun xs => loopN (fun y m1 => b.den (ST.app _ _ (ST.drp cl rw_ m) c) (ST.app _ _ (T.f y) m1) >>= fun e => pure (cast (congrArg ST hE) (ST.pick cl rwE e))) xs (ST.pick cl rw_ m) >>= fun m1 => pure (ST.mrg cl rw_ m1 (ST.drp cl rw_ m))) >>= fun m1 => rest.den c m1
  ok X Wx g tk := seq_ok (ps_n (for_core g tk (pos := pos) cl I T (OZ.n rwE r) b hE h1 h2 hp) fun c m w => by
    have h := fun xs w1 => loopF_N (M := M) (B := r.T) (fun y m1 => b.den (ST.app _ _ (ST.drp cl rw_ m) c) (ST.app _ _ (T.f y) m1) >>= fun e => pure (cast (congrArg ST hE) (ST.pick cl rwE e))) xs (ST.pick cl rw_ m) w1
    have hf : turnF cl T.f (OZ.n rwE r) hE b.den c m = fun y m1 => b.den (ST.app _ _ (ST.drp cl rw_ m) c) (ST.app _ _ (T.f y) m1) >>= fun z => pure (FL.nx (cast (congrArg ST hE) (ST.pick cl rwE z))) := rfl
    have hg : ∀ (xs : List t.A) (w1 : Eff.W M), Eff.run (loopF (turnF cl T.f (OZ.n rwE r) hE b.den c m) xs (ST.pick cl rw_ m)) w1 = Eff.run (loopF (fun y m1 => (b.den (ST.app _ _ (ST.drp cl rw_ m) c) (ST.app _ _ (T.f y) m1) >>= fun e => pure (cast (congrArg ST hE) (ST.pick cl rwE e))) >>= fun m' => pure (FL.nx m')) xs (ST.pick cl rw_ m)) w1 := by
      intro xs
      rw [hf]
      generalize ST.pick cl rw_ m = m0
      revert m0
      induction xs with
      | nil => intro m0 w1; rfl
      | cons y ys ih =>
        intro m0 w1
        rw [run_loopF, run_loopF]
        have e : ∀ w2, Eff.run (b.den (ST.app _ _ (ST.drp cl rw_ m) c) (ST.app _ _ (T.f y) m0) >>= fun z => pure (FL.nx (B := r.T) (cast (congrArg ST hE) (ST.pick cl rwE z)))) w2 = Eff.run ((b.den (ST.app _ _ (ST.drp cl rw_ m) c) (ST.app _ _ (T.f y) m0) >>= fun e => pure (cast (congrArg ST hE) (ST.pick cl rwE e))) >>= fun m' => pure (FL.nx m')) w2 := fun w2 => by
          rw [Eff.run_bind, Eff.run_bind, Eff.run_bind]
          cases Eff.run (b.den (ST.app _ _ (ST.drp cl rw_ m) c) (ST.app _ _ (T.f y) m0)) w2 with
          | mk o w' => cases o with
            | ok a => dsimp only; rw [Eff.run_pure, Eff.run_pure]; dsimp only; rw [Eff.run_pure]
            | er b => rfl
            | bad => rfl
        rw [e]
        cases Eff.run ((b.den (ST.app _ _ (ST.drp cl rw_ m) c) (ST.app _ _ (T.f y) m0) >>= fun e => pure (cast (congrArg ST hE) (ST.pick cl rwE e))) >>= fun m' => pure (FL.nx (B := r.T) m')) w1 with
        | mk o w' => cases o with
          | ok a => cases a with
            | nx m' => exact ih m' w'
            | rt v => rfl
          | er b => rfl
          | bad => rfl
    rw [Eff.run_bind, Eff.run_bind]
    cases Eff.run (I.den (ST.app rw_ ro m c)) w with
    | mk o w1 => cases o with
      | ok xs =>
        dsimp only
        rw [Eff.run_bind, hg, h, Eff.run_bind]
        cases Eff.run (loopN (fun y m1 => b.den (ST.app _ _ (ST.drp cl rw_ m) c) (ST.app _ _ (T.f y) m1) >>= fun e => pure (cast (congrArg ST hE) (ST.pick cl rwE e))) xs (ST.pick cl rw_ m)) w1 with
        | mk o w' => cases o with
          | ok a => dsimp only [mapO, R.map]; rw [Eff.run_pure, Eff.run_pure]; rfl
          | er b => rfl
          | bad => rfl
      | er b => rfl
      | bad => rfl) (rest.ok X Wx g tk)
/-- for: the turns may return -/
def SJ.forB {tg iter : Expr} {body sts : List Stmt} {pos : Pos} {t : TY} {A : Ctx} {vs : List Nat} (cl : List Nat) (I : IJ M C (rw_ ++ ro) tg iter t) (T : TG1 C tg t vs A) (b : SJ M C (drp cl rw_ ++ ro) (A ++ pick cl rw_) body (OZ.b rwE r)) (rest : SJ M C ro rw_ sts o) (mkR : r.T → o.Z) (hR : ∀ x, o.vw (mkR x) = .rt x := by intro _; rfl)
    (hE : pick cl rwE = pick cl rw_ := by rfl) (h1 : ∀ i ∈ vs, i ∉ rw_.map (·.1) := by first | decide | exact of_decide_eq_true rfl) (h2 : ∀ i ∈ vs, i ∉ ro.map (·.1) := by first | decide | exact of_decide_eq_true rfl) (hp : C.p ∉ vs := by first | decide | exact of_decide_eq_true rfl) : SJ M C ro rw_ (.For tg iter body [] pos :: sts) o where
  den c m := (I.den (ST.app rw_ ro m c) >>= fun xs => loopF (turnF cl T.f (OZ.b rwE r) hE b.den c m) xs (ST.pick cl rw_ m) >>= fun fl => pure (FL.map (fun m1 => ST.mrg cl rw_ m1 (ST.drp cl rw_ m)) fl)) >>= fun fl => match fl with
      | .nx m1 => rest.den c m1
      | .rt v => pure (mkR v)
  ok X Wx g tk := seqF_ok (for_core g tk (pos := pos) cl I T (OZ.b rwE r) b hE h1 h2 hp) (rest.ok X Wx g tk) mkR hR

/-! ### while -/
def whileF {A B : Type} (c : A → M Bool) (b : A → M (FL A B)) : Nat → A → M (FL A B)
  | 0, _ => Eff.bad
  | n + 1, m => c m >>= fun t => if t = true then b m >>= fun o => match o with
    | .nx m' => whileF c b n m'
    | .rt v => pure (.rt v)
    else pure (.nx m)
def whileN {A : Type} (c : A → M Bool) (b : A → M A) : Nat → A → M A
  | 0, _ => Eff.bad
  | n + 1, m => c m >>= fun t => if t = true then b m >>= fun m' => whileN c b n m' else pure m
theorem run_whileF {A B : Type} {c : A → M Bool} {b : A → M (FL A B)} {n : Nat} {m : A} {w : Eff.W M} : Eff.run (whileF c b (n + 1) m) w = match Eff.run (c m) w with
    | (.ok true, w1) => (match Eff.run (b m) w1 with
      | (.ok (.nx m'), w') => Eff.run (whileF c b n m') w'
      | (.ok (.rt v), w') => (.ok (.rt v), w')
      | (.er b, w') => (.er b, w')
      | (.bad, w') => (.bad, w'))
    | (.ok false, w1) => (.ok (.nx m), w1)
    | (.er b, w') => (.er b, w')
    | (.bad, w') => (.bad, w') := by
  show Eff.run (c m >>= _) w = _
  rw [Eff.run_bind]
  cases Eff.run (c m) w with
  | mk o w1 => cases o with
    | ok t => cases t with
      | true =>
        dsimp only
        rw [if_pos rfl, Eff.run_bind]
        cases Eff.run (b m) w1 with
        | mk o w' => cases o with
          | ok a => cases a with
            | nx m' => rfl
            | rt v => exact Eff.run_pure _ _
          | er b => rfl
          | bad => rfl
      | false => dsimp only; rw [if_neg Bool.false_ne_true]; exact Eff.run_pure _ _
    | er b => rfl
    | bad => rfl
theorem whileF_N {A B : Type} (c : A → M Bool) (b : A → M A) (b' : A → M (FL A B)) (hb : ∀ m w, Eff.run (b' m) w = mapO FL.nx (Eff.run (b m) w)) : ∀ (n : Nat) (m : A) (w : Eff.W M), Eff.run (whileF c b' n m) w = mapO FL.nx (Eff.run (whileN c b n m) w)
  | 0, m, w => by
    show Eff.run (Eff.bad : M _) w = mapO FL.nx (Eff.run (Eff.bad : M _) w)
    rw [Eff.run_bad, Eff.run_bad]; rfl
  | n + 1, m, w => by
    rw [run_whileF]
    show _ = mapO FL.nx (Eff.run (c m >>= fun t => if t = true then b m >>= fun m' => whileN c b n m' else pure m) w)
    rw [Eff.run_bind]
    cases Eff.run (c m) w with
    | mk o w1 => cases o with
      | ok t => cases t with
        | true =>
          dsimp only
          rw [hb, if_pos rfl, Eff.run_bind]
          cases Eff.run (b m) w1 with
          | mk o w' => cases o with
            | ok a => exact whileF_N c b b' hb n a w'
            | er b => rfl
            | bad => rfl
        | false => dsimp only; rw [if_neg Bool.false_ne_true, Eff.run_pure]; rfl
      | er b => rfl
      | bad => rfl
theorem while_core {X : Cx} {Wx : WX} (g : SG C X) (tk : Takes X Wx) {c0 : Expr} {body : List Stmt} {pos : Pos} (fuel : Nat) (cl : List Nat) (tc : TJ M C (pick cl rw_ ++ (drp cl rw_ ++ ro)) c0) (ob : OZ rwE r) (b : SJ M C (drp cl rw_ ++ ro) (pick cl rw_) body ob) (hE : pick cl rwE = pick cl rw_) :
    PS X (.While c0 body [] pos) (tS M C.T.K C.p C.N.length ro rw_ rw_ r (OZ.b rw_ r) (fun c m => whileF (fun m1 => tc.den (ST.app _ _ m1 (ST.app _ _ (ST.drp cl rw_ m) c))) (fun m1 => b.den (ST.app _ _ (ST.drp cl rw_ m) c) m1 >>= fun z => pure (FL.map (fun e => cast (congrArg ST hE) (ST.pick cl rwE e)) (ob.vw z))) fuel (ST.pick cl rw_ m) >>= fun fl => pure (FL.map (fun m1 => ST.mrg cl rw_ m1 (ST.drp cl rw_ m)) fl)) Wx) := by
  refine PS.imp (ps_while g.po (tc.ok X Wx g.toXG tk) (b.ok X Wx g tk)) fun D σ H q => ?_
  obtain ⟨c, m, w, S, Ow, Oc, O, x, k⟩ := q
  obtain ⟨O1, O2, hperm, es2, x0⟩ := x.split cl
  have hmem : ∀ a, a ∈ O ↔ a ∈ O1 ∨ a ∈ O2 := fun a => by rw [hperm.mem_iff, List.mem_append]
  dsimp only at k
  generalize hcd : (fun m1 => tc.den (ST.app _ _ m1 (ST.app _ _ (ST.drp cl rw_ m) c))) = cd at k
  generalize hbd : (fun m1 => b.den (ST.app _ _ (ST.drp cl rw_ m) c) m1 >>= fun z => pure (FL.map (fun e => cast (congrArg ST hE) (ST.pick cl rwE e)) (ob.vw z))) = bd at k
  have kk : ∀ (o : R (FL (ST (pick cl rw_)) r.T) × Eff.W M), Eff.run (whileF cd bd fuel (ST.pick cl rw_ m)) w = o → PostS M C.T.K C.p ro σ H S Ow O rw_ r Wx D (mapO (FL.map (fun m1 => ST.mrg cl rw_ m1 (ST.drp cl rw_ m))) o) := fun o e => by
    rw [Eff.run_bind, e] at k
    obtain ⟨o, wN⟩ := o
    cases o with
    | ok fl => dsimp only at k; rw [Eff.run_pure] at k; exact k
    | er b => exact k
    | bad => exact k
  generalize hout : Eff.run (whileF cd bd fuel (ST.pick cl rw_ m)) w = out at kk
  have kout := kk out rfl
  refine ⟨fun n σi Hi => ∃ Si wi, ∃ (mi : ST (pick cl rw_)), ∃ Oi, SSt H S Ow O1 Oi Hi Si ∧ Eff.ws (M := M) wi (σ[C.p]?.join) Hi Ow ∧ SatL C.T.K Si Hi (pick cl rw_) mi σi Oi ∧ (∀ j, j = C.p ∨ j ∈ (drp cl rw_ ++ ro).map (·.1) → σi[j]? = σ[j]?) ∧ σi.length = σ.length ∧
    Eff.run (whileF cd bd n mi) wi = out, ⟨fuel, S, w, _, O1, x0.sstE (ESt.refl x.sub), x.ws, x0.es, fun _ _ => rfl, rfl, hout⟩, ?_⟩
  rintro n σi Hi ⟨Si, wi, mi, Oi, st, hws, es, hsl, hle, hr⟩
  have x1 := x0.after st hws es hsl hle
  have hro : ∀ j, j = C.p ∨ j ∈ ro.map (·.1) → j = C.p ∨ j ∈ (drp cl rw_ ++ ro).map (·.1) := fun j hj => hj.imp id fun h => by rw [List.map_append]; exact List.mem_append_right _ h
  have pj : σi[C.p]?.join = σ[C.p]?.join := by rw [hsl _ (.inl rfl)]
  have nd2 : O2.Nodup := by
    have := (List.nodup_append.mp (List.nodup_append.mp x0.nd).2.1).1
    exact (List.nodup_append.mp this).1
  have hO2 : ∀ a ∈ O2, ∀ {Oj : List Addr} {Hj Sj : Hp}, SSt H S Ow O1 Oj Hj Sj → Sj a = none := fun a ha Oj Hj Sj sj => by
    cases e : Sj a with
    | none => rfl
    | some o =>
      rcases sj.new a o e with q | q | q
      · rw [x0.dis a (by simp [ha])] at q; cases q
      · obtain ⟨o', e'⟩ := x0.ec.there a (by simp [ha]); rw [q] at e'; cases e'
      · exact absurd rfl ((List.nodup_append.mp (List.nodup_append.mp x0.nd).2.1).2.2 a (by simp [ha]) a q)
  have disj : ∀ a ∈ O2, ∀ {Oj : List Addr} {Hj Sj : Hp}, SSt H S Ow O1 Oj Hj Sj → a ∉ Oj := fun a ha Oj Hj Sj sj hb => by
    rcases (sj.o1 a hb).1 with q | q
    · obtain ⟨o', e'⟩ := x0.ec.there a (by simp [ha]); rw [q] at e'; cases e'
    · exact absurd rfl ((List.nodup_append.mp (List.nodup_append.mp x0.nd).2.1).2.2 a (by simp [ha]) a q)
  cases n with
  | zero =>
    have : Eff.run (Eff.bad : M (FL (ST (pick cl rw_)) r.T)) wi = out := hr
    rw [Eff.run_bad] at this
    rw [← this] at kout
    exact kout.elim
  | succ n =>
    rw [run_whileF] at hr
    refine ⟨_, wi, Si, Ow, _, x1.sat, ?_⟩
    show PostT M C.T.K C.p σi Hi Si Ow _ _ _
    have hcd' : tc.den (ST.app _ _ mi (ST.app _ _ (ST.drp cl rw_ m) c)) = cd mi := by rw [← hcd]
    rw [hcd']
    cases e : Eff.run (cd mi) wi with
    | mk o w1 =>
      rw [e] at hr
      cases o with
      | bad => rw [← hr] at kout; exact kout
      | er eb =>
        rw [← hr] at kout
        exact fun cls d H'' S'' st3 hw3 er3 => kout cls d σi H'' S'' ([] : List Addr) ((st.trans (x1.sstE st3)).widen (fun a ha => (hmem a).mpr (.inl ha)) (fun a ha => by cases ha) .nil) (by rw [← pj]; exact hw3) er3 (fun j hj => hsl j (hro j hj)) hle
      | ok t =>
        intro H1 S1 st1 hw1
        have x2 := x1.afterE st1 hw1
        have sT : SSt H S Ow O1 Oi H1 S1 := st.trans (x1.sstE st1)
        cases t with
        | false =>
          rw [if_neg Bool.false_ne_true]
          dsimp only at hr
          rw [← hr] at kout
          have es2' : SatL C.T.K S1 H1 (drp cl rw_) (ST.drp cl rw_ m) σi O2 := (es2.mono sT.ext fun a ha => by
            obtain ⟨o, eo⟩ := x0.ec.there a (by simp [ha])
            rw [eo]
            exact sT.fr a o (fun hb => absurd rfl ((List.nodup_append.mp x0.nd).2.2 a hb a (by simp [ha]))) (fun hb => absurd rfl ((List.nodup_append.mp (List.nodup_append.mp x0.nd).2.1).2.2 a (by simp [ha]) a hb)) eo).slots fun j hj => by rw [hsl j (.inr (by rw [List.map_append]; exact List.mem_append_left _ hj))]
          obtain ⟨O', q1, q2⟩ := SatL.mrg x2.es es2'
          refine kout σi H1 S1 O' (sT.widen (fun a ha => (hmem a).mpr (.inl ha)) (fun a ha => ?_) (q1.symm.nodup ?_)) (by rw [← pj]; exact hw1) q2 (fun j hj => hsl j (hro j hj)) hle
          · rcases List.mem_append.mp (q1.mem_iff.mp ha) with q | q
            · exact .inr q
            · exact .inl ⟨(hmem a).mpr (.inr q), hO2 a q sT⟩
          · exact List.nodup_append.mpr ⟨sT.n1, nd2, fun a ha b hb e => disj b hb sT (e ▸ ha)⟩
        | true =>
          rw [if_pos rfl]
          dsimp only at hr
          refine ⟨_, fun σ' H' p' => ⟨n, Nat.lt_succ_self _, p'⟩, ?_⟩
          refine ⟨_, _, w1, S1, Ow, _, Oi, x2, ?_⟩
          have hbd' : (b.den (ST.app _ _ (ST.drp cl rw_ m) c) mi >>= fun z => pure (FL.map (fun e => cast (congrArg ST hE) (ST.pick cl rwE e)) (ob.vw z))) = bd mi := by rw [← hbd]
          rw [← hbd', Eff.run_bind] at hr
          cases e4 : Eff.run (b.den (ST.app _ _ (ST.drp cl rw_ m) c) mi) w1 with
          | mk o w' =>
            rw [e4] at hr
            cases o with
            | bad => rw [← hr] at kout; exact kout
            | er eb =>
              rw [← hr] at kout
              exact fun cls d σ' H'' S'' O'' st3 hw3 er3 hs3 hl3 => kout cls d σ' H'' S'' ([] : List Addr) ((sT.trans st3).widen (fun a ha => (hmem a).mpr (.inl ha)) (fun a ha => by cases ha) .nil) (by rw [← pj]; exact hw3) er3 (fun j hj => (hs3 j (hro j hj)).trans (hsl j (hro j hj))) (hl3.trans hle)
            | ok z =>
              dsimp only at hr
              rw [Eff.run_pure] at hr
              show PostS M C.T.K C.p (drp cl rw_ ++ ro) σi H1 S1 Ow Oi rwE r Wx _ (R.ok (ob.vw z), w')
              cases e5 : ob.vw z with
              | rt v =>
                rw [e5] at hr
                rw [← hr] at kout
                exact fun v H'' S'' O'' st3 hw3 se => kout v H'' S'' O'' ((sT.trans st3).widen (fun a ha => (hmem a).mpr (.inl ha)) (fun a ha => .inr ha) st3.n1) (by rw [← pj]; exact hw3) se
              | nx me =>
                rw [e5] at hr
                intro σ' H'' S'' O'' st3 hw3 es3 hs3 hl3
                obtain ⟨P1, P2, q1, q2, _⟩ := es3.pick cl
                have es4 := satL_cast hE q2
                have hsub : ∀ a ∈ P1, a ∈ O'' := fun a ha => q1.mem_iff.mpr (List.mem_append_left _ ha)
                have nP1 : P1.Nodup := (List.nodup_append.mp (q1.nodup st3.n1)).1
                have st4 : SSt H1 S1 Ow Oi P1 H'' S'' := ⟨st3.ext, st3.fr, st3.th, st3.new, st3.sub, fun a ha => st3.o1 a (hsub a ha), nP1⟩
                exact ⟨S'', w', _, P1, sT.trans st4, by rw [← pj]; exact hw3, es4, fun j hj => (hs3 j hj).trans (hsl j hj), hl3.trans hle, hr⟩
def SJ.whileN {c0 : Expr} {body sts : List Stmt} {pos : Pos} (fuel : Nat) (cl : List Nat) (tc : TJ M C (pick cl rw_ ++ (drp cl rw_ ++ ro)) c0) (b : SJ M C (drp cl rw_ ++ ro) (pick cl rw_) body (OZ.n rwE r)) (rest : SJ M C ro rw_ sts o) (hE : pick cl rwE = pick cl rw_ := by rfl) : SJ M C ro rw_ (.While c0 body [] pos :: sts) o where
  den c m := (Tp.whileN (fun m1 => tc.den (ST.app _ _ m1 (ST.app _ _ (ST.drp cl rw_ m) c))) (fun m1 => b.den (ST.app _ _ (ST.drp cl rw_ m) c) m1 >>= fun e => pure (cast (congrArg ST hE) (ST.pick cl rwE e))) fuel (ST.pick cl rw_ m) >>= fun m1 => pure (ST.mrg cl rw_ m1 (ST.drp cl rw_ m))) >>= fun m1 => rest.den c m1
  ok X Wx g tk := seq_ok (ps_n (while_core g tk (pos := pos) fuel cl tc (OZ.n rwE r) b hE) fun c m w => by
    rw [Eff.run_bind, Eff.run_bind, whileF_N (b := fun m1 => b.den (ST.app _ _ (ST.drp cl rw_ m) c) m1 >>= fun e => pure (cast (congrArg ST hE) (ST.pick cl rwE e)))]
    · cases Eff.run (Tp.whileN _ _ fuel (ST.pick cl rw_ m)) w with
      | mk o w' => cases o with
        | ok a => dsimp only [mapO, R.map]; rw [Eff.run_pure, Eff.run_pure]; rfl
        | er b => rfl
        | bad => rfl
    · intro m1 w1
      rw [Eff.run_bind, Eff.run_bind]
      cases Eff.run (b.den (ST.app _ _ (ST.drp cl rw_ m) c) m1) w1 with
      | mk o w' => cases o with
        | ok a => dsimp only; rw [Eff.run_pure, Eff.run_pure]; rfl
        | er b => rfl
        | bad => rfl) (rest.ok X Wx g tk)
def SJ.whileB {c0 : Expr} {body sts : List Stmt} {pos : Pos} (fuel : Nat) (cl : List Nat) (tc : TJ M C (pick cl rw_ ++ (drp cl rw_ ++ ro)) c0) (b : SJ M C (drp cl rw_ ++ ro) (pick cl rw_) body (OZ.b rwE r)) (rest : SJ M C ro rw_ sts o) (mkR : r.T → o.Z) (hR : ∀ x, o.vw (mkR x) = .rt x := by intro _; rfl) (hE : pick cl rwE = pick cl rw_ := by rfl) : SJ M C ro rw_ (.While c0 body [] pos :: sts) o where
  den c m := (whileF (fun m1 => tc.den (ST.app _ _ m1 (ST.app _ _ (ST.drp cl rw_ m) c))) (fun m1 => b.den (ST.app _ _ (ST.drp cl rw_ m) c) m1 >>= fun z => pure (FL.map (fun e => cast (congrArg ST hE) (ST.pick cl rwE e)) z)) fuel (ST.pick cl rw_ m) >>= fun fl => pure (FL.map (fun m1 => ST.mrg cl rw_ m1 (ST.drp cl rw_ m)) fl)) >>= fun fl => match fl with
      | .nx m1 => rest.den c m1
      | .rt v => pure (mkR v)
  ok X Wx g tk := seqF_ok (while_core g tk (pos := pos) fuel cl tc (OZ.b rwE r) b hE) (rest.ok X Wx g tk) mkR hR
end
end Tp

set_option Elab.async false
set_option linter.all false
set_option maxRecDepth 100000
set_option maxHeartbeats 4000000
/-! Tp19: expressions that write owned cells; append, extend, remove, pop. -/
namespace Tp
open PySem PySem.Spec L2
open PyProof.Rows hiding St

section
variable {K : PySem.W.Frag} {S S' H H' : Hp}
/-- a slot's value taken out and another put in -/
theorem SatL.chg (i : Nat) : ∀ {G : Ctx} {s : ST G} {σ : St} {O : List Addr}, SatL K S H G s σ O → at_ i G ≠ .un → (G.map (·.1)).Nodup → ∃ Oa Oi Ob, O = Oa ++ (Oi ++ Ob) ∧ SatE K S H (at_ i G) (ST.get i G s) (σ[i]?.join) Oi ∧
    ∀ (e : SE) (x : e.T) (Oi' : List Addr) (S' H' : Hp), SatE K S' H' e x (σ[i]?.join) Oi' → Ext S S' → (∀ a ∈ Oa ++ Ob, H' a = H a) → SatL K S' H' (Tp.put i e G) (ST.put i e x G s) σ (Oa ++ (Oi' ++ Ob))
  | [], _, _, _, _, n, _ => absurd rfl n
  | (j, e) :: r, s, σ, O, h, n, nd => by
    obtain ⟨P1, P2, e1, e2, e3⟩ := h
    subst e1
    rw [List.map_cons, List.nodup_cons] at nd
    have key : ∀ b : Bool, Nat.beq i j = b → (bif b then e else at_ i r) ≠ .un → ∃ Oa Oi Ob, P1 ++ P2 = Oa ++ (Oi ++ Ob) ∧ SatE K S H (bif b then e else at_ i r) (match b with
        | true => s.1
        | false => ST.get i r s.2) (σ[i]?.join) Oi ∧ ∀ (e' : SE) (x : e'.T) (Oi' : List Addr) (S' H' : Hp), SatE K S' H' e' x (σ[i]?.join) Oi' → Ext S S' → (∀ a ∈ Oa ++ Ob, H' a = H a) → SatL K S' H' (bif b then (i, e') :: r else (j, e) :: Tp.put i e' r) (match b with
        | true => (x, s.2)
        | false => (s.1, ST.put i e' x r s.2)) σ (Oa ++ (Oi' ++ Ob)) := fun b hb n => by
      cases b with
      | true =>
        have : i = j := Nat.eq_of_beq_eq_true hb
        subst this
        exact ⟨[], P1, P2, rfl, e2, fun e' x Oi' S' H' q ex k => ⟨Oi', P2, rfl, q, e3.mono ex fun a ha => k a (by simp [ha])⟩⟩
      | false =>
        obtain ⟨Oa, Oi, Ob, q1, q2, q3⟩ := SatL.chg i e3 n nd.2
        subst q1
        refine ⟨P1 ++ Oa, Oi, Ob, by simp, q2, fun e' x Oi' S' H' q ex k => ⟨P1, Oa ++ (Oi' ++ Ob), by simp, e2.mono ex fun a ha => k a (by simp [ha]), q3 e' x Oi' S' H' q ex fun a ha => k a ?_⟩⟩
        rcases List.mem_append.mp ha with h | h
        · simp [h]
        · simp [h]
    exact key _ rfl n
end
theorem SSt.mut {H S H1 S1 : Hp} {Ow O O' : List Addr} {a : Addr} {u : HO} (st : SSt H S Ow O O' H1 S1) (ha : a ∈ O') : SSt H S Ow O O' (upd H1 a u) S1 where
  ext := st.ext
  fr := fun x o h1 h2 e => by
    have : x ≠ a := fun z => by
      subst z
      rcases (st.o1 x ha).1 with q | q
      · rw [q] at e; cases e
      · exact h2 q
    rw [upd_ne this]; exact st.fr x o h1 h2 e
  th := fun x o e => by
    by_cases h : x = a
    · subst h; exact ⟨u, upd_same⟩
    · rw [upd_ne h]; exact st.th x o e
  new := st.new
  sub := fun x o e => by
    have : x ≠ a := fun z => by subst z; rw [(st.o1 x ha).2] at e; cases e
    rw [upd_ne this]; exact st.sub x o e
  o1 := st.o1
  n1 := st.n1

section
variable (M : Type → Type) [Eff M]
def PostM (K : PySem.W.Frag) (p : Nat) (σ : St) (H S : Hp) (Ow O : List Addr) (rw' : Ctx) (r : SE) (Wx : Value → Option Addr → Hp → Prop) (Q : VK) : R (ST rw' × r.T) × Eff.W M → Prop
  | (.ok x, w') => ∀ v H' S' O' O1, SSt H S Ow O (O' ++ O1) H' S' → Eff.ws (M := M) w' (σ[p]?.join) H' Ow → SatL K S' H' rw' x.1 σ O' → SatE K S' H' r x.2 (some v) O1 → Q v H'
  | (.er x, w') => ∀ cls d H' S', SSt H S Ow O [] H' S' → Eff.ws (M := M) w' (σ[p]?.join) H' Ow → ErrR K S' x cls d → Wx cls d H'
  | (.bad, _) => False
def tM (K : PySem.W.Frag) (p n : Nat) (ro rw_ rw' : Ctx) (r : SE) (den : ST ro → ST rw_ → M (ST rw' × r.T)) (Wx : WX) : TE := fun σ H Q =>
  ∃ c m w S Ow Oc O, Sat2 M K p n ro rw_ c m w σ H S Ow Oc O ∧ PostM M K p σ H S Ow O rw' r (fun cls d H' => Wx cls d σ H') Q (Eff.run (den c m) w)
/-- an expression that may write the owned cells -/
structure EM (C : Cf) (ro rw_ : Ctx) (e : Expr) (rw' : Ctx) (r : SE) where
  den : ST ro → ST rw_ → M (ST rw' × r.T)
  ok : ∀ X Wx, SG C X → Takes X Wx → PE X e (tM M C.T.K C.p C.N.length ro rw_ rw' r den Wx)
end
section
variable {M : Type → Type} [Eff M] {C : Cf} {ro rw_ rw' rw1 : Ctx} {r : SE}
theorem PostM.pre {K : PySem.W.Frag} {p : Nat} {σ : St} {H S H1 S1 : Hp} {Ow O O1 : List Addr} {Wx : Value → Option Addr → Hp → Prop} {Q : VK} (st : SSt H S Ow O O1 H1 S1) : ∀ {o : R (ST rw' × r.T) × Eff.W M}, PostM M K p σ H S Ow O rw' r Wx Q o → PostM M K p σ H1 S1 Ow O1 rw' r Wx Q o
  | (.ok x, w'), h => fun v H' S' O' O1 a b c d => h v H' S' O' O1 (st.trans a) b c d
  | (.er x, w'), h => fun cls d H' S' a b c => h cls d H' S' (st.trans a) b c
  | (.bad, _), h => h
/-- an expression that writes nothing -/
def EJ.toM {e : Expr} (a : EJ M C (rw_ ++ ro) e r) : EM M C ro rw_ e rw_ r where
  den c m := a.den (ST.app rw_ ro m c) >>= fun y => pure (m, y)
  ok X Wx g tk := by
    refine PE.imp (a.ok X Wx g.toXG tk) fun σ H Q q => ?_
    obtain ⟨c, m, w, S, Ow, Oc, O, x, k⟩ := q
    refine ⟨_, w, S, Ow, _, x.sat, ?_⟩
    cases e : Eff.run (a.den (ST.app rw_ ro m c)) w with
    | mk q w' =>
      cases q with
      | ok y =>
        rw [run_ok _ e, Eff.run_pure] at k
        intro v H' S' O1 st hw se
        refine k v H' S' O O1 (st.toS (fun a ha => x.est st a (by simp [ha])) (fun a ha => List.mem_append.mp ha) ?_) hw (x.es' st) se
        refine List.nodup_append.mpr ⟨(List.nodup_append.mp (List.nodup_append.mp x.nd).2.1).2.1, st.n1, fun a ha b hb e => ?_⟩
        subst e
        exact x.fresh st a hb (by simp [ha])
      | er b =>
        rw [run_er _ e] at k
        exact fun cls d H2 S2 st2 hw2 er2 => k cls d H2 S2 ((x.sstE st2).widen (fun a ha => ha) (fun a ha => by cases ha) .nil) hw2 er2
      | bad =>
        rw [run_bad' _ e] at k
        exact k
/-- an expression that may write, then more -/
theorem stepM {K : PySem.W.Frag} {p n : Nat} {c : ST ro} {m : ST rw_} {w : Eff.W M} {σ : St} {H S : Hp} {Ow Oc O : List Addr} {Wx : WX} {B : Type} {da : ST ro → ST rw_ → M (ST rw1 × r.T)} {f : ST rw1 × r.T → M B} {Q : VK}
    (Z : Hp → Hp → List Addr → R B × Eff.W M → Prop) (x : Sat2 M K p n ro rw_ c m w σ H S Ow Oc O) (h : Z H S O (Eff.run (da c m >>= f) w))
    (her : ∀ b w', Z H S O (.er b, w') → ∀ cls d H' S', SSt H S Ow O [] H' S' → Eff.ws (M := M) w' (σ[p]?.join) H' Ow → ErrR K S' b cls d → Wx cls d σ H') (hbad : ∀ w', Z H S O (.bad, w') → False)
    (k : ∀ (y : ST rw1 × r.T) (w' : Eff.W M) v H' S' O' O1, SSt H S Ow O (O' ++ O1) H' S' → Eff.ws w' (σ[p]?.join) H' Ow → SatL K S' H' rw1 y.1 σ O' → SatE K S' H' r y.2 (some v) O1 → Z H S O (Eff.run (f y) w') → Q v H') :
    tM M K p n ro rw_ rw1 r da Wx σ H Q := by
  refine ⟨c, m, w, S, Ow, Oc, O, x, ?_⟩
  cases e : Eff.run (da c m) w with
  | mk q w' =>
    cases q with
    | ok y =>
      rw [run_ok f e] at h
      exact fun v H' S' O' O1 st hw es se => k y w' v H' S' O' O1 st hw es se h
    | er b =>
      rw [run_er f e] at h
      exact fun cls d H2 S2 st2 hw2 er2 => her b w' h cls d H2 S2 st2 hw2 er2
    | bad =>
      rw [run_bad' f e] at h
      exact hbad _ h

/-! ### methods of an owned list -/
/-- what an owned list in a slot is -/
theorem own_list {K : PySem.W.Frag} {S H : Hp} {t : TY} {x : List t.A} {v : Option V} {O : List Addr} (h : SatE K S H (.o1 t) x v O) : ∃ a vs, O = [a] ∧ v = some (.ref a) ∧ H a = some (.lst vs) ∧ RepL K S (x.map t.enc) vs := h
def isOl : SE → Bool
  | .o1 _ => true
  | .o2 _ => true
  | .oj => true
  | _ => false
theorem ol_list {K : PySem.W.Frag} {S H : Hp} : ∀ {e : SE} {x : e.T} {v : Option V} {O : List Addr}, isOl e = true → SatE K S H e x v O → ∃ a vs, v = some (.ref a) ∧ H a = some (.lst vs)
  | .o1 t, _, _, _, _, h => by obtain ⟨a, vs, e1, e2, e3, _⟩ := h; exact ⟨a, vs, e2, e3⟩
  | .o2 t, _, _, _, _, h => by obtain ⟨a, vs, e1, e2, e3, _⟩ := h; exact ⟨a, _, e2, e3⟩
  | .oj, _, _, _, _, h => by obtain ⟨a, vs, e1, e2, e3, _⟩ := h; exact ⟨a, _, e2, e3⟩
theorem keys_put {i : Nat} {e : SE} : ∀ {G : Ctx}, i ∈ G.map (·.1) → (put i e G).map (·.1) = G.map (·.1)
  | [], h => by cases h
  | (j, f) :: r, h => by
    show List.map _ (bif Nat.beq i j then _ else _) = _
    cases hb : Nat.beq i j with
    | true =>
      have : i = j := Nat.eq_of_beq_eq_true hb
      subst this; rfl
    | false =>
      have hne : i ≠ j := fun q => by subst q; rw [Nat.beq_refl] at hb; cases hb
      have : i ∈ r.map (·.1) := (List.mem_cons.mp h).resolve_left hne
      show j :: List.map _ (put i e r) = _
      rw [keys_put this]; rfl
/-- what a method's call does to an owned list: the list before, the arguments' value; the list behind, the answer -/
def Mu1 (C : Cf) (id : String) (t : TY) (u a : SE) (f : List t.A → a.T → Option (List t.A × u.T)) : Prop := ∀ X, XG C X → MtM X id fun x vs H Q => ∃ l us v, ∃ xs : List t.A, ∃ y : a.T, ∃ z : List t.A × u.T, ∃ S, x = .ref l ∧ vs = [v] ∧ Sub S H ∧ H l = some (.lst us) ∧ RepL C.T.K S (xs.map t.enc) us ∧ SatE C.T.K S H a y (some v) [] ∧ f xs y = some z ∧
  ∀ v' us', RepL C.T.K S (z.1.map t.enc) us' → (∀ H', SatE C.T.K S H' u z.2 (some v') []) → Q v' (upd H l (.lst us'))
theorem MtM.imp {X : Cx} {id : String} {r r' : V → List V → Hp → VK → Prop} (h : MtM X id r) (k : ∀ x vs H Q, r' x vs H Q → r x vs H Q) : MtM X id r' :=
  fun pins s σ H x xs v us Q I rx rv q => h pins s σ H x xs v us Q I rx rv (k x xs H Q q)
def appO {A : Type} (xs : List A) (y : A) : Option (List A × Unit) := if xs.length < sizeLine then some (xs ++ [y], ()) else none
theorem mu_append {t : TY} : Mu1 C "list.append" t (.sh .non) (.sh t) (fun xs y => appO xs y) := fun X g => MtM.imp mt_append fun x vs H Q ⟨l, us, v, xs, y, z, S, e1, e2, sub, h1, h2, h3, h4, k⟩ => by
  obtain ⟨_, v', q1, q2⟩ := h3
  cases q1
  dsimp only at h4
  unfold appO at h4
  by_cases hz : xs.length < sizeLine
  · rw [if_pos hz] at h4
    cases h4
    refine ⟨l, us, v, e1, e2, h1, by rw [h2.len, List.length_map]; exact hz, k _ _ ?_ fun H' => ⟨rfl, _, rfl, rfl⟩⟩
    rw [List.map_append]
    exact h2.app (RepL.cons q2 rfl)
  · rw [if_neg hz] at h4; cases h4
def extO {A : Type} (xs ys : List A) : Option (List A × Unit) := if xs.length + ys.length ≤ sizeLine then some (xs ++ ys, ()) else none
theorem mu_extend {t : TY} : Mu1 C "list.extend" t (.sh .non) (.sh (.list t)) (fun xs y => extO xs y) := fun X g => MtM.imp mt_extend fun x vs H Q ⟨l, us, v, xs, y, z, S, e1, e2, sub, h1, h2, h3, h4, k⟩ => by
  obtain ⟨_, v', q1, q2⟩ := h3
  cases q1
  dsimp only at h4
  unfold extO at h4
  obtain ⟨b, zs, rfl, b2, b3⟩ := q2
  by_cases hz : xs.length + (y : List t.A).length ≤ sizeLine
  · rw [if_pos hz] at h4
    cases h4
    refine ⟨l, b, us, zs, e1, e2, h1, sub _ _ b2, by rw [h2.len, b3.len, List.length_map, List.length_map]; exact hz, k _ _ ?_ fun H' => ⟨rfl, _, rfl, rfl⟩⟩
    rw [List.map_append]
    exact h2.app b3
  · rw [if_neg hz] at h4; cases h4
def remO (xs : List Int) (y : Int) : Option (List Int × Unit) := if y ∈ xs then some (xs.erase y, ()) else none
theorem mu_remove : Mu1 C "list.remove" .int (.sh .non) (.sh .int) remO := fun X g => MtM.imp mt_remove fun x vs H Q ⟨l, us, v, xs, y, z, S, e1, e2, sub, h1, h2, h3, h4, k⟩ => by
  obtain ⟨_, v', q1, q2⟩ := h3
  cases q1
  cases (show v = V.int y from q2)
  unfold remO at h4
  have h2' := repL_ints h2
  subst h2'
  by_cases hz : (y : Int) ∈ (xs : List Int)
  · rw [if_pos hz] at h4
    cases h4
    have hlt : List.idxOf (y : Int) (xs : List Int) < (xs : List Int).length := List.idxOf_lt_length_of_mem hz
    refine ⟨l, xs, y, List.idxOf (y : Int) xs, e1, e2, h1, ?_, fun m hm e => ?_, k _ _ ?_ fun H' => ⟨rfl, _, rfl, rfl⟩⟩
    · rw [List.getElem?_eq_getElem hlt, List.getElem_idxOf hlt]
    · obtain ⟨hm', e'⟩ := List.getElem?_eq_some_iff.mp e
      have h5 := List.not_of_lt_findIdx (show m < List.findIdx (fun z => z == (y : Int)) (xs : List Int) from hm)
      rw [e'] at h5
      simp at h5
    · have := List.erase_eq_eraseIdx_of_idxOf (a := (y : Int)) (l := (xs : List Int)) rfl
      dsimp only
      rw [this]
      exact ints_repL
  · rw [if_neg hz] at h4; cases h4
def popO {A : Type} (xs : List A) (i : Int) : Option (List A × A) := match seqIndex? i xs.length with
  | some k => (xs[k]?).map fun y => (xs.eraseIdx k, y)
  | none => none
theorem RepL.eraseIdx {K : PySem.W.Frag} {S : Hp} : ∀ {xs : List PV} {vs : List V} (k : Nat), RepL K S xs vs → RepL K S (xs.eraseIdx k) (vs.eraseIdx k)
  | [], _, k, h => by cases h; exact rfl
  | x :: xs, vs, 0, h => by obtain ⟨v, r, rfl, _, h2⟩ := h; exact h2
  | x :: xs, vs, k + 1, h => by obtain ⟨v, r, rfl, h1, h2⟩ := h; exact ⟨v, _, rfl, h1, RepL.eraseIdx k h2⟩
theorem map_eraseIdx {A B : Type} (f : A → B) : ∀ (xs : List A) (k : Nat), (xs.map f).eraseIdx k = (xs.eraseIdx k).map f
  | [], _ => rfl
  | x :: xs, 0 => rfl
  | x :: xs, k + 1 => by simp [map_eraseIdx f xs k]
theorem mu_popAt {t : TY} : Mu1 C "list.pop" t (.sh t) (.sh .int) (fun xs i => if -(2 ^ 63) ≤ i ∧ i < 2 ^ 63 then popO xs i else none) := fun X g => MtM.imp mt_popAt fun x vs H Q ⟨l, us, v, xs, y, z, S, e1, e2, sub, h1, h2, h3, h4, k⟩ => by
  obtain ⟨_, v', q1, q2⟩ := h3
  cases q1
  cases (show v = V.int y from q2)
  dsimp only at h4
  by_cases hb : -(2 ^ 63) ≤ (y : Int) ∧ (y : Int) < 2 ^ 63
  · rw [if_pos hb] at h4
    unfold popO at h4
    cases hk : seqIndex? y xs.length with
    | none => rw [hk] at h4; cases h4
    | some j =>
      rw [hk] at h4
      dsimp only at h4
      cases hx : xs[j]? with
      | none => rw [hx] at h4; cases h4
      | some w =>
        rw [hx] at h4
        cases h4
        obtain ⟨u, hu, ru⟩ := h2.get (i := j) (x := t.enc w) (by rw [List.getElem?_map, hx]; rfl)
        refine ⟨l, us, y, j, u, e1, e2, h1, hb.1, hb.2, by rw [h2.len, List.length_map]; exact hk, hu, k _ _ ?_ fun H' => ⟨rfl, _, rfl, ru⟩⟩
        have := h2.eraseIdx j
        rwa [map_eraseIdx] at this
  · rw [if_neg hb] at h4; cases h4
end
end Tp

set_option Elab.async false
set_option linter.all false
set_option maxRecDepth 100000
set_option maxHeartbeats 4000000
/-! Tp20: calls of an owned list's methods; statements of such expressions. -/
namespace Tp
open PySem PySem.Spec L2
open PyProof.Rows hiding St

section
variable {M : Type → Type} [Eff M] {C : Cf} {ro rw_ rw' rw1 : Ctx} {r : SE}
theorem sh_none {K : PySem.W.Frag} {S H : Hp} {t : TY} {x : t.A} {v : Option V} {O : List Addr} (h : SatE K S H (.sh t) x v O) : O = [] ∧ SatE K S H (.sh t) x v [] := ⟨h.1, rfl, h.2⟩
/-- x.m(e): x an owned list -/
def EM.mu1 {x name : Str} {p apos cpos : Pos} {e : Expr} {id : String} {t a u : TY} {f : List t.A → a.A → Option (List t.A × u.A)} (i : Nat) (F : Mu1 C id t (.sh u) (.sh a) f) (pa : PlainAttrs "list") (slot : Slot "list" name id) (hty : typeOf (.builtin id) = pure (.type "method_descriptor"))
    (arg : EM M C ro rw_ e rw1 (.sh a)) (h0 : isOl (at_ i rw_) = true := by rfl) (h1 : at_ i rw1 = .o1 t := by rfl) (hk : (rw1.map (·.1)).Nodup := by first | decide | exact of_decide_eq_true rfl) (hN : C.N[i]? = some x := by rfl) (hv : Vis C.sc x := by first | exact Or.inl rfl | exact Or.inr (Or.inl rfl) | exact Or.inr (Or.inr rfl))
    (hd : (x == ("__debug__" : Str)) = false := by first | decide | exact of_decide_eq_true rfl) (hcd : (x == ("__classdict__" : Str)) = false := by first | decide | exact of_decide_eq_true rfl)
    (hbase : ∀ env, attributeBase (.Name x p) name env (eval (.Name x p) env) = eval (.Name x p) env := by intro _; rfl) (hfew : ∀ env, ((backTo cpos (starEach [e] env)).all (fun x => !x.1) && (backToKw cpos (keywordEach [] env)).all (fun x => x.1.isSome)
      && decide ([e].length + ([] : List Keyword).length + (if ([] : List Keyword).isEmpty then 0 else 1) < 30)) = true := by intro _; rfl) (hline : (apos.endLine == cpos.line) = true := by rfl) (hs : ∀ env, starEach [e] env = (false, eval e env) :: starEach [] env := by intro _; rfl) :
    EM M C ro rw_ (.Call (.Attribute (.Name x p) name apos) [e] [] cpos) (put i (.o1 t) rw1) (.sh u) where
  den c m := arg.den c m >>= fun y => optM (f (cast (congrArg SE.T h1) (ST.get i rw1 y.1)) y.2) >>= fun z => pure (ST.put i (.o1 t) z.1 rw1 y.1, z.2)
  ok X Wx g tk := by
    refine PE.imp (pe_bm pa slot hty (F X g.toXG) (pe_var (g.name hN) (g.vis hv) hd hcd) (pa_cons (arg.ok X Wx g tk) pa_nil (hs _)) (hbase _) (hfew _) hline (hs _) rfl) fun σ H Q q => ?_
    obtain ⟨c, m, w, S, Ow, Oc, O, x, k⟩ := q
    have hn0 : at_ i rw_ ≠ .un := fun z => by rw [z] at h0; cases h0
    have hn1 : at_ i rw1 ≠ .un := fun z => by rw [z] at h1; cases h1
    obtain ⟨Oi, _, se0⟩ := SatL.get i x.es hn0
    obtain ⟨l, vs0, e1, e2⟩ := ol_list h0 se0
    refine ⟨.ref l, join_some e1, .inl ⟨rfl, vs0, SqL.of e2⟩, ?_⟩
    refine stepM (fun H S O o => PostM M C.T.K C.p σ H S Ow O (put i (.o1 t) rw1) (.sh u) (fun cls d H' => Wx cls d σ H') Q o) x k (fun b w' z => z) (fun _ z => z) fun y w1 v1 H1 S1 O1 P1 st1 hw1 es1 sa k1 => ?_
    obtain ⟨rfl, sa⟩ := sh_none sa
    rw [List.append_nil] at st1
    rw [run_opt] at k1
    obtain ⟨Oa, Ob, Oc', q1, q2, q3⟩ := es1.chg i hn1 (by exact hk)
    have q2' := satE_cast h1 q2
    obtain ⟨l', vs1, a1, a2, a3, a4⟩ := q2'
    rw [e1] at a2
    cases a2
    cases ef : f (cast (congrArg SE.T h1) (ST.get i rw1 y.1)) y.2 with
    | none => rw [ef] at k1; exact k1.elim
    | some z =>
      rw [ef] at k1
      dsimp only at k1
      rw [Eff.run_pure] at k1
      refine ⟨l, vs1, v1, _, y.2, z, S1, rfl, rfl, st1.sub, a3, a4, ⟨rfl, sa.2⟩, ef, fun v' us' rl su => ?_⟩
      have hl : l ∈ O1 := by rw [q1, a1]; simp
      have hlS : S1 l = none := (st1.o1 l hl).2
      have hnd := st1.n1
      rw [q1, a1] at hnd
      have hdl : ∀ a ∈ Oa ++ Oc', a ≠ l := fun a ha z => by
        subst z
        obtain ⟨n1, n2, n3⟩ := List.nodup_append.mp hnd
        rcases List.mem_append.mp ha with h | h
        · exact n3 a h a (by simp) rfl
        · exact (List.nodup_cons.mp n2).1 (by simpa using h)
      refine k1 v' _ S1 O1 [] (by rw [List.append_nil]; exact st1.mut hl) ?_ ?_ (by have := su (upd H1 l (.lst us')); exact this)
      · refine Eff.ws_mono hw1 fun b hb => upd_ne fun z => ?_
        subst z
        rcases (st1.o1 b hl).1 with h | h
        · obtain ⟨o, eo⟩ := Eff.ws_there x.ws b hb; rw [h] at eo; cases eo
        · exact (List.nodup_append.mp x.nd).2.2 b hb b (by simp [h]) rfl
      · have := q3 (.o1 t) z.1 [l] S1 (upd H1 l (.lst us')) ⟨l, us', rfl, e1, upd_same, rl⟩ (fun _ _ h => h) (fun a ha => upd_ne (hdl a ha))
        rw [q1, a1]
        exact this
/-- x.append(e): a new row for an owned list of owned lists -/
def EM.appRow {x : Str} {p apos cpos : Pos} {e : Expr} {t : TY} (i : Nat) (arg : EM M C ro rw_ e rw1 (.o1 t)) (h0 : isOl (at_ i rw_) = true := by rfl) (h1 : at_ i rw1 = .o2 t := by rfl) (hk : (rw1.map (·.1)).Nodup := by first | decide | exact of_decide_eq_true rfl) (hN : C.N[i]? = some x := by rfl) (hv : Vis C.sc x := by first | exact Or.inl rfl | exact Or.inr (Or.inl rfl) | exact Or.inr (Or.inr rfl))
    (hd : (x == ("__debug__" : Str)) = false := by first | decide | exact of_decide_eq_true rfl) (hcd : (x == ("__classdict__" : Str)) = false := by first | decide | exact of_decide_eq_true rfl)
    (hbase : ∀ env, attributeBase (.Name x p) ("append" : Str) env (eval (.Name x p) env) = eval (.Name x p) env := by intro _; rfl) (hfew : ∀ env, ((backTo cpos (starEach [e] env)).all (fun x => !x.1) && (backToKw cpos (keywordEach [] env)).all (fun x => x.1.isSome)
      && decide ([e].length + ([] : List Keyword).length + (if ([] : List Keyword).isEmpty then 0 else 1) < 30)) = true := by intro _; rfl) (hline : (apos.endLine == cpos.line) = true := by rfl) (hs : ∀ env, starEach [e] env = (false, eval e env) :: starEach [] env := by intro _; rfl) :
    EM M C ro rw_ (.Call (.Attribute (.Name x p) "append" apos) [e] [] cpos) (put i (.o2 t) rw1) (.sh .non) where
  den c m := arg.den c m >>= fun y => optM (appO (A := List t.A) (cast (congrArg SE.T h1) (ST.get i rw1 y.1)) y.2) >>= fun z => pure (ST.put i (.o2 t) z.1 rw1 y.1, ())
  ok X Wx g tk := by
    refine PE.imp (pe_bm PySem.F.plainAttrs_list PySem.F.slot_list_append PySem.F.type_list_append mt_append (pe_var (g.name hN) (g.vis hv) hd hcd) (pa_cons (arg.ok X Wx g tk) pa_nil (hs _)) (hbase _) (hfew _) hline (hs _) rfl) fun σ H Q q => ?_
    obtain ⟨c, m, w, S, Ow, Oc, O, x, k⟩ := q
    have hn0 : at_ i rw_ ≠ .un := fun z => by rw [z] at h0; cases h0
    have hn1 : at_ i rw1 ≠ .un := fun z => by rw [z] at h1; cases h1
    obtain ⟨Oi, _, se0⟩ := SatL.get i x.es hn0
    obtain ⟨l, vs0, e1, e2⟩ := ol_list h0 se0
    refine ⟨.ref l, join_some e1, .inl ⟨rfl, vs0, SqL.of e2⟩, ?_⟩
    refine stepM (fun H S O o => PostM M C.T.K C.p σ H S Ow O (put i (.o2 t) rw1) (.sh .non) (fun cls d H' => Wx cls d σ H') Q o) x k (fun b w' z => z) (fun _ z => z) fun y w1 v1 H1 S1 O1 P1 st1 hw1 es1 sa k1 => ?_
    obtain ⟨b, us, rfl, hv1, b3, b4⟩ := sa
    cases hv1
    rw [run_opt] at k1
    obtain ⟨Oa, Ob, Oc', q1, q2, q3⟩ := es1.chg i hn1 (by exact hk)
    have q2' := satE_cast h1 q2
    obtain ⟨l', bs, a1, a2, a3, a4⟩ := q2'
    rw [e1] at a2
    cases a2
    have rlen : ∀ {xs : List (List PV)} {bs : List Addr}, Rows C.T.K S1 H1 xs bs → bs.length = xs.length := fun {xs} => by
      induction xs with
      | nil => intro bs h; cases h; rfl
      | cons x xs ih => intro bs h; obtain ⟨b, r, vs, rfl, _, _, h⟩ := h; simp [ih h]
    have hlen := rlen a4
    rw [List.length_map] at hlen
    unfold appO at k1
    by_cases hz : (cast (congrArg SE.T h1) (ST.get i rw1 y.1) : List (List t.A)).length < sizeLine
    · rw [if_pos hz] at k1
      dsimp only at k1
      rw [Eff.run_pure] at k1
      have hl : l ∈ O1 ++ [b] := by rw [q1, a1]; simp
      have hlb : l ≠ b := fun z => by
        have := st1.n1
        rw [z] at a1
        rw [q1, a1] at this
        exact (List.nodup_append.mp this).2.2 b (by simp) b (by simp) rfl
      refine ⟨l, bs.map V.ref, .ref b, rfl, rfl, a3, by rw [List.length_map, hlen]; exact hz, ?_⟩
      have hnd : (Oa ++ ((l :: bs) ++ Oc') ++ [b]).Nodup := by rw [← a1, ← q1]; exact st1.n1
      have hdl : ∀ a ∈ Oa ++ Oc', a ≠ l := fun a ha z => by
        subst z
        have hnd2 := (List.nodup_append.mp hnd).1
        obtain ⟨n1, n2, n3⟩ := List.nodup_append.mp hnd2
        rcases List.mem_append.mp ha with h | h
        · exact n3 a h a (by simp) rfl
        · exact (List.nodup_cons.mp n2).1 (by simp [h])
      have hlbs : l ∉ bs := fun z => by
        have hnd2 := (List.nodup_append.mp hnd).1
        obtain ⟨n1, n2, n3⟩ := List.nodup_append.mp hnd2
        exact (List.nodup_cons.mp n2).1 (by simp [z])
      have hperm : (Oa ++ (((l :: bs) ++ [b]) ++ Oc')).Perm (O1 ++ [b]) := by
        rw [q1, a1, List.append_assoc, List.append_assoc, List.append_assoc]
        exact List.Perm.append_left _ (List.Perm.append_left _ List.perm_append_comm)
      have stP : SSt H S Ow O (Oa ++ (((l :: bs) ++ [b]) ++ Oc')) H1 S1 := ⟨st1.ext, st1.fr, st1.th, st1.new, st1.sub, fun a ha => st1.o1 a (hperm.mem_iff.mp ha), hperm.symm.nodup st1.n1⟩
      refine k1 .non _ S1 (Oa ++ (((l :: bs) ++ [b]) ++ Oc')) [] (by rw [List.append_nil]; exact stP.mut (by simp)) ?_ ?_ ⟨rfl, _, rfl, rfl⟩
      · refine Eff.ws_mono hw1 fun d hd => upd_ne fun z => ?_
        subst z
        rcases (st1.o1 d hl).1 with h | h
        · obtain ⟨o, eo⟩ := Eff.ws_there x.ws d hd; rw [h] at eo; cases eo
        · exact (List.nodup_append.mp x.nd).2.2 d hd d (by simp [h]) rfl
      · refine q3 (.o2 t) _ ((l :: bs) ++ [b]) S1 (upd H1 l (.lst (bs.map V.ref ++ [.ref b]))) ?_ (fun _ _ h => h) (fun a ha => upd_ne (hdl a ha))
        refine ⟨l, bs ++ [b], rfl, e1, by rw [upd_same, List.map_append]; rfl, ?_⟩
        have happ : ∀ {xs : List (List PV)} {bs : List Addr}, Rows C.T.K S1 H1 xs bs → l ∉ bs → ∀ {x : List PV}, RepL C.T.K S1 x us → Rows C.T.K S1 (upd H1 l (.lst (bs.map V.ref ++ [.ref b]))) xs bs := fun {xs bs} h hn _ _ => Rows.mono (fun _ _ h => h) h fun a ha => upd_ne fun z => hn (z ▸ ha)
        have happ2 : ∀ {H2 : Hp} {xs : List (List PV)} {bs : List Addr}, Rows C.T.K S1 H2 xs bs → H2 b = some (.lst us) → ∀ {x : List PV}, RepL C.T.K S1 x us → Rows C.T.K S1 H2 (xs ++ [x]) (bs ++ [b]) := fun {H2 xs} => by
          induction xs with
          | nil => intro bs h hb x hx; cases h; exact ⟨b, [], us, rfl, hb, hx, rfl⟩
          | cons y ys ih =>
            intro bs h hb x hx
            obtain ⟨b', r, vs, rfl, h2, h3, h4⟩ := h
            exact ⟨b', r ++ [b], vs, rfl, h2, h3, ih h4 hb hx⟩
        rw [List.map_append]
        exact happ2 (happ a4 hlbs b4) (by rw [upd_ne (Ne.symm hlb)]; exact b3) b4
    · rw [if_neg hz] at k1; exact k1.elim
/-! ### statements -/
variable {o : OZ rw' r}
/-- e, its value dropped -/
def SJ.expr {e : Expr} {pos : Pos} {sts : List Stmt} {u : SE} (a : EM M C ro rw_ e rw1 u) (rest : SJ M C ro rw1 sts o) (hs : ∀ env, swapsWith e none pos.line env = pure false := by intro _; rfl) : SJ M C ro rw_ (.Expr e pos :: sts) o where
  den c m := a.den c m >>= fun y => rest.den c y.1
  ok X Wx g tk := by
    refine PSs.imp (pss_cons (ps_expr (a.ok X Wx g tk) (hs _)) (rest.ok X Wx g tk)) fun D σ H q => ?_
    obtain ⟨c, m, w, S, Ow, Oc, O, x, k⟩ := q
    refine stepM (fun H S O oo => PostS M C.T.K C.p ro σ H S Ow O rw' r Wx D (mapO o.vw oo)) x k (fun b w' z cls d H' S' st hw er => z cls d σ H' S' [] st hw er (fun _ _ => rfl) rfl) (fun _ z => z) fun y w1 v1 H1 S1 O1 P1 st1 hw1 es1 sa k1 => ?_
    have st2 : SSt H S Ow O O1 H1 S1 := ⟨st1.ext, st1.fr, st1.th, st1.new, st1.sub, fun a ha => st1.o1 a (by simp [ha]), (List.nodup_append.mp st1.n1).1⟩
    exact ⟨c, y.1, w1, S1, Ow, Oc, O1, x.after st2 hw1 es1 (fun _ _ => rfl) rfl, k1.pre st2 (fun _ _ => rfl) rfl⟩
/-- x = e -/
def SJ.setM (i : Nat) {x : Str} {e : Expr} {t : SE} {pos pos' : Pos} {sts : List Stmt} (a : EM M C ro rw_ e rw1 t) (rest : SJ M C ro (put i t rw1) sts o) (hN : C.N[i]? = some x := by rfl) (hl : Loc C.sc x := by first | exact Or.inl rfl | exact Or.inr rfl)
    (hf : C.fb x = true ∨ C.sc.names.lookup x = some .local := by first | exact Or.inl rfl | exact Or.inr rfl) (hs : ∀ env, swapsWith e (some (.Name x pos')) pos.line env = pure false := by intro _; rfl)
    (hk : (rw1.map (·.1)).Nodup := by first | decide | exact of_decide_eq_true rfl) (hi : i < C.N.length := by first | decide | exact of_decide_eq_true rfl) (hr : i ∉ ro.map (·.1) := by first | decide | exact of_decide_eq_true rfl) (hp : i ≠ C.p := by first | decide | exact of_decide_eq_true rfl) : SJ M C ro rw_ (.Assign [.Name x pos'] e pos :: sts) o where
  den c m := a.den c m >>= fun y => rest.den c (ST.put i t y.2 rw1 y.1)
  ok X Wx g tk := by
    refine PSs.imp (pss_cons (ps_set (by rw [g.n]; exact g.nd) (g.name hN) (g.loc hl) (a.ok X Wx g tk) (hs _) (hf.elim (fun h => .inl (g.fn _ h)) fun h => .inr (by rw [g.sc]; exact h))) (rest.ok X Wx g tk)) fun D σ H q => ?_
    obtain ⟨c, m, w, S, Ow, Oc, O, x, k⟩ := q
    refine stepM (fun H S O oo => PostS M C.T.K C.p ro σ H S Ow O rw' r Wx D (mapO o.vw oo)) x k (fun b w' z cls d H' S' st hw er => z cls d σ H' S' [] st hw er (fun _ _ => rfl) rfl) (fun _ z => z) fun y w1 v1 H1 S1 O1 P1 st1 hw1 es1 sa k1 => ?_
    have hlen : i < σ.length := by rw [x.len]; exact hi
    obtain ⟨O', q1, q2, q3⟩ := es1.put sa hk hlen
    have st2 : SSt H S Ow O O' H1 S1 := ⟨st1.ext, st1.fr, st1.th, st1.new, st1.sub, fun a ha => st1.o1 a (List.mem_append.mpr (q2 a ha)), q3 st1.n1⟩
    have hs2 : ∀ j, j = C.p ∨ j ∈ ro.map (·.1) → (σ.set i (some v1))[j]? = σ[j]? := fun j hj => set_other fun z => by
      subst z
      rcases hj with h | h
      · exact hp h
      · exact hr h
    have hw2 : Eff.ws w1 (σ[C.p]?.join) H1 Ow := hw1
    exact ⟨c, _, w1, S1, Ow, Oc, O', x.after st2 hw2 q1 hs2 (List.length_set ..), k1.pre st2 hs2 (List.length_set ..)⟩
def SJ.retM {e : Expr} {pos : Pos} {rwa : Ctx} (a : EM M C ro rw_ e rw1 r) : SJ M C ro rw_ [.Return (some e) pos] (OZ.r rwa r) where
  den c m := a.den c m >>= fun y => pure y.2
  ok X Wx g tk := by
    refine PSs.imp (pss_one (ps_ret (a.ok X Wx g tk))) fun D σ H q => ?_
    obtain ⟨c, m, w, S, Ow, Oc, O, x, k⟩ := q
    refine stepM (fun H S O oo => PostS M C.T.K C.p ro σ H S Ow O rwa r Wx D (mapO FL.rt oo)) x k (fun b w' z cls d H' S' st hw er => z cls d σ H' S' [] st hw er (fun _ _ => rfl) rfl) (fun _ z => z) fun y w1 v1 H1 S1 O1 P1 st1 hw1 es1 sa k1 => ?_
    rw [Eff.run_pure] at k1
    exact k1 v1 H1 S1 P1 ⟨st1.ext, st1.fr, st1.th, st1.new, st1.sub, fun a ha => st1.o1 a (by simp [ha]), (List.nodup_append.mp st1.n1).2.1⟩ hw1 sa
end
end Tp

set_option Elab.async false
set_option linter.all false
set_option maxRecDepth 100000
set_option maxHeartbeats 4000000
/-! Tp21: several values at once. -/
namespace Tp
open PySem PySem.Spec L2
open PyProof.Rows hiding St

@[reducible] def VT : List SE → Type
  | [] => Unit
  | e :: r => e.T × VT r
def SatV (K : PySem.W.Frag) (S H : Hp) : (rs : List SE) → VT rs → List V → List Addr → Prop
  | [], _, vs, O => vs = [] ∧ O = []
  | e :: r, x, vs, O => ∃ v us O1 O2, vs = v :: us ∧ O = O1 ++ O2 ∧ SatE K S H e x.1 (some v) O1 ∧ SatV K S H r x.2 us O2
theorem SatV.len {K : PySem.W.Frag} {S H : Hp} : ∀ {rs : List SE} {x : VT rs} {vs : List V} {O : List Addr}, SatV K S H rs x vs O → vs.length = rs.length
  | [], _, _, _, h => by rw [h.1]; rfl
  | e :: r, x, vs, O, h => by obtain ⟨v, us, O1, O2, rfl, _, _, h⟩ := h; simp [SatV.len h]
theorem SatV.mono {K : PySem.W.Frag} {S S' H H' : Hp} (e : Ext S S') : ∀ {rs : List SE} {x : VT rs} {vs : List V} {O : List Addr}, SatV K S H rs x vs O → (∀ a ∈ O, H' a = H a) → SatV K S' H' rs x vs O
  | [], _, _, _, h, _ => h
  | c :: r, x, vs, O, h, k => by
    obtain ⟨v, us, O1, O2, e1, e2, e3, e4⟩ := h
    subst e2
    exact ⟨v, us, O1, O2, e1, rfl, e3.mono e fun a ha => k a (by simp [ha]), e4.mono e fun a ha => k a (by simp [ha])⟩
theorem SatV.there {K : PySem.W.Frag} {S H : Hp} : ∀ {rs : List SE} {x : VT rs} {vs : List V} {O : List Addr}, SatV K S H rs x vs O → ∀ a ∈ O, ∃ o, H a = some o
  | [], _, _, _, h, a, ha => by rw [h.2] at ha; cases ha
  | c :: r, x, vs, O, h, a, ha => by
    obtain ⟨v, us, O1, O2, e1, e2, e3, e4⟩ := h
    subst e2
    rcases List.mem_append.mp ha with ha | ha
    · exact e3.there a ha
    · exact e4.there a ha
theorem ESt.drop {H S H' S' : Hp} {Ow O1 : List Addr} (a : ESt H S Ow O1 H' S') : ESt H S Ow [] H' S' :=
  ⟨a.ext, a.fr, a.th, a.new, a.sub, fun _ h => (nomatch h), .nil⟩
section
variable (M : Type → Type) [Eff M]
def PostV (K : PySem.W.Frag) (p : Nat) (σ : St) (H S : Hp) (Ow : List Addr) (rs : List SE) (Wx : Value → Option Addr → Hp → Prop) (Q : List V → Hp → Prop) : R (VT rs) × Eff.W M → Prop
  | (.ok x, w') => ∀ vs H' S' O1, ESt H S Ow O1 H' S' → Eff.ws (M := M) w' (σ[p]?.join) H' Ow → SatV K S' H' rs x vs O1 → Q vs H'
  | (.er x, w') => ∀ cls d H' S', ESt H S Ow [] H' S' → Eff.ws (M := M) w' (σ[p]?.join) H' Ow → ErrR K S' x cls d → Wx cls d H'
  | (.bad, _) => False
structure VJ (C : Cf) (G : Ctx) (es : List Expr) (rs : List SE) where
  den : ST G → M (VT rs)
  ok : ∀ X Wx, XG C X → Takes X Wx → PA X es fun σ H Q => ∃ s w S Ow O, Sat M C.T.K C.p G s w σ H S Ow O ∧ PostV M C.T.K C.p σ H S Ow rs (fun cls d H' => Wx cls d σ H') Q (Eff.run (den s) w)
end
section
variable {M : Type → Type} [Eff M] {C : Cf} {G : Ctx}
def VJ.nil : VJ M C G [] [] where
  den _ := pure ()
  ok X Wx g tk := by
    refine PA.imp pa_nil fun σ H Q q => ?_
    obtain ⟨s, w, S, Ow, O, x, k⟩ := q
    rw [Eff.run_pure] at k
    exact k [] H S [] (ESt.refl x.sub) x.ws ⟨rfl, rfl⟩
def VJ.cons {e : Expr} {es : List Expr} {r : SE} {rs : List SE} (a : EJ M C G e r) (b : VJ M C G es rs) (hs : ∀ env, starEach (e :: es) env = (false, eval e env) :: starEach es env := by intro _; rfl) : VJ M C G (e :: es) (r :: rs) where
  den s := a.den s >>= fun x => b.den s >>= fun y => pure (x, y)
  ok X Wx g tk := by
    refine PA.imp (pa_cons (a.ok X Wx g tk) (b.ok X Wx g tk) (hs _)) fun σ H Q q => ?_
    obtain ⟨s, w, S, Ow, O, x, k⟩ := q
    refine ⟨s, w, S, Ow, O, x, ?_⟩
    cases e1 : Eff.run (a.den s) w with
    | mk o w1 =>
      cases o with
      | er z => rw [run_er _ e1] at k; exact k
      | bad => rw [run_bad' _ e1] at k; exact k
      | ok y =>
        rw [run_ok _ e1] at k
        intro v H1 S1 O1 st1 hw1 se1
        refine ⟨s, w1, S1, Ow, O, x.after st1 hw1, ?_⟩
        cases e2 : Eff.run (b.den s) w1 with
        | mk o w2 =>
          cases o with
          | er z =>
            rw [run_er _ e2] at k
            exact fun cls d H2 S2 st2 hw2 er2 => k cls d H2 S2 (st1.drop.trans st2) hw2 er2
          | bad => rw [run_bad' _ e2] at k; exact k
          | ok z =>
            rw [run_ok _ e2, Eff.run_pure] at k
            intro vs H2 S2 O2 st2 hw2 sv
            have hth := se1.there
            refine k (v :: vs) H2 S2 (O1 ++ O2) (st1.trans2 st2 hth) hw2 ⟨v, vs, O1, O2, rfl, rfl, se1.mono st2.ext fun a ha => ?_, sv⟩
            obtain ⟨o, eo⟩ := hth a ha
            rw [eo]
            refine st2.fr a o (fun hb => ?_) eo
            obtain ⟨o', eo'⟩ := Eff.ws_there x.ws a hb
            rw [(st1.o1 a ha).1] at eo'; cases eo'
def VJ.consP {e : Expr} {es : List Expr} {t : TY} {rs : List SE} (a : EP M C G e t) (b : VJ M C G es rs) (hs : ∀ env, starEach (e :: es) env = (false, eval e env) :: starEach es env := by intro _; rfl) : VJ M C G (e :: es) (.sh t :: rs) := VJ.cons a.toEJ b hs

/-! ### several names -/
def gNames : List Nat → TGs
  | [] => gNil
  | i :: r => gCons (gName i) (gNames r)
def setAll : List Nat → List V → St → St
  | i :: r, v :: vs, σ => setAll r vs (σ.set i (some v))
  | _, _, σ => σ
theorem gNames_of {is : List Nat} : ∀ {vs : List V} {σ : St} {H : Hp} {Q : St → Hp → Prop}, vs.length = is.length → Q (setAll is vs σ) H → gNames is vs σ H Q := by
  induction is with
  | nil =>
    intro vs σ H Q hl q
    cases vs with
    | nil => exact ⟨rfl, q⟩
    | cons v vs => cases hl
  | cons i r ih =>
    intro vs σ H Q hl q
    cases vs with
    | nil => cases hl
    | cons v vs => exact ⟨v, vs, rfl, ih (by simpa using hl) q⟩
/-- names as targets, at these slots -/
structure TN (C : Cf) (ts : List Expr) (is : List Nat) : Prop where
  ok : ∀ X, SG C X → PGs X ts (gNames is)
theorem TN.nil : TN C [] [] := ⟨fun X g => pgs_nil⟩
theorem TN.cons {x : Str} {p : Pos} {ts : List Expr} {i : Nat} {is : List Nat} (b : TN C ts is) (hN : C.N[i]? = some x := by rfl) (hl : Loc C.sc x := by first | exact Or.inl rfl | exact Or.inr rfl) (hf : C.fb x = true ∨ C.sc.names.lookup x = some .local := by first | exact Or.inl rfl | exact Or.inr rfl)
    (hs : ∀ env, (assignEach (.Name x p :: ts) env).map (·.2) = assign (.Name x p) env :: (assignEach ts env).map (·.2) := by intro _; rfl) : TN C (.Name x p :: ts) (i :: is) :=
  ⟨fun X g => pgs_cons (pg_name (by rw [g.n]; exact g.nd) (g.name hN) (show Loc X.env.scope x by rw [g.sc]; exact hl) (hf.elim (fun h => .inl (g.fn _ h)) fun h => .inr (by rw [g.sc]; exact h))) (b.ok X g) (hs _)⟩
@[reducible] def putV : List Nat → List SE → Ctx → Ctx
  | i :: is, e :: rs, G => putV is rs (put i e G)
  | _, _, G => G
def ST.putV : (is : List Nat) → (rs : List SE) → VT rs → (G : Ctx) → ST G → ST (Tp.putV is rs G)
  | i :: is, e :: rs, x, G, s => ST.putV is rs x.2 (Tp.put i e G) (ST.put i e x.1 G s)
  | [], _, _, _, s => s
  | _ :: _, [], _, _, s => s
theorem put_nodup {i : Nat} {e : SE} : ∀ {G : Ctx}, (G.map (·.1)).Nodup → ((put i e G).map (·.1)).Nodup
  | [], _ => by simp
  | (j, f) :: r, h => by
    show (List.map _ (bif Nat.beq i j then _ else _)).Nodup
    rw [List.map_cons, List.nodup_cons] at h
    cases hb : Nat.beq i j with
    | true =>
      have : i = j := Nat.eq_of_beq_eq_true hb
      subst this
      exact List.nodup_cons.mpr h
    | false =>
      have hne : i ≠ j := fun q => by subst q; rw [Nat.beq_refl] at hb; cases hb
      refine List.nodup_cons.mpr ⟨fun hm => ?_, put_nodup h.2⟩
      have key : ∀ {G : Ctx}, j ∈ (put i e G).map (·.1) → j = i ∨ j ∈ G.map (·.1) := fun {G} => by
        induction G with
        | nil => intro hm; left; simpa using hm
        | cons q G ih =>
          obtain ⟨k, f'⟩ := q
          intro hm
          have hm' : j ∈ List.map (·.1) (bif Nat.beq i k then (i, e) :: G else (k, f') :: put i e G) := hm
          cases hb2 : Nat.beq i k with
          | true =>
            rw [hb2] at hm'
            rcases List.mem_cons.mp (show j ∈ i :: G.map (·.1) from hm') with h | h
            · exact .inl h
            · exact .inr (List.mem_cons_of_mem _ h)
          | false =>
            rw [hb2] at hm'
            rcases List.mem_cons.mp (show j ∈ k :: (put i e G).map (·.1) from hm') with h | h
            · exact .inr (by rw [h]; exact List.mem_cons_self)
            · rcases ih h with h | h
              · exact .inl h
              · exact .inr (List.mem_cons_of_mem _ h)
      rcases key hm with h' | h'
      · exact hne h'.symm
      · exact h.1 h'
theorem setAll_len : ∀ {is : List Nat} {vs : List V} {σ : St}, (setAll is vs σ).length = σ.length
  | [], _, _ => by unfold setAll; rfl
  | i :: is, [], _ => by unfold setAll; rfl
  | i :: is, v :: vs, σ => by
    unfold setAll
    rw [setAll_len, List.length_set]
theorem setAll_out {j : Nat} : ∀ {is : List Nat} {vs : List V} {σ : St}, j ∉ is → (setAll is vs σ)[j]? = σ[j]?
  | [], _, _, _ => by unfold setAll; rfl
  | i :: is, [], _, _ => by unfold setAll; rfl
  | i :: is, v :: vs, σ, h => by
    unfold setAll
    rw [List.mem_cons, not_or] at h
    rw [setAll_out h.2, set_other h.1]
theorem SatL.putV {K : PySem.W.Frag} {S H : Hp} : ∀ {is : List Nat} {rs : List SE} {x : VT rs} {vs : List V} {O1 : List Addr} {G : Ctx} {s : ST G} {σ : St} {O : List Addr}, SatV K S H rs x vs O1 → SatL K S H G s σ O → (G.map (·.1)).Nodup → (∀ i ∈ is, i < σ.length) → is.length = rs.length → (O ++ O1).Nodup →
    ∃ O', SatL K S H (Tp.putV is rs G) (ST.putV is rs x G s) (setAll is vs σ) O' ∧ (∀ a ∈ O', a ∈ O ∨ a ∈ O1) ∧ O'.Nodup
  | [], [], x, vs, O1, G, s, σ, O, sv, h, nd, hi, hl, ho => by
    refine ⟨O, ?_, fun a ha => .inl ha, (List.nodup_append.mp ho).1⟩
    show SatL K S H G s (setAll [] vs σ) O
    unfold setAll
    exact h
  | i :: is, e :: rs, x, vs, O1, G, s, σ, O, sv, h, nd, hi, hl, ho => by
    obtain ⟨v, us, P1, P2, rfl, rfl, se, sv2⟩ := sv
    obtain ⟨O', q1, q2, q3⟩ := h.put se nd (hi i (by simp))
    rw [← List.append_assoc] at ho
    obtain ⟨n1, n2, n3⟩ := List.nodup_append.mp ho
    have nO := q3 n1
    obtain ⟨O'', r1, r2, r3⟩ := SatL.putV (is := is) sv2 q1 (put_nodup nd) (fun j hj => by rw [List.length_set]; exact hi j (by simp [hj])) (by simpa using hl) (List.nodup_append.mpr ⟨nO, n2, fun a ha b hb e => n3 a (List.mem_append.mpr (q2 a ha)) b hb e⟩)
    refine ⟨O'', by unfold setAll; exact r1, fun a ha => ?_, r3⟩
    rcases r2 a ha with h | h
    · rcases q2 a h with h | h
      · exact .inl h
      · exact .inr (by simp [h])
    · exact .inr (by simp [h])
  | [], _ :: _, _, _, _, _, _, _, _, _, _, _, _, hl, _ => by cases hl
  | _ :: _, [], _, _, _, _, _, _, _, _, _, _, _, hl, _ => by cases hl

variable {ro rw_ rw' : Ctx} {r : SE} {o : OZ rw' r}
/-- a, b, .. = x, y, ..: the tuple is made and taken apart -/
def SJ.tupT {ts es : List Expr} {is : List Nat} {rs : List SE} {kt k2 : Nat} {pt p2 pos : Pos} {sts : List Stmt} (tn : TN C ts is) (a : VJ M C (rw_ ++ ro) es rs) (rest : SJ M C ro (putV is rs rw_) sts o)
    (hw : ∀ env : Env, env.scope = C.sc → swappedStores [.Tuple ts kt pt] (.Tuple es k2 p2) env = pure none) (hl : is.length = rs.length := by rfl) (hn : ∀ env, (assignEach ts env).length = is.length := by intro _; rfl) (hst : ∀ env, (assignEach ts env).findIdx? (·.1) = none := by intro _; rfl)
    (h1 : ∀ env, (assignEach [.Tuple ts kt pt] env).map (·.2) = [assign (.Tuple ts kt pt) env] := by intro _; rfl) (hs : ∀ env, swapsWithSole [.Tuple ts kt pt] (.Tuple es k2 p2) pos.line env = pure false := by intro _; rfl) (hz : rs.length ≤ 1000 := by first | decide | exact of_decide_eq_true rfl)
    (hk : (rw_.map (·.1)).Nodup := by first | decide | exact of_decide_eq_true rfl) (hi : ∀ i ∈ is, i < C.N.length := by first | decide | exact of_decide_eq_true rfl) (hr : ∀ i ∈ is, i ∉ ro.map (·.1) := by first | decide | exact of_decide_eq_true rfl) (hp : C.p ∉ is := by first | decide | exact of_decide_eq_true rfl) : SJ M C ro rw_ (.Assign [.Tuple ts kt pt] (.Tuple es k2 p2) pos :: sts) o where
  den c m := a.den (ST.app rw_ ro m c) >>= fun v => rest.den c (ST.putV is rs v rw_ m)
  ok X Wx g tk := by
    have hg := pg_tup (k := kt) (pos := pt) g.calm (tn.ok X g) (hn X.env) (hst X.env)
    refine PSs.imp (pss_cons (ps_asg (pe_tup (a.ok X Wx g.toXG tk)) hg (hs _) (hw _ g.sc) (h1 _)) (rest.ok X Wx g tk)) fun D σ H q => ?_
    obtain ⟨c, m, w, S, Ow, Oc, O, x, k⟩ := q
    refine ⟨_, w, S, Ow, _, x.sat, ?_⟩
    cases e1 : Eff.run (a.den (ST.app rw_ ro m c)) w with
    | mk oo w1 =>
      cases oo with
      | er z => rw [run_er _ e1] at k; exact fun cls d H2 S2 st2 hw2 er2 => k cls d σ H2 S2 O (x.sstE st2) hw2 er2 (fun _ _ => rfl) rfl
      | bad => rw [run_bad' _ e1] at k; exact k
      | ok y =>
        rw [run_ok _ e1] at k
        intro vs H1 S1 O1 st1 hw1 sv
        have hvl := sv.len
        refine ⟨by rw [sizeLine_eq]; omega, fun l hln => ?_⟩
        rw [g.K]
        refine ⟨l, vs, rfl, .inl (.inl upd_same), hvl.trans hl.symm, gNames_of (hvl.trans hl.symm) ?_⟩
        -- the tuple is forgotten
        have hlne : ∀ a o, H1 a = some o → a ≠ l := fun a o e z => by subst z; rw [hln] at e; cases e
        have st2 : ESt H S Ow O1 (upd H1 l (.tup vs)) S1 := ⟨st1.ext, fun a o h e => by rw [upd_ne (hlne _ _ (st1.fr a o h e))]; exact st1.fr a o h e, fun a o e => by
          obtain ⟨o', e'⟩ := st1.th a o e
          exact ⟨o', by rw [upd_ne (hlne _ _ e')]; exact e'⟩, st1.new, fun a o e => by rw [upd_ne (hlne _ _ (st1.sub a o e))]; exact st1.sub a o e, st1.o1, st1.n1⟩
        have hw2 : Eff.ws (M := M) w1 (σ[C.p]?.join) (upd H1 l (.tup vs)) Ow := ws_new hw1 hln
        have sv2 : SatV C.T.K S1 (upd H1 l (.tup vs)) rs y vs O1 := sv.mono (fun _ _ h => h) fun a ha => by
          obtain ⟨o, eo⟩ := sv.there a ha
          exact upd_ne (hlne _ _ eo)
        have nd : (O ++ O1).Nodup := List.nodup_append.mpr ⟨(List.nodup_append.mp (List.nodup_append.mp x.nd).2.1).2.1, st1.n1, fun a ha b hb e => by
          subst e
          exact x.fresh st1 a hb (by simp [ha])⟩
        obtain ⟨O', q1, q2, q3⟩ := (x.es' st2).putV sv2 hk (fun i h => by rw [x.len]; exact hi i h) hl nd
        have st3 : SSt H S Ow O O' (upd H1 l (.tup vs)) S1 := st2.toS (fun a ha => x.est st2 a (by simp [ha])) q2 q3
        have hs2 : ∀ j, j = C.p ∨ j ∈ ro.map (·.1) → (setAll is vs σ)[j]? = σ[j]? := fun j hj => setAll_out fun z => by
          rcases hj with h | h
          · subst h; exact hp z
          · exact hr j z h
        exact ⟨c, _, w1, S1, Ow, Oc, O', x.after st3 hw2 q1 hs2 setAll_len, k.pre st3 hs2 setAll_len⟩
/-- two plain names: stored from the right -/
def SJ.par2 {x y : Str} {e1 e2 : Expr} {i j : Nat} {r1 r2 : SE} {kt k2 : Nat} {pt p2 pos px py : Pos} {sts : List Stmt} (a : VJ M C (rw_ ++ ro) [e1, e2] [r1, r2]) (rest : SJ M C ro (putV [i, j] [r1, r2] rw_) sts o)
    (hw : ∀ env : Env, env.scope = C.sc → swappedStores [.Tuple [.Name x px, .Name y py] kt pt] (.Tuple [e1, e2] k2 p2) env = pure (some [x, y])) (hN : C.N[i]? = some x := by rfl) (hN2 : C.N[j]? = some y := by rfl) (hl : C.sc.names.lookup x = some .local := by rfl) (hl2 : C.sc.names.lookup y = some .local := by rfl) (hij : i ≠ j := by first | decide | exact of_decide_eq_true rfl)
    (hs : ∀ env, swapsWithSole [.Tuple [.Name x px, .Name y py] kt pt] (.Tuple [e1, e2] k2 p2) pos.line env = pure false := by intro _; rfl)
    (hk : (rw_.map (·.1)).Nodup := by first | decide | exact of_decide_eq_true rfl) (hi : ∀ l ∈ [i, j], l < C.N.length := by first | decide | exact of_decide_eq_true rfl) (hr : ∀ l ∈ [i, j], l ∉ ro.map (·.1) := by first | decide | exact of_decide_eq_true rfl) (hp : C.p ∉ [i, j] := by first | decide | exact of_decide_eq_true rfl) : SJ M C ro rw_ (.Assign [.Tuple [.Name x px, .Name y py] kt pt] (.Tuple [e1, e2] k2 p2) pos :: sts) o where
  den c m := a.den (ST.app rw_ ro m c) >>= fun v => rest.den c (ST.putV [i, j] [r1, r2] v rw_ m)
  ok X Wx g tk := by
    refine PSs.imp (pss_cons (ps_par g.calm (by rw [g.n]; exact g.nd) (g.name hN) (g.name hN2) hij (by rw [g.sc]; exact hl) (by rw [g.sc]; exact hl2) (a.ok X Wx g.toXG tk) (hw _ g.sc) (hs _)) (rest.ok X Wx g tk)) fun D σ H q => ?_
    obtain ⟨c, m, w, S, Ow, Oc, O, x, k⟩ := q
    refine ⟨_, w, S, Ow, _, x.sat, ?_⟩
    cases e1 : Eff.run (a.den (ST.app rw_ ro m c)) w with
    | mk oo w1 =>
      cases oo with
      | er z => rw [run_er _ e1] at k; exact fun cls d H2 S2 st2 hw2 er2 => k cls d σ H2 S2 O (x.sstE st2) hw2 er2 (fun _ _ => rfl) rfl
      | bad => rw [run_bad' _ e1] at k; exact k
      | ok y =>
        rw [run_ok _ e1] at k
        intro vs H1 S1 O1 st1 hw1 sv
        have nd : (O ++ O1).Nodup := List.nodup_append.mpr ⟨(List.nodup_append.mp (List.nodup_append.mp x.nd).2.1).2.1, st1.n1, fun a ha b hb e => by
          subst e
          exact x.fresh st1 a hb (by simp [ha])⟩
        obtain ⟨O', q1, q2, q3⟩ := (x.es' st1).putV sv hk (fun i h => by rw [x.len]; exact hi i h) rfl nd
        have st3 : SSt H S Ow O O' H1 S1 := st1.toS (fun a ha => x.est st1 a (by simp [ha])) q2 q3
        have hs2 : ∀ l, l = C.p ∨ l ∈ ro.map (·.1) → (setAll [i, j] vs σ)[l]? = σ[l]? := fun l hj => setAll_out fun z => by
          rcases hj with h | h
          · subst h; exact hp z
          · exact hr l z h
        obtain ⟨v1, us, P1, P2, rfl, rfl, se1, v2, us2, P3, P4, rfl, rfl, se2, rfl, rfl⟩ := sv
        have hle : (setAll [i, j] [v1, v2] σ).length = σ.length := setAll_len
        exact ⟨v1, v2, rfl, c, _, w1, S1, Ow, Oc, O', x.after st3 hw1 q1 hs2 hle, k.pre st3 hs2 hle⟩
def SJ.par3 {x y z : Str} {e1 e2 e3 : Expr} {i j l : Nat} {r1 r2 r3 : SE} {kt k2 : Nat} {pt p2 pos px py pz : Pos} {sts : List Stmt} (a : VJ M C (rw_ ++ ro) [e1, e2, e3] [r1, r2, r3]) (rest : SJ M C ro (putV [i, j, l] [r1, r2, r3] rw_) sts o)
    (hw : ∀ env : Env, env.scope = C.sc → swappedStores [.Tuple [.Name x px, .Name y py, .Name z pz] kt pt] (.Tuple [e1, e2, e3] k2 p2) env = pure (some [x, y, z])) (hN : C.N[i]? = some x := by rfl) (hN2 : C.N[j]? = some y := by rfl) (hN3 : C.N[l]? = some z := by rfl) (hl : C.sc.names.lookup x = some .local := by rfl) (hl2 : C.sc.names.lookup y = some .local := by rfl) (hl3 : C.sc.names.lookup z = some .local := by rfl)
    (hij : i ≠ j := by first | decide | exact of_decide_eq_true rfl) (hil : i ≠ l := by first | decide | exact of_decide_eq_true rfl) (hjl : j ≠ l := by first | decide | exact of_decide_eq_true rfl) (hs : ∀ env, swapsWithSole [.Tuple [.Name x px, .Name y py, .Name z pz] kt pt] (.Tuple [e1, e2, e3] k2 p2) pos.line env = pure false := by intro _; rfl)
    (hk : (rw_.map (·.1)).Nodup := by first | decide | exact of_decide_eq_true rfl) (hi : ∀ n ∈ [i, j, l], n < C.N.length := by first | decide | exact of_decide_eq_true rfl) (hr : ∀ n ∈ [i, j, l], n ∉ ro.map (·.1) := by first | decide | exact of_decide_eq_true rfl) (hp : C.p ∉ [i, j, l] := by first | decide | exact of_decide_eq_true rfl) : SJ M C ro rw_ (.Assign [.Tuple [.Name x px, .Name y py, .Name z pz] kt pt] (.Tuple [e1, e2, e3] k2 p2) pos :: sts) o where
  den c m := a.den (ST.app rw_ ro m c) >>= fun v => rest.den c (ST.putV [i, j, l] [r1, r2, r3] v rw_ m)
  ok X Wx g tk := by
    refine PSs.imp (pss_cons (ps_par3 g.calm (by rw [g.n]; exact g.nd) (g.name hN) (g.name hN2) (g.name hN3) hij hil hjl (by rw [g.sc]; exact hl) (by rw [g.sc]; exact hl2) (by rw [g.sc]; exact hl3) (a.ok X Wx g.toXG tk) (hw _ g.sc) (hs _)) (rest.ok X Wx g tk)) fun D σ H q => ?_
    obtain ⟨c, m, w, S, Ow, Oc, O, x, k⟩ := q
    refine ⟨_, w, S, Ow, _, x.sat, ?_⟩
    cases e1 : Eff.run (a.den (ST.app rw_ ro m c)) w with
    | mk oo w1 =>
      cases oo with
      | er z => rw [run_er _ e1] at k; exact fun cls d H2 S2 st2 hw2 er2 => k cls d σ H2 S2 O (x.sstE st2) hw2 er2 (fun _ _ => rfl) rfl
      | bad => rw [run_bad' _ e1] at k; exact k
      | ok y =>
        rw [run_ok _ e1] at k
        intro vs H1 S1 O1 st1 hw1 sv
        have nd : (O ++ O1).Nodup := List.nodup_append.mpr ⟨(List.nodup_append.mp (List.nodup_append.mp x.nd).2.1).2.1, st1.n1, fun a ha b hb e => by
          subst e
          exact x.fresh st1 a hb (by simp [ha])⟩
        obtain ⟨O', q1, q2, q3⟩ := (x.es' st1).putV sv hk (fun i h => by rw [x.len]; exact hi i h) rfl nd
        have st3 : SSt H S Ow O O' H1 S1 := st1.toS (fun a ha => x.est st1 a (by simp [ha])) q2 q3
        have hs2 : ∀ n, n = C.p ∨ n ∈ ro.map (·.1) → (setAll [i, j, l] vs σ)[n]? = σ[n]? := fun n hj => setAll_out fun z => by
          rcases hj with h | h
          · subst h; exact hp z
          · exact hr n z h
        obtain ⟨v1, us, P1, P2, rfl, rfl, se1, v2, us2, P3, P4, rfl, rfl, se2, v3, us3, P5, P6, rfl, rfl, se3, rfl, rfl⟩ := sv
        have hle : (setAll [i, j, l] [v1, v2, v3] σ).length = σ.length := setAll_len
        exact ⟨v1, v2, v3, rfl, c, _, w1, S1, Ow, Oc, O', x.after st3 hw1 q1 hs2 hle, k.pre st3 hs2 hle⟩
end
end Tp

set_option Elab.async false
set_option linter.all false
set_option maxRecDepth 100000
set_option maxHeartbeats 4000000
/-! Tp22: a tuple taken apart; contexts in another order, with less; cells given up. -/
namespace Tp
open PySem PySem.Spec L2
open PyProof.Rows hiding St

theorem drp_out {l : List Nat} : ∀ {G : Ctx} {i : Nat}, i ∈ (drp l G).map (·.1) → i ∉ l
  | [], _, h => by cases h
  | (j, e) :: r, i, h => by
    unfold drp at h
    cases hb : l.elem j with
    | true => rw [hb] at h; exact drp_out h
    | false =>
      rw [hb] at h
      rcases List.mem_cons.mp (show i ∈ j :: (drp l r).map (·.1) from h) with q | q
      · rw [q]
        intro z
        rw [List.elem_eq_true_of_mem z] at hb
        cases hb
      · exact drp_out q
/-- these slots, in this order -/
@[reducible] def pickS : List Nat → Ctx → Ctx
  | [], _ => []
  | i :: l, G => (i, at_ i G) :: pickS l (del i G)
def ST.pickS : (l : List Nat) → (G : Ctx) → ST G → ST (Tp.pickS l G)
  | [], _, _ => ()
  | i :: l, G, s => (ST.get i G s, ST.pickS l (Tp.del i G) (ST.del i G s))
section
variable {K : PySem.W.Frag} {S H : Hp}
theorem SatL.take1 (i : Nat) : ∀ {G : Ctx} {s : ST G} {σ : St} {O : List Addr}, SatL K S H G s σ O → at_ i G ≠ .un → ∃ Oi O', O.Perm (Oi ++ O') ∧ SatE K S H (at_ i G) (ST.get i G s) (σ[i]?.join) Oi ∧ SatL K S H (Tp.del i G) (ST.del i G s) σ O'
  | [], _, _, _, _, n => absurd rfl n
  | (j, e) :: r, s, σ, O, h, n => by
    obtain ⟨P1, P2, e1, e2, e3⟩ := h
    subst e1
    have key : ∀ b : Bool, Nat.beq i j = b → (bif b then e else at_ i r) ≠ .un → ∃ Oi O', (P1 ++ P2).Perm (Oi ++ O') ∧ SatE K S H (bif b then e else at_ i r) (match b with
        | true => s.1
        | false => ST.get i r s.2) (σ[i]?.join) Oi ∧ SatL K S H (bif b then r else (j, e) :: Tp.del i r) (match b with
        | true => s.2
        | false => (s.1, ST.del i r s.2)) σ O' := fun b hb n => by
      cases b with
      | true =>
        have : i = j := Nat.eq_of_beq_eq_true hb
        subst this
        exact ⟨P1, P2, List.Perm.refl _, e2, e3⟩
      | false =>
        obtain ⟨Oi, O', q1, q2, q3⟩ := SatL.take1 i e3 n
        refine ⟨Oi, P1 ++ O', ?_, q2, P1, O', rfl, e2, q3⟩
        refine (List.Perm.append_left P1 q1).trans ?_
        rw [← List.append_assoc, ← List.append_assoc]
        exact List.Perm.append_right _ List.perm_append_comm
    exact key _ rfl n
def hasAll : List Nat → Ctx → Bool
  | [], _ => true
  | i :: l, G => (match at_ i G with | .un => false | _ => true) && hasAll l (del i G)
theorem SatL.pickS : ∀ (l : List Nat) {G : Ctx} {s : ST G} {σ : St} {O : List Addr}, SatL K S H G s σ O → hasAll l G = true → ∃ O1 O2, O.Perm (O1 ++ O2) ∧ SatL K S H (Tp.pickS l G) (ST.pickS l G s) σ O1
  | [], _, _, _, O, _, _ => ⟨[], O, by simp, rfl⟩
  | i :: l, G, s, σ, O, h, ha => by
    rw [hasAll, Bool.and_eq_true] at ha
    have hn : at_ i G ≠ .un := fun z => by rw [z] at ha; exact absurd ha.1 Bool.false_ne_true
    obtain ⟨Oi, O', q1, q2, q3⟩ := h.take1 i hn
    obtain ⟨O1, O2, r1, r2⟩ := SatL.pickS l q3 ha.2
    refine ⟨Oi ++ O1, O2, ?_, Oi, O1, rfl, q2, r2⟩
    rw [List.append_assoc]
    exact q1.trans (List.Perm.append_left _ r1)
end
section
variable {M : Type → Type} [Eff M] {C : Cf} {ro rw_ rw1 rw' : Ctx} {r : SE} {o : OZ rw' r}
/-- a block whose end keeps these slots alone -/
def SJ.keep {sts : List Stmt} (l : List Nat) (a : SJ M C ro rw_ sts (OZ.n rw1 r)) (h : hasAll l rw1 = true := by rfl) : SJ M C ro rw_ sts (OZ.n (pickS l rw1) r) :=
  a.conv (ST.pickS l rw1) fun K S H m σ O sub d nd es => by
    obtain ⟨O1, O2, q1, q2⟩ := es.pickS l h
    have nd2 := q1.nodup nd
    refine ⟨S, O1, fun _ _ h => h, fun a o e => .inl e, fun a ha => ?_, (List.nodup_append.mp nd2).1, q2⟩
    have : a ∈ O := q1.mem_iff.mpr (by simp [ha])
    exact ⟨this, d a this⟩
/-- the same of a block that may return -/
def SJ.keepB {sts : List Stmt} (l : List Nat) (a : SJ M C ro rw_ sts (OZ.b rw1 r)) (h : hasAll l rw1 = true := by rfl) : SJ M C ro rw_ sts (OZ.b (pickS l rw1) r) where
  den c m := a.den c m >>= fun fl => pure (FL.map (ST.pickS l rw1) fl)
  ok X Wx g tk := by
    refine PSs.imp (a.ok X Wx g tk) fun D σ H q => ?_
    obtain ⟨c, m, w, S, Ow, Oc, O, y, k⟩ := q
    refine ⟨c, m, w, S, Ow, Oc, O, y, ?_⟩
    cases e : Eff.run (a.den c m) w with
    | mk q w' =>
      cases q with
      | ok z =>
        rw [run_ok _ e, Eff.run_pure] at k
        cases z with
        | nx m1 =>
          intro σ' H' S' O' st hw es hs hl
          obtain ⟨O1, O2, q1, q2⟩ := es.pickS l h
          exact k σ' H' S' O1 ⟨st.ext, st.fr, st.th, st.new, st.sub, fun a ha => st.o1 a (q1.mem_iff.mpr (by simp [ha])), (List.nodup_append.mp (q1.nodup st.n1)).1⟩ hw q2 hs hl
        | rt v => exact k
      | er b => rw [run_er _ e] at k; exact k
      | bad => rw [run_bad' _ e] at k; exact k
/-- the rest needs less -/
def SJ.less {sts : List Stmt} (l : List Nat) (a : SJ M C ro (pickS l rw_) sts o) (h : hasAll l rw_ = true := by rfl) : SJ M C ro rw_ sts o where
  den c m := a.den c (ST.pickS l rw_ m)
  ok X Wx g tk := by
    refine PSs.imp (a.ok X Wx g tk) fun D σ H q => ?_
    obtain ⟨c, m, w, S, Ow, Oc, O, y, k⟩ := q
    obtain ⟨O1, O2, q1, q2⟩ := y.es.pickS l h
    have hs : ∀ a ∈ O1, a ∈ O := fun a ha => q1.mem_iff.mpr (by simp [ha])
    have nO : O1.Nodup := (List.nodup_append.mp (q1.nodup (List.nodup_append.mp (List.nodup_append.mp y.nd).2.1).2.1)).1
    have st : SSt H S Ow O O1 H S := (y.sstE (ESt.refl y.sub)).widen (fun a h => h) (fun a ha => .inr (hs a ha)) nO
    exact ⟨c, _, w, S, Ow, Oc, O1, y.after st y.ws q2 (fun _ _ => rfl) rfl, k.pre st (fun _ _ => rfl) rfl⟩
/-- a, b = e -/
def SJ.unp {tg e : Expr} {pos : Pos} {sts : List Stmt} {t : TY} {A : Ctx} {vs : List Nat} (T : TG1 C tg t vs A) (a : EJ M C (rw_ ++ ro) e (.sh t)) (rest : SJ M C ro (A ++ drp vs rw_) sts o)
    (hs : ∀ env, swapsWithSole [tg] e pos.line env = pure false := by intro _; rfl) (hw : ∀ env, swappedStores [tg] e env = pure none := by intro _; rfl) (h1 : ∀ env, (assignEach [tg] env).map (·.2) = [assign tg env] := by intro _; rfl)
    (hr : ∀ i ∈ vs, i ∉ ro.map (·.1) := by first | decide | exact of_decide_eq_true rfl) (hp : C.p ∉ vs := by first | decide | exact of_decide_eq_true rfl) : SJ M C ro rw_ (.Assign [tg] e pos :: sts) o where
  den c m := a.den (ST.app rw_ ro m c) >>= fun y => rest.den c (ST.app A (drp vs rw_) (T.f y) (ST.drp vs rw_ m))
  ok X Wx g tk := by
    refine PSs.imp (pss_cons (ps_asg (a.ok X Wx g.toXG tk) (T.ok X g.toXG) (hs _) (hw _) (h1 _)) (rest.ok X Wx g tk)) fun D σ H q => ?_
    obtain ⟨c, m, w, S, Ow, Oc, O, x, k⟩ := q
    refine stepS_E x k fun y w' v H' S' O1 st hw se k1 => ?_
    obtain ⟨e1, u, e2, rp⟩ := se
    cases e1; cases e2
    refine T.run v y S' σ H' _ st.sub rp x.len fun σ2 l2 o2 s2 => ?_
    have x1 := x.afterE st hw
    obtain ⟨P1, P2, q1, _, q3⟩ := x1.es.pick vs
    have hsub : ∀ a ∈ P2, a ∈ O := fun a ha => q1.mem_iff.mpr (by simp [ha])
    have nO : P2.Nodup := (List.nodup_append.mp (q1.nodup (List.nodup_append.mp (List.nodup_append.mp x.nd).2.1).2.1)).2.1
    have st2 : SSt H S Ow O P2 H' S' := (x.sstE st).widen (fun a h => h) (fun a ha => .inr (hsub a ha)) nO
    have hs2 : ∀ j, j = C.p ∨ j ∈ ro.map (·.1) → σ2[j]? = σ[j]? := fun j hj => o2 j fun z => by
      rcases hj with h | h
      · subst h; exact hp z
      · exact hr j z h
    have es : SatL C.T.K S' H' (A ++ drp vs rw_) (ST.app A (drp vs rw_) (T.f y) (ST.drp vs rw_ m)) σ2 P2 := SatL.app (O1 := []) (s2 H' S' fun _ _ h => h) (q3.slots fun i hi => by rw [o2 i (drp_out hi)])
    exact ⟨c, _, w', S', Ow, Oc, P2, x.after st2 hw es hs2 l2, k1.pre st2 hs2 l2⟩
/-- an owned list in a slot, from now on shared -/
theorem SatL.give {K : PySem.W.Frag} (l : List Nat) {G : Ctx} {s : ST G} {σ : St} {S H : Hp} {O : List Addr} (es : SatL K S H G s σ O) (d : ∀ a ∈ O, S a = none) (nd : O.Nodup) : ∃ Of Or, O.Perm (Of ++ Or) ∧ SatL K (own S H Of) H (frz l G) (ST.frz l G s) σ Or := by
  obtain ⟨Of, Or, q1, q2, _⟩ := es.fz l d nd
  exact ⟨Of, Or, q1, q2⟩
def SJ.give {sts : List Stmt} (l : List Nat) (a : SJ M C ro (frz l rw_) sts o) : SJ M C ro rw_ sts o where
  den c m := a.den c (ST.frz l rw_ m)
  ok X Wx g tk := by
    refine PSs.imp (a.ok X Wx g tk) fun D σ H q => ?_
    obtain ⟨c, m, w, S, Ow, Oc, O, y, k⟩ := q
    have nO : O.Nodup := (List.nodup_append.mp (List.nodup_append.mp y.nd).2.1).2.1
    have dO : ∀ a ∈ O, S a = none := fun a ha => y.dis a (by simp [ha])
    obtain ⟨Of, Or, q1, q2⟩ := y.es.give l dO nO
    have hm : ∀ a, a ∈ Of ++ Or ↔ a ∈ O := fun a => q1.symm.mem_iff
    obtain ⟨n1, n2, n3⟩ := List.nodup_append.mp (q1.nodup nO)
    have st : SSt H S Ow O Or H (own S H Of) := by
      refine ⟨own_ext fun a ha => dO a ((hm a).mp (by simp [ha])), fun a o _ _ e => e, fun a o e => ⟨o, e⟩, fun a o e => ?_, own_sub y.sub, fun a ha => ⟨.inr ((hm a).mp (by simp [ha])), ?_⟩, n2⟩
      · by_cases hb : a ∈ Of
        · exact .inr (.inr ((hm a).mp (by simp [hb])))
        · rw [own_out hb] at e; exact .inl e
      · rw [own_out fun h => n3 a h a ha rfl]
        exact dO a ((hm a).mp (by simp [ha]))
    exact ⟨c, _, w, _, Ow, Oc, Or, y.after st y.ws q2 (fun _ _ => rfl) rfl, k.pre st (fun _ _ => rfl) rfl⟩
end
end Tp

set_option Elab.async false
set_option linter.all false
set_option maxRecDepth 100000
set_option maxHeartbeats 4000000
/-! Tp23: own classes: fields, making, methods, properties. -/
namespace Tp
open PySem PySem.Spec L2
open PyProof.Rows hiding St

/-! ### rules for defs that are called while no repr runs -/
section
variable {X : Cx} {k : Nat} {f g C p : Addr} {fd : FuncData} {ps : List Str} {sp : Sp} {dvs : List V} {ds : List Value} {x m : Str} {pn pos apos : Pos} {e o : Expr} {es : List Expr} {ta : TE} {t : TA}
/-- C(..): a new instance and its dict, then __init__ -/
def tMakeG (C : Addr) (sp : Sp) (dvs : List V) (E : St → XK) (t : TA) : TE := fun σ H Q => t σ H fun vs H1 => ∀ x dx, H1 x = none → H1 dx = none → dx ≠ x →
  sp (.ref x :: (vs ++ dvs)) (upd (upd H1 dx (.own x)) x (.ins C dx [])) (fun v H2 => v = .non ∧ Q (.ref x) H2) (E σ)
theorem run_makeG {pins : List (Addr × Obj)} {σ : St} {H : Hp} {s : Shared} {Q : VK} {E : St → XK} {us : List Value} {vs : List V} (M : Mk X.K C f) (F : FnG X.prog X.w X.K X.mg X.base k f fd ps sp) (hr : RG (k + 1) X.A) (hb : Binds X.K fd ps ds) (hd : Vals dvs ds)
    (hx : PassG X E) (I : Inv X pins σ H s) (r : Vals vs us)
    (h : ∀ x dx, H x = none → H dx = none → dx ≠ x → sp (.ref x :: (vs ++ dvs)) (upd (upd H dx (.own x)) x (.ins C dx [])) (fun v H2 => v = .non ∧ Q (.ref x) H2) (E σ)) :
    wpAny (model X.prog X.w) X.A (call (.ref C) us) (L2.EP X pins σ Q) X.xe s := by
  have hq := h (s.heap.objs.size + 1) s.heap.objs.size (I.hok.fresh (Nat.le_succ _)) (I.hok.fresh (Nat.le_refl _)) (Nat.ne_of_lt (Nat.lt_succ_self _))
  have I2 := Inv.made (C := C) I
  have r2 : Vals (V.ref (s.heap.objs.size + 1) :: (vs ++ dvs)) (Value.ref (s.heap.objs.size + 1) :: (us ++ ds)) := .cons rfl (r.append hd)
  have hl : (Value.ref (s.heap.objs.size + 1) :: us ++ ds).length = ps.length := by
    have e := r2.length
    rw [F.len _ _ _ _ hq] at e
    exact e.symm
  refine wpAny_call (make_map (f := f) I.kIn M.makes M.init (beq_iff_eq.mp M.fn) (codeAny_mono (F.run _ X.stack _ _ ⟨Value.ref (s.heap.objs.size + 1) :: us, []⟩ (Value.ref (s.heap.objs.size + 1) :: (us ++ ds)) _ _ (E σ) (hr.make C us [])
    (I2.env0.make C us []) (hb _ (Value.ref (s.heap.objs.size + 1) :: us) I2.kIn hl) r2 hq) fun r s' hq' => ?_))
  cases r with
  | error e => exact hx pins σ _ _ e s' I2 hq'
  | ok fl =>
    cases fl with
    | ret u =>
      obtain ⟨v, H', I3, rv, ev, q3⟩ := I2.after hq'
      subst ev
      exact ⟨rv, ⟨V.ref (s.heap.objs.size + 1), H', I3, rfl, q3⟩⟩
    | next => exact False.elim hq'
    | brk => exact False.elim hq'
    | cont => exact False.elim hq'
theorem pe_makeG {E : St → XK} (M : Mk X.K C f) (F : FnG X.prog X.w X.K X.mg X.base k f fd ps sp) (hr : RG (k + 1) X.A) (hg : Gl X x) (hm : X.mg x = some (.ref C)) (hb : Binds X.K fd ps ds) (hd : Vals dvs ds) (hx : PassG X E)
    (ha : PA X (e :: es) t) (hdb : (x == ("__debug__" : Str)) = false) (he : starEach (e :: es) X.env = (false, eval e X.env) :: starEach es X.env) (hpl : (backTo pos (starEach es X.env)).any (·.1) = false) :
    PE X (.Call (.Name x pn) (e :: es) [] pos) (tMakeG C sp dvs E t) :=
  ⟨fun pins s σ H Q I h => wpAny_Call_Name_kw (ld_glob I hg hm (PySem.W.callWith_K (h₀ := X.base) I.ok.mod.kin M.kp (thn (ha.run pos pins s σ H _ I h) fun us s1 ⟨vs, H1, I1, r, q⟩ =>
    ⟨I1.kIn, run_makeG M F hr hb hd hx I1 r q⟩) he hpl) hdb)⟩
/-- o.m(..) -/
def tMethG (C : Addr) (m : Str) (sp : Sp) (dvs : List V) (E : St → XK) (ta : TE) (t : TA) : TE := fun σ H Q => ta σ H fun x H1 => ∃ a dx fs, x = .ref a ∧ H1 a = some (.ins C dx fs) ∧ fs.lookup m = none ∧
  t σ H1 fun vs H2 => sp (x :: (vs ++ dvs)) H2 Q (E σ)
theorem pe_methG {pl : Sem Bool} {E : St → XK} (he : PE X o ta) (c : Cls X.K C) (hm : Meth X.K C m f) (F : FnG X.prog X.w X.K X.mg X.base k f fd ps sp) (hr : RG k X.A) (hb : Binds X.K fd ps ds) (hd : Vals dvs ds) (hx : PassG X E) (ha : PA X (e :: es) t)
    (hst : starEach (e :: es) X.env = (false, eval e X.env) :: starEach es X.env) (hpl : (backTo pos (starEach es X.env)).any (·.1) = false)
    (ht : eval (.Call (.Attribute o m apos) (e :: es) [] pos) X.env = (do
      let ov ← eval o X.env
      standAt apos.atName
      let (f, first) ← holding [ov] (getMethod ov m pl)
      callWith pos f first (backTo pos (starEach (e :: es) X.env)) (backToKw pos (keywordEach [] X.env)))) :
    PE X (.Call (.Attribute o m apos) (e :: es) [] pos) (tMethG C m sp dvs E ta t) := by
  refine ⟨fun pins s σ H Q I h => ?_⟩
  refine PySem.W.methodCall_KW (pl := pl) (thn (he.run pins s σ H _ I h) fun u s1 ⟨x, H1, I1, rx, a, dx, fs, ex, ea, l, q⟩ => ?_) ht
  subst ex
  obtain rfl : u = Value.ref a := rx
  refine getmeth_ok I1 ea c hm l ?_
  refine PySem.W.callWith_K (first := [.ref a]) (h₀ := X.base) I.ok.mod.kin hm.kp (thn (ha.run pos pins s1 σ H1 _ I1 q) fun us s2 ⟨vs, H2, I2, r, q2⟩ => ⟨I2.kIn, ?_⟩) hst hpl
  exact run_G (args := ⟨.ref a :: us, []⟩) (us := .ref a :: us ++ ds) (vs := .ref a :: vs ++ dvs) F hr hx I2 (hb s2 (.ref a :: us) I2.kIn) (.cons rfl (r.append hd)) q2
theorem pe_methG0 {pl : Sem Bool} {E : St → XK} (he : PE X o ta) (c : Cls X.K C) (hm : Meth X.K C m f) (F : FnG X.prog X.w X.K X.mg X.base k f fd ps sp) (hr : RG k X.A) (hb : Binds X.K fd ps ds) (hd : Vals dvs ds) (hx : PassG X E)
    (ht : eval (.Call (.Attribute o m apos) [] [] pos) X.env = (do
      let ov ← eval o X.env
      standAt apos.atName
      let (f, first) ← holding [ov] (getMethod ov m pl)
      callWith pos f first (backTo pos (starEach [] X.env)) (backToKw pos (keywordEach [] X.env)))) :
    PE X (.Call (.Attribute o m apos) [] [] pos) (tMethG C m sp dvs E ta tNil) := by
  refine ⟨fun pins s σ H Q I h => ?_⟩
  refine PySem.W.methodCall_KW (pl := pl) (thn (he.run pins s σ H _ I h) fun u s1 ⟨x, H1, I1, rx, a, dx, fs, ex, ea, l, q⟩ => ?_) ht
  subst ex
  obtain rfl : u = Value.ref a := rx
  refine getmeth_ok I1 ea c hm l ?_
  exact PySem.W.callWith_K0 (first := [.ref a]) I1.kIn hm.kp (run_G (args := ⟨[.ref a], []⟩) (us := .ref a :: ds) (vs := .ref a :: dvs) F hr hx I1 (hb s1 [.ref a] I1.kIn) (.cons rfl hd) q)
/-- e.f, a property -/
theorem pe_propG {E : St → XK} (he : PE X e ta) (c : Cls X.K C) (hp : PropOf X.K C m p g) (F : FnG X.prog X.w X.K X.mg X.base k g fd ps sp) (hr : RG (k + 1) X.A) (hb : Binds X.K fd ps ds) (hd : Vals dvs ds) (hx : PassG X.nox E)
    (hab : attributeBase e m X.env (eval e X.env) = eval e X.env) : PE X (.Attribute e m pos) (fun σ H Q => ta σ H fun x H1 => ∃ a dx fs, x = .ref a ∧ H1 a = some (.ins C dx fs) ∧ sp (.ref a :: dvs) H1 Q (E σ)) := by
  refine ⟨fun pins s σ H Q I h => ?_⟩
  refine attr_of hab (thn (he.run pins s σ H _ I h) fun u s1 ⟨x, H1, I1, rx, a, dx, fs, ex, ea, q⟩ => ?_)
  subst ex
  obtain rfl : u = Value.ref a := rx
  obtain ⟨mA, O, _, _, _, _⟩ := ins_get I1.hok ea
  obtain ⟨od, J, _⟩ := O.look
  obtain ⟨rest, hrec⟩ := hp.rec_
  have I2 := I1.tok (s1.toks + 1)
  have hc : (PySem.W.clsIn X.K C).isSome = true := by
    obtain ⟨cd, hc, _⟩ := PySem.W.any_some c.hd
    rw [hc]
    rfl
  have hl : ([Value.ref a] ++ ds).length = ps.length := by
    rw [← F.len _ _ _ _ q]
    show ds.length + 1 = dvs.length + 1
    rw [hd.length]
  refine PySem.W.get_bind I1.kIn J (PySem.W.plainGet_of (c.get m)).1 (PySem.W.findObj_data hc hp.at_ hp.get hp.tak) (PySem.W.plainGet_of (c.get m)).2 (wpAny_call (PySem.W.prop_get (s := { s1 with toks := s1.toks + 1 }) I1.kIn hrec ?_))
  refine codeAny_mono (F.run X.A.in1 X.stack { s1 with toks := s1.toks + 1 } H1 ⟨[.ref a], []⟩ (.ref a :: ds) (.ref a :: dvs) Q (E σ) hr.in1 I2.env0.in1 (hb _ [.ref a] I2.kIn hl) (.cons rfl hd) q) fun r s' hq => ?_
  cases r with
  | error er => exact False.elim (hx pins σ H1 { s1 with toks := s1.toks + 1 } er s' (I2.wish _) hq)
  | ok fl =>
    cases fl with
    | ret u =>
      obtain ⟨v, H', I3, rv, q3⟩ := I2.after hq
      show wpAny _ _ (handedOut u) _ _ _
      rw [PySem.W.handedOut_of (handed_of rv)]
      exact wpAny_pure ⟨v, H', I3, rv, q3⟩
    | next => exact False.elim hq
    | brk => exact False.elim hq
    | cont => exact False.elim hq
/-- o.f as a target -/
def gFld (K : PySem.W.Frag) (ta : TE) (f : Str) : TG := fun y σ H Q => ta σ H fun x H2 => ∃ a C dx fs, x = .ref a ∧ H2 a = some (.ins C dx fs) ∧ Cls K C ∧ NoAttr K C f ∧ fs.length < 1000 ∧ Q σ (upd H2 a (.ins C dx (putF f y fs)))
theorem wpAny_assign_Attribute {M : Model} {A : Around} {E : Value → Shared → Prop} {s : Shared} {env : Env} {o : Expr} {attr : Str} {pos' : Pos} {v : Value} {Q : Unit → Shared → Prop}
    (h : wpAny M A (eval o env) (fun ov s₂ => wpAny M A (setAttr ov attr v) Q E s₂) E s) : wpAny M A (assign (.Attribute o attr pos') env v) Q E s := fun Γ p hΓ => by
  simp only [assign_Attribute, Sem.wp_bind', Sem.wp_holding, Sem.wp_cmd_standAt, Sem.wp_release, Sem.wp_pure']
  exact Sem.wp_mono M Γ _ (fun ov p1 s₂ h₂ => h₂ Γ _ hΓ) (fun _ _ _ h' => h') _ _ (h Γ _ hΓ)
theorem pg_fld {pos' : Pos} (ha : PE X o ta) : PG X (.Attribute o m pos') (gFld X.K ta m) := by
  refine ⟨fun pins s σ H v u Q I rv h => ?_⟩
  refine wpAny_assign_Attribute (thn (ha.run pins s σ H _ I h) fun ov s2 ⟨x, H2, I2, rx, a, C, dx, fs, ex, ea, c, n, l, q2⟩ => ?_)
  subst ex
  obtain rfl : ov = Value.ref a := rx
  exact setattr_ok I2 ea c n l rv fun s3 I3 => ⟨σ, _, I3, q2⟩
end

/-! ### fields -/
def putP (f : Str) (v : PV) : List (Str × PV) → List (Str × PV)
  | [] => [(f, v)]
  | (g, x) :: r => if g = f then (g, v) :: r else (g, x) :: putP f v r
theorem RepF.put {K : PySem.W.Frag} {S : Hp} {f : Str} {x : PV} {v : V} (h : Rep K S x v) : ∀ {xs : List (Str × PV)} {gs : List (Str × V)}, RepF K S xs gs → RepF K S (putP f x xs) (putF f v gs)
  | [], _, e => by cases e; exact ⟨v, [], rfl, h, rfl⟩
  | (g, y) :: xs, gs, e => by
    obtain ⟨u, r, rfl, e2, e3⟩ := e
    unfold putP putF
    by_cases q : g = f
    · rw [if_pos q, if_pos q]; exact ⟨v, r, rfl, h, e3⟩
    · rw [if_neg q, if_neg q]; exact ⟨u, _, rfl, e2, RepF.put h e3⟩
theorem putP_len {f : Str} {v : PV} : ∀ {xs : List (Str × PV)}, (putP f v xs).length ≤ xs.length + 1
  | [] => Nat.le_refl _
  | (g, x) :: r => by
    unfold putP
    split
    · exact Nat.le_succ _
    · exact Nat.succ_le_succ putP_len
/-- a class's field is not hidden by the class -/
structure FldF (T : Wd) (c f : Str) : Prop where
  cl : Cls T.K (He.ga T.K c)
  no : NoAttr T.K (He.ga T.K c) f
theorem ft_len : ∀ (fs : List (Str × TY)) (x : FT fs), (FT.enc fs x).length = fs.length
  | [], _ => rfl
  | (_, _) :: r, x => by show (FT.enc r x.2).length + 1 = r.length + 1; rw [ft_len r x.2]

section
variable {M : Type → Type} [Eff M] {C : Cf} {G : Ctx} {ro rw_ rw' rw1 : Ctx} {r : SE} {o : OZ rw' r}
/-- e.f of a shared instance -/
def EP.fld {e : Expr} {c f : Str} {pos : Pos} {fs : List (Str × TY)} {t : TY} (x : EP M C G e (TY.ins c fs)) (F : FldF C.T c f) (g : FT fs → t.A) (h : ∀ y, (FT.enc fs y).lookup f = Option.some (t.enc (g y)) := by intro _; rfl) (hb : ∀ env, attributeBase e f env (eval e env) = eval e env := by intro _; rfl) : EP M C G (.Attribute e f pos) t where
  den s := g (x.den s)
  ok X gx := by
    refine PE.imp (pe_fld (x.ok X gx) (hb _)) fun σ H Q q => ?_
    obtain ⟨s, w, S, Ow, O, sat, k⟩ := q
    refine step_p sat fun v1 H1 S1 st1 sat1 rp1 => ?_
    obtain ⟨a, dx, gs, rfl, e2, e3⟩ := rp1
    obtain ⟨v, h1, h2⟩ := e3.look (h (x.den s))
    rw [gx.K]
    exact ⟨a, _, dx, gs, v, rfl, sat1.sub _ _ e2, F.cl, F.no, h1, k v H1 S1 st1 sat1.ws h2⟩
def EJ.fld {e : Expr} {c f : Str} {pos : Pos} {fs : List (Str × TY)} {t : TY} (x : EJ M C G e (.sh (TY.ins c fs))) (F : FldF C.T c f) (g : FT fs → t.A) (h : ∀ y, (FT.enc fs y).lookup f = Option.some (t.enc (g y)) := by intro _; rfl) (hb : ∀ env, attributeBase e f env (eval e env) = eval e env := by intro _; rfl) : EJ M C G (.Attribute e f pos) (.sh t) where
  den s := x.den s >>= fun y => pure (g y)
  ok X Wx gx tk := by
    refine PE.imp (pe_fld (x.ok X Wx gx tk) (hb _)) fun σ H Q q => ?_
    obtain ⟨s, w, S, Ow, O, sat, k⟩ := q
    refine step_E sat k fun i w1 v1 H1 S1 st1 sat1 rp1 k1 => ?_
    rw [Eff.run_pure] at k1
    obtain ⟨a, dx, gs, rfl, e2, e3⟩ := rp1
    obtain ⟨v, h1, h2⟩ := e3.look (h i)
    rw [gx.K]
    exact ⟨a, _, dx, gs, v, rfl, sat1.sub _ _ e2, F.cl, F.no, h1, k1 v H1 S1 [] (ESt.refl sat1.sub) sat1.ws ⟨rfl, v, rfl, h2⟩⟩
/-- self.f of an owned instance in a slot -/
def EP.fldO (i : Nat) {x c f : Str} {p pos : Pos} {fs : List (Str × TY)} {t : TY} (F : FldF C.T c f) (g : FT fs → t.A) (h0 : at_ i G = .oi c fs := by rfl) (h : ∀ y, (FT.enc fs y).lookup f = Option.some (t.enc (g y)) := by intro _; rfl) (hN : C.N[i]? = some x := by rfl) (hv : Vis C.sc x := by first | exact Or.inl rfl | exact Or.inr (Or.inl rfl) | exact Or.inr (Or.inr rfl))
    (hd : (x == ("__debug__" : Str)) = false := by first | decide | exact of_decide_eq_true rfl) (hcd : (x == ("__classdict__" : Str)) = false := by first | decide | exact of_decide_eq_true rfl) (hb : ∀ env, attributeBase (.Name x p) f env (eval (.Name x p) env) = eval (.Name x p) env := by intro _; rfl) : EP M C G (.Attribute (.Name x p) f pos) t where
  den s := g (cast (congrArg SE.T h0) (ST.get i G s))
  ok X gx := by
    refine PE.imp (pe_fld (pe_var (gx.name hN) (gx.vis hv) hd hcd) (hb _)) fun σ H Q q => ?_
    obtain ⟨s, w, S, Ow, O, sat, k⟩ := q
    have hn : at_ i G ≠ .un := by rw [h0]; exact fun z => by cases z
    obtain ⟨Oi, _, se⟩ := SatL.get i sat.es hn
    obtain ⟨a, dx, gs, e1, e2, e3, e4⟩ := satE_cast h0 se
    obtain ⟨v, h1, h2⟩ := e4.look (h _)
    rw [gx.K]
    exact ⟨.ref a, join_some e2, a, _, dx, gs, v, rfl, e3, F.cl, F.no, h1, k v H S (ESt.refl sat.sub) sat.ws h2⟩
/-- self.f = e -/
def SJ.setF (i : Nat) {x c f : Str} {p pos' pos : Pos} {fs fs' : List (Str × TY)} {t : TY} {e : Expr} {sts : List Stmt} (a : EJ M C (rw_ ++ ro) e (.sh t)) (F : FldF C.T c f) (u : FT fs → t.A → FT fs') (rest : SJ M C ro (put i (.oi c fs') rw_) sts o) (h0 : at_ i rw_ = .oi c fs := by rfl) (h : ∀ y z, FT.enc fs' (u y z) = putP f (t.enc z) (FT.enc fs y) := by intro _ _; rfl)
    (hN : C.N[i]? = some x := by rfl) (hv : Vis C.sc x := by first | exact Or.inl rfl | exact Or.inr (Or.inl rfl) | exact Or.inr (Or.inr rfl)) (hd : (x == ("__debug__" : Str)) = false := by first | decide | exact of_decide_eq_true rfl) (hcd : (x == ("__classdict__" : Str)) = false := by first | decide | exact of_decide_eq_true rfl)
    (hs : ∀ env, swapsWith e (some (.Attribute (.Name x p) f pos')) pos.line env = pure false := by intro _; rfl) (hl : fs.length < 1000 := by first | decide | exact of_decide_eq_true rfl) (hk : (rw_.map (·.1)).Nodup := by first | decide | exact of_decide_eq_true rfl) : SJ M C ro rw_ (.Assign [.Attribute (.Name x p) f pos'] e pos :: sts) o where
  den c m := a.den (ST.app rw_ ro m c) >>= fun v => rest.den c (ST.put i (.oi _ fs') (u (cast (congrArg SE.T h0) (ST.get i rw_ m)) v) rw_ m)
  ok X Wx g tk := by
    refine PSs.imp (pss_cons (ps_fld (pe_var (g.name hN) (g.toXG.vis hv) hd hcd) (a.ok X Wx g.toXG tk) (hs _)) (rest.ok X Wx g tk)) fun D σ H q => ?_
    obtain ⟨cc, m, w, S, Ow, Oc, O, x, k⟩ := q
    refine stepS_E x k fun y w' v H' S' O1 st hw se k1 => ?_
    obtain ⟨e1, vv, e2, rp⟩ := se
    cases e1; cases e2
    have hn : at_ i rw_ ≠ .un := by rw [h0]; exact fun z => by cases z
    have es := x.es' st
    obtain ⟨Oa, Oi, Ob, q1, q2, q3⟩ := es.chg i hn hk
    obtain ⟨l, dx, gs, a1, a2, a3, a4⟩ := satE_cast h0 q2
    have hl' : gs.length < 1000 := by rw [a4.len, ft_len]; exact hl
    have hlO : l ∈ O := by rw [q1, a1]; simp
    have nO : O.Nodup := (List.nodup_append.mp (List.nodup_append.mp x.nd).2.1).2.1
    have hdl : ∀ b ∈ Oa ++ Ob, b ≠ l := fun b hb z => by
      subst z
      rw [q1, a1] at nO
      obtain ⟨n1, n2, n3⟩ := List.nodup_append.mp nO
      rcases List.mem_append.mp hb with h | h
      · exact n3 b h b (by simp) rfl
      · exact (List.nodup_cons.mp n2).1 (by simpa using h)
    have es2 := q3 (.oi c fs') (u (cast (congrArg SE.T h0) (ST.get i rw_ m)) y) [l] S' (upd H' l (.ins (He.ga C.T.K c) dx (putF f v gs))) ⟨l, dx, _, rfl, a2, upd_same, by rw [h]; exact RepF.put rp a4⟩ (fun _ _ h => h) (fun b hb => upd_ne (hdl b hb))
    have eO : Oa ++ ([l] ++ Ob) = O := by rw [q1, a1]
    rw [eO] at es2
    have st2 : SSt H S Ow O O (upd H' l (.ins (He.ga C.T.K c) dx (putF f v gs))) S' := (x.sstE st).mut hlO
    have hw2 : Eff.ws w' (σ[C.p]?.join) (upd H' l (.ins (He.ga C.T.K c) dx (putF f v gs))) Ow := Eff.ws_mono hw fun b hb => upd_ne fun z => by
      subst z
      exact (List.nodup_append.mp x.nd).2.2 b hb b (by simp [hlO]) rfl
    rw [g.K]
    exact ⟨.ref l, join_some a2, l, _, dx, gs, rfl, a3, F.cl, F.no, hl', cc, _, w', S', Ow, Oc, O, x.after st2 hw2 es2 (fun _ _ => rfl) rfl, k1.pre st2 (fun _ _ => rfl) rfl⟩
end
end Tp

set_option Elab.async false
set_option linter.all false
set_option maxRecDepth 100000
set_option maxHeartbeats 4000000
/-! Tp24: instances made; methods; properties; keyword calls; calls with the world; what is never reached. -/
namespace Tp
open PySem PySem.Spec L2
open PyProof.Rows hiding St

/-! ### __init__ -/
def PostJ (K : PySem.W.Frag) (H S : Hp) (O : List Addr) (c : Str) (fs : List (Str × TY)) (a : Addr) (Wx : Value → Option Addr → Hp → Prop) (Q : Hp → Prop) : R (FT fs) → Prop
  | .ok x => ∀ H' S' dx gs, SSt H S [] O [a] H' S' → H' a = some (.ins (He.ga K c) dx gs) → RepF K S' (FT.enc fs x) gs → Q H'
  | .er x => ∀ cls d H' S', SSt H S [] O [] H' S' → ErrR K S' x cls d → Wx cls d H'
  | .bad => False
def spI (K : PySem.W.Frag) (n : Nat) (p : Nat) (G0 : Ctx) (c : Str) (fs : List (Str × TY)) (f : ST G0 → R (FT fs)) : Sp := fun vs H Q E =>
  vs.length = n ∧ ∃ (s : ST G0) (S : Hp) (O : List Addr) (a : Addr), Sat2 R K p n [] G0 () s () (vs.map some) H S [] [] O ∧ vs[0]? = some (.ref a) ∧ PostJ K H S O c fs a E (fun H' => Q .non H') (f s)
theorem init_ok {T : Wd} {x qual : Str} {params : Arguments} {body : List Stmt} {scope : Scope} {dvs : List V} {kws : List (Str × V)} {fa : Addr} {fd : FuncData} {N ps : List Str} {k : Nat} {rw_ rwE : Ctx} {c : Str} {fs : List (Str × TY)}
    (F : FunD T.K x qual params body scope dvs kws fa fd) (S : FnScope N ps scope) (b : SJ R ⟨T, N, scope, k, 0, fun _ => true⟩ [] rw_ body (OZ.n rwE (.sh .non))) (hE : at_ 0 rwE = .oi c fs) (hps : 0 < ps.length) :
    FnG T.P T.w T.K T.mg T.base (k + 1) fa fd ps (spI T.K ps.length 0 rw_ c fs (fun s => R.map (fun e => cast (congrArg SE.T hE) (ST.get 0 rwE e)) (b.den () s))) := by
  refine fnG_of F S (fun vs H Q E h => h.1) fun cdv A outer s H vs Q E hr h => ⟨_, b.ok _ (fun cls d _ H => E cls d H) (sg_of hr S.nd) (takes_of rfl rfl rfl rfl), ?_⟩
  obtain ⟨hl, m, Sh, O, a, x, ha, k⟩ := h
  have hpl : ps.length ≤ N.length := by have := congrArg List.length S.pre; rw [List.length_take] at this; omega
  refine ⟨(), m, (), Sh, [], [], O, ⟨x.sub, x.dis, x.nd, rfl, rfl, x.es.slots fun i _ => join_start _ _ _, ?_⟩, ?_⟩
  · unfold L2.start
    rw [List.length_append, List.length_map, List.length_replicate]
    show _ = N.length
    omega
  · show PostS R _ _ _ _ _ _ _ _ _ _ _ _ (R.map FL.nx (b.den () m), ())
    dsimp only at k
    cases e : b.den () m with
    | ok y =>
      rw [e] at k
      intro σ' H' S' O' st hw es hs _
      have hn : at_ 0 rwE ≠ .un := by rw [hE]; exact fun z => by cases z
      obtain ⟨Oi, hsub, se⟩ := SatL.get 0 es hn
      obtain ⟨a', dx, gs, e1, e2, e3, e4⟩ := satE_cast hE se
      have h0 : σ'[0]?.join = some (.ref a) := by
        rw [hs 0 (.inl rfl), join_start, List.getElem?_map, ha]; rfl
      rw [h0] at e2
      cases e2
      have hm : a ∈ O' := hsub a (by rw [e1]; simp)
      exact k H' S' dx gs ⟨st.ext, st.fr, st.th, st.new, st.sub, fun b hb => st.o1 b (by simp at hb; subst hb; exact hm), by simp⟩ e3 e4
    | er y =>
      rw [e] at k
      exact fun cls d σ' H' S' O' st hw er _ _ => k cls d H' S' ⟨st.ext, st.fr, st.th, st.new, st.sub, fun _ h => (nomatch h), .nil⟩ er
    | bad => rw [e] at k; exact k
/-- a class as its users see it: its __init__, called with n values, the defaults behind -/
structure Ini (T : Wd) (k : Nat) (c : Str) (ps : List Str) (n : Nat) (sp : Sp) : Prop where
  ex : ∃ fa fd ds dvs, T.mg c = some (.ref (He.ga T.K c)) ∧ Mk T.K (He.ga T.K c) fa ∧ FnG T.P T.w T.K T.mg T.base k fa fd ps sp ∧ Binds T.K fd ps ds ∧ Vals dvs ds ∧ n + dvs.length = ps.length
section
variable {M : Type → Type} [Eff M] {C : Cf} {G : Ctx}
theorem XG.mkk {X : Cx} (g : XG C X) {A f : Addr} (m : Mk C.T.K A f) : Mk X.K A f := by rw [g.K]; exact m
/-- two new cells, the second one's own -/
theorem ESt.new2 {H S : Hp} {Ow : List Addr} {x dx : Addr} {o1 o2 : HO} (sub : Sub S H) (hx : H x = none) (hd : H dx = none) (ne : dx ≠ x) : ESt H S Ow [x] (upd (upd H dx o1) x o2) S where
  ext := fun _ _ h => h
  fr := fun a o _ e => by rw [upd_ne (fun z => by subst z; rw [hx] at e; cases e), upd_ne (fun z => by subst z; rw [hd] at e; cases e)]; exact e
  th := fun a o e => ⟨o, by rw [upd_ne (fun z => by subst z; rw [hx] at e; cases e), upd_ne (fun z => by subst z; rw [hd] at e; cases e)]; exact e⟩
  new := fun _ _ h => .inl h
  sub := fun a o h => by
    have e := sub a o h
    rw [upd_ne (fun z => by subst z; rw [hx] at e; cases e), upd_ne (fun z => by subst z; rw [hd] at e; cases e)]; exact e
  o1 := fun a ha => by
    simp at ha; subst ha
    exact ⟨hx, none_sub sub hx⟩
  n1 := by simp
def EJ.make {c : Str} {k n : Nat} {ps : List Str} {e : Expr} {es : List Expr} {G0 : Ctx} {fs : List (Str × TY)} {p' : Nat} {f : ST ((0, .oi c []) :: G0) → R (FT fs)} {pos p : Pos} (F : Ini C.T k c ps n (spI C.T.K ps.length p' ((0, .oi c []) :: G0) c fs f)) (A : AJ M C G 1 (e :: es) G0) (hk : k + 1 ≤ C.k := by first | decide | exact of_decide_eq_true rfl) (hn : (e :: es).length + 1 = n := by rfl)
    (hg : C.sc.names.lookup c = some .globalImplicit := by rfl) (hd : (c == ("__debug__" : Str)) = false := by first | decide | exact of_decide_eq_true rfl)
    (he : ∀ env, starEach (e :: es) env = (false, eval e env) :: starEach es env := by intro _; rfl) (hpl : ∀ env, (backTo pos (starEach es env)).any (·.1) = false := by intro _; rfl) : EJ M C G (.Call (.Name c p) (e :: es) [] pos) (.oi c fs) where
  den s := A.den s >>= fun a => Eff.lift (A := FT fs) (f ((), a))
  ok X Wx g tk := by
    obtain ⟨fa, fd, ds, dvs, h1, h2, h3, h4, h5, h6⟩ := F.ex
    refine PE.imp (pe_makeG (g.mkk h2) (g.fnok h3) (g.room.mono hk) (g.gl hg) (by rw [g.mg]; exact h1) (by rw [g.K]; exact h4) h5 (passG tk) (A.ok X Wx g tk) hd (he _) (hpl _)) fun σ H Q q => ?_
    obtain ⟨s, w, S, Ow, O, x, k⟩ := q
    refine ⟨s, w, S, Ow, O, x, ?_⟩
    cases e2 : Eff.run (A.den s) w with
    | mk o w1 =>
      cases o with
      | er b => rw [run_er _ e2] at k; exact k
      | bad => rw [run_bad' _ e2] at k; exact k
      | ok a =>
        rw [run_ok _ e2, Eff.run_lift] at k
        intro vs H1 S1 st1 hw1 hl sl l dx hln hdn hne
        have sN := ESt.new2 (S := S1) (Ow := Ow) (o1 := .own l) (o2 := .ins (He.ga C.T.K c) dx []) st1.sub hln hdn hne
        have sN0 := ESt.new2 (S := S1) (Ow := []) (o1 := .own l) (o2 := .ins (He.ga C.T.K c) dx []) st1.sub hln hdn hne
        have hw2 : Eff.ws w1 (σ[C.p]?.join) (upd (upd H1 dx (.own l)) l (.ins (He.ga C.T.K c) dx [])) Ow := ws_new (ws_new hw1 hdn) (by rw [upd_ne (Ne.symm hne)]; exact hln)
        have hth : ∀ b ∈ [l], ∃ o, (upd (upd H1 dx (.own l)) l (.ins (He.ga C.T.K c) dx [])) b = some o := fun b hb => by simp at hb; subst hb; exact ⟨_, upd_same⟩
        have sat2 : Sat2 R C.T.K p' ps.length [] ((0, .oi c []) :: G0) () ((), a) () ((V.ref l :: (vs ++ dvs)).map some) (upd (upd H1 dx (.own l)) l (.ins (He.ga C.T.K c) dx [])) S1 [] [] [l] := by
          refine ⟨sN.sub, fun b hb => ?_, by simp, rfl, rfl, ⟨[l], [], rfl, ⟨l, dx, [], rfl, rfl, upd_same, rfl⟩, ?_⟩, ?_⟩
          · simp at hb; subst hb; exact (sN.o1 b (by simp)).2
          · refine (sl.mono (fun _ _ h => h) (fun b hb => by cases hb)).slots fun i hi => ?_
            have := A.ge i hi
            obtain ⟨j, rfl⟩ : ∃ j, i = j + 1 := ⟨i - 1, by omega⟩
            rw [List.getElem?_map, List.getElem?_append_right (by simp)]
            simp only [List.length_replicate, List.getElem?_cons_succ, Nat.add_sub_cancel]
            rw [List.getElem?_map]
            by_cases hj : j < vs.length
            · rw [List.getElem?_append_left hj]
            · exfalso
              have hle : j < vs.length := by have := A.lt _ hi; rw [hl]; omega
              exact hj hle
          · simp [hl]
            have := hn
            simp at this
            omega
        have wsm : ∀ {H' S' O1}, ESt (upd (upd H1 dx (.own l)) l (.ins (He.ga C.T.K c) dx [])) S1 [] O1 H' S' → Eff.ws w1 (σ[C.p]?.join) H' Ow := fun st => Eff.ws_mono hw2 fun b hb => by
          obtain ⟨ob, eo⟩ := Eff.ws_there hw2 b hb
          rw [eo]; exact st.fr b ob (by simp) eo
        refine ⟨by simp [h6.symm, hl, ← hn]; omega, ((), a), S1, [l], l, sat2, rfl, ?_⟩
        cases e3 : f ((), a) with
        | ok y =>
          rw [e3] at k
          intro H' S' dx' gs st3 e4 e5
          have toE : ESt H1 S1 Ow [l] H' S' := ⟨st3.ext, fun b o h e => st3.fr b o (by simp) (by simp; exact fun z => by subst z; rw [hln] at e; cases e) (sN.fr b o h e), fun b o e => by
            obtain ⟨o', e'⟩ := sN.th b o e
            exact st3.th b o' e', fun b o e => by
            rcases st3.new b o e with z | z | z
            · exact .inl z
            · exact .inr (none_of_th sN.th z)
            · simp at z; subst z; exact .inr hln, st3.sub, fun b hb => ⟨by simp at hb; subst hb; exact hln, (st3.o1 b hb).2⟩, by simp⟩
          have toE2 : ESt H S Ow [l] H' S' := st1.trans toE
          have hw3 : Eff.ws w1 (σ[C.p]?.join) H' Ow := Eff.ws_mono hw1 fun b hb => by
            obtain ⟨ob, eo⟩ := Eff.ws_there hw1 b hb
            rw [eo]
            exact st3.fr b ob (by simp) (by simp; exact fun z => by subst z; rw [hln] at eo; cases eo) (sN0.fr b ob (by simp) eo)
          exact ⟨rfl, k _ H' S' [l] toE2 hw3 ⟨l, dx', gs, rfl, rfl, e4, e5⟩⟩
        | er y =>
          rw [e3] at k
          intro cls d H' S' st3 er
          have toE : ESt H1 S1 Ow [] H' S' := ⟨st3.ext, fun b o h e => st3.fr b o (by simp) (by simp; exact fun z => by subst z; rw [hln] at e; cases e) (sN.fr b o h e), fun b o e => by
            obtain ⟨o', e'⟩ := sN.th b o e
            exact st3.th b o' e', fun b o e => by
            rcases st3.new b o e with z | z | z
            · exact .inl z
            · exact .inr (none_of_th sN.th z)
            · simp at z; subst z; exact .inr hln, st3.sub, fun _ h => (nomatch h), .nil⟩
          have hw3 : Eff.ws w1 (σ[C.p]?.join) H' Ow := Eff.ws_mono hw1 fun b hb => by
            obtain ⟨ob, eo⟩ := Eff.ws_there hw1 b hb
            rw [eo]
            exact st3.fr b ob (by simp) (by simp; exact fun z => by subst z; rw [hln] at eo; cases eo) (sN0.fr b ob (by simp) eo)
          exact k cls d H' S' (st1.trans toE) hw3 er
        | bad => rw [e3] at k; exact k
end
end Tp

set_option Elab.async false
set_option linter.all false
set_option maxRecDepth 100000
set_option maxHeartbeats 4000000
/-! Tp25: methods, properties, keyword calls, calls with the world, code never reached. -/
namespace Tp
open PySem PySem.Spec L2
open PyProof.Rows hiding St

section
variable {M : Type → Type} [Eff M] {C : Cf} {G : Ctx}
def EJ.shareI {e : Expr} {c : Str} {fs : List (Str × TY)} (a : EJ M C G e (.oi c fs)) : EJ M C G e (.sh (TY.ins c fs)) where
  den := a.den
  ok X Wx g tk := by
    refine PE.imp (a.ok X Wx g tk) fun σ H Q q => ?_
    obtain ⟨s, w, S, Ow, O, x, k⟩ := q
    refine ⟨s, w, S, Ow, O, x, ?_⟩
    cases e : Eff.run (a.den s) w with
    | mk o w' =>
      rw [e] at k
      cases o with
      | ok b =>
        intro v H' S' O1 st hw se
        obtain ⟨l, dx, gs, e1, e2, e3, e4⟩ := se
        subst e1; cases e2
        refine k _ H' _ [] st.share hw ⟨rfl, _, rfl, l, dx, gs, rfl, ?_, e4.mono (own_ext fun a ha => (st.o1 a ha).2)⟩
        rw [own_in (by simp)]
        exact e3
      | er b => exact k
      | bad => exact k
/-- an instance's fields said otherwise -/
def EJ.asI {e : Expr} {c : Str} {fs fs' : List (Str × TY)} (a : EJ M C G e (.oi c fs)) (f : FT fs → Option (FT fs')) (h : ∀ x y, f x = some y → FT.enc fs' y = FT.enc fs x) : EJ M C G e (.oi c fs') where
  den s := a.den s >>= fun x => optM (f x)
  ok X Wx g tk := by
    refine PE.imp (a.ok X Wx g tk) fun σ H Q q => ?_
    obtain ⟨s, w, S, Ow, O, x, k⟩ := q
    refine ⟨s, w, S, Ow, O, x, ?_⟩
    cases e : Eff.run (a.den s) w with
    | mk o w' =>
      cases o with
      | ok b =>
        rw [run_ok _ e, run_optM] at k
        cases ef : f b with
        | none => rw [ef] at k; exact k.elim
        | some y =>
          rw [ef] at k
          intro v H' S' O1 st hw se
          obtain ⟨l, dx, gs, e1, e2, e3, e4⟩ := se
          exact k v H' S' O1 st hw ⟨l, dx, gs, e1, e2, e3, by rw [h b y ef]; exact e4⟩
      | er b => rw [run_er _ e] at k; exact k
      | bad => rw [run_bad' _ e] at k; exact k

/-- the world's cells through a callee that knows none -/
theorem ws_thru {w : Eff.W M} {v : Option V} {H1 S1 H' S' : Hp} {Ow O1 : List Addr} (hw : Eff.ws w v H1 Ow) (st : ESt H1 S1 [] O1 H' S') : Eff.ws w v H' Ow := Eff.ws_mono hw fun b hb => by
  obtain ⟨ob, e⟩ := Eff.ws_there hw b hb
  rw [e]; exact st.fr b ob (by simp) e
/-- what a callee of no world gives back -/
theorem callee_end {K : PySem.W.Frag} {p p' : Nat} {σ σ' : St} {H S H1 S1 : Hp} {Ow : List Addr} {r : SE} {Wx : Value → Option Addr → Hp → Prop} {Q : VK} {w1 : Eff.W M} {o : R r.T} (st1 : ESt H S Ow [] H1 S1) (hw1 : Eff.ws w1 (σ[p]?.join) H1 Ow) (k : PostE M K p σ H S Ow r Wx Q (o, w1)) :
    PostE R K p' σ' H1 S1 [] r Wx Q (o, ()) := by
  cases o with
  | ok y => exact fun v H' S' O1 st hw se => k v H' S' O1 (st1.trans st.wide) (ws_thru hw1 st) se
  | er y => exact fun cls d H' S' st hw er => k cls d H' S' (st1.trans st.wide) (ws_thru hw1 st) er
  | bad => exact k

/-! ### methods and properties of shared instances -/
structure Mth (T : Wd) (k : Nat) (c m : Str) (ps : List Str) (sp : Sp) : Prop where
  ex : ∃ fa fd, Cls T.K (He.ga T.K c) ∧ Meth T.K (He.ga T.K c) m fa ∧ FnG T.P T.w T.K T.mg T.base k fa fd ps sp ∧ Binds T.K fd ps []
structure Prp (T : Wd) (k : Nat) (c m : Str) (ps : List Str) (sp : Sp) : Prop where
  ex : ∃ pa fa fd, Cls T.K (He.ga T.K c) ∧ PropOf T.K (He.ga T.K c) m pa fa ∧ FnG T.P T.w T.K T.mg T.base k fa fd ps sp ∧ Binds T.K fd ps []
def EJ.meth0 {e : Expr} {c m : Str} {k : Nat} {ps : List Str} {fs : List (Str × TY)} {r : SE} {p' : Nat} {f : ST [] → ST [(0, .sh (TY.ins c fs))] → R r.T} {pos apos : Pos} (x : EJ M C G e (.sh (TY.ins c fs))) (F : Mth C.T k c m ps (spF R C.T.K ps.length p' [] [(0, .sh (TY.ins c fs))] r f)) (hm : ∀ y : FT fs, (FT.enc fs y).lookup m = Option.none := by intro _; rfl)
    (hn : ps.length = 1 := by rfl) (hk : k ≤ C.k := by first | decide | exact of_decide_eq_true rfl) {pl : Env → Sem Bool}
    (ht : ∀ env, eval (.Call (.Attribute e m apos) [] [] pos) env = (do
      let ov ← eval e env
      standAt apos.atName
      let (f, first) ← holding [ov] (getMethod ov m (pl env))
      callWith pos f first (backTo pos (starEach [] env)) (backToKw pos (keywordEach [] env))) := by intro _; rfl) : EJ M C G (.Call (.Attribute e m apos) [] [] pos) r where
  den s := x.den s >>= fun y => Eff.lift (f () (y, ()))
  ok X Wx g tk := by
    obtain ⟨fa, fd, h1, h2, h3, h4⟩ := F.ex
    refine PE.imp (pe_methG0 (x.ok X Wx g tk) (C := He.ga C.T.K c) (by rw [g.K]; exact h1) (by rw [g.K]; exact h2) (g.fnok h3) (g.room.mono hk) (by rw [g.K]; exact h4) .nil (passG tk) (ht _)) fun σ H Q q => ?_
    obtain ⟨s, w, S, Ow, O, sat, kk⟩ := q
    refine step_E sat kk fun i w1 v1 H1 S1 st1 sat1 rp1 k1 => ?_
    rw [Eff.run_lift] at k1
    obtain ⟨a, dx, gs, rfl, e2, e3⟩ := rp1
    refine ⟨a, dx, gs, rfl, sat1.sub _ _ e2, e3.none (hm i), ?_⟩
    show spF R C.T.K ps.length p' [] _ r f [V.ref a] H1 Q _
    refine ⟨hn.symm ▸ rfl, (), (i, ()), (), S1, [], [], ⟨sat1.sub, fun b hb => by simp at hb, by simp, rfl, rfl, ⟨[], [], rfl, ⟨rfl, _, rfl, a, dx, gs, rfl, e2, e3⟩, rfl⟩, hn.symm ▸ rfl⟩, ?_⟩
    exact callee_end (ESt.refl sat1.sub) sat1.ws k1
def EP.prop {e : Expr} {c m : Str} {k : Nat} {ps : List Str} {fs : List (Str × TY)} {t : TY} {p' : Nat} {f : ST [] → ST [(0, .sh (TY.ins c fs))] → R t.A} {pos : Pos} (x : EP M C G e (TY.ins c fs)) (F : Prp C.T k c m ps (spF R C.T.K ps.length p' [] [(0, .sh (TY.ins c fs))] (.sh t) f)) (gf : FT fs → t.A) (hf : ∀ y, f () (y, ()) = .ok (gf y)) (hn : ps.length = 1 := by rfl) (hk : k + 1 ≤ C.k := by first | decide | exact of_decide_eq_true rfl)
    (hb : ∀ env, attributeBase e m env (eval e env) = eval e env := by intro _; rfl) : EP M C G (.Attribute e m pos) t where
  den s := gf (x.den s)
  ok X g := by
    obtain ⟨pa, fa, fd, h1, h2, h3, h4⟩ := F.ex
    refine PE.imp (pe_propG (E := fun _ _ _ _ => False) (x.ok X g) (C := He.ga C.T.K c) (by rw [g.K]; exact h1) (by rw [g.K]; exact h2) (g.fnok h3) (g.room.mono hk) (by rw [g.K]; exact h4) .nil ?_ (hb _)) fun σ H Q q => ?_
    · exact passG (W := fun _ _ _ _ => False) takes0
    obtain ⟨s, w, S, Ow, O, sat, kk⟩ := q
    refine step_p sat fun v1 H1 S1 st1 sat1 rp1 => ?_
    obtain ⟨a, dx, gs, rfl, e2, e3⟩ := rp1
    refine ⟨a, dx, gs, rfl, sat1.sub _ _ e2, hn.symm ▸ rfl, (), (x.den s, ()), (), S1, [], [], ⟨sat1.sub, fun b hb => by simp at hb, by simp, rfl, rfl, ⟨[], [], rfl, ⟨rfl, _, rfl, a, dx, gs, rfl, e2, e3⟩, rfl⟩, hn.symm ▸ rfl⟩, ?_⟩
    show PostE R C.T.K p' [some (V.ref a)] H1 S1 [] (.sh t) _ Q (f () (x.den s, ()), ())
    rw [hf]
    intro v H' S' O1 st hw se
    obtain ⟨q1, u, q2, rp⟩ := se
    cases q1; cases q2
    exact kk v H' S' (st1.trans st.wide) (ws_thru sat1.ws st) rp

/-! ### keywords -/
structure KJ (M : Type → Type) [Eff M] (C : Cf) (G : Ctx) (kws : List Keyword) (rs : List TY) where
  den : ST G → M (VT (rs.map SE.sh))
  ok : ∀ X Wx, XG C X → Takes X Wx → PK X kws fun σ H Q => ∃ s w S Ow O, Sat M C.T.K C.p G s w σ H S Ow O ∧ PostV M C.T.K C.p σ H S Ow (rs.map SE.sh) (fun cls d H' => Wx cls d σ H') Q (Eff.run (den s) w)
theorem PK.imp {X : Cx} {kws : List Keyword} {t t' : TA} (h : PK X kws t) (k : ∀ σ H Q, t' σ H Q → t σ H Q) : PK X kws t' :=
  ⟨fun pos pins s σ H Q I q => h.run pos pins s σ H Q I (k σ H Q q)⟩
def KJ.nil : KJ M C G [] [] where
  den _ := pure ()
  ok X Wx g tk := by
    refine PK.imp pk_nil fun σ H Q q => ?_
    obtain ⟨s, w, S, Ow, O, x, k⟩ := q
    rw [Eff.run_pure] at k
    exact k [] H S [] (ESt.refl x.sub) x.ws ⟨rfl, rfl⟩
def KJ.cons {nm : Option Str} {e : Expr} {kpos : Pos} {kws : List Keyword} {t : TY} {rs : List TY} (a : EJ M C G e (.sh t)) (b : KJ M C G kws rs) : KJ M C G (⟨nm, e, kpos⟩ :: kws) (t :: rs) where
  den s := a.den s >>= fun x => b.den s >>= fun y => pure (x, y)
  ok X Wx g tk := by
    refine PK.imp (pk_cons (a.ok X Wx g tk) (b.ok X Wx g tk)) fun σ H Q q => ?_
    obtain ⟨s, w, S, Ow, O, x, k⟩ := q
    refine step_gen (fun H S o => PostV M C.T.K C.p σ H S Ow ((t :: rs).map SE.sh) (fun cls d H' => Wx cls d σ H') Q o) x k (fun H1 S1 o st z => ?_) (fun b w' z => z) (fun _ z => z) fun y w1 v1 H1 S1 _ st1 sat1 rp1 k1 => ?_
    · obtain ⟨o, w'⟩ := o
      cases o with
      | ok b => exact fun vs H' S' O1 a b c => z vs H' S' O1 (st.trans a) b c
      | er b => exact fun cls d H' S' a b c => z cls d H' S' (st.trans a) b c
      | bad => exact z
    refine ⟨s, w1, S1, Ow, O, sat1, ?_⟩
    cases e2 : Eff.run (b.den s) w1 with
    | mk o w2 =>
      cases o with
      | ok z =>
        rw [run_ok _ e2, Eff.run_pure] at k1
        intro vs H2 S2 O2 st2 hw2 sv
        exact k1 (v1 :: vs) H2 S2 O2 st2 hw2 ⟨v1, vs, [], O2, rfl, rfl, ⟨rfl, v1, rfl, rp1.mono st2.ext⟩, sv⟩
      | er z => rw [run_er _ e2] at k1; exact k1
      | bad => rw [run_bad' _ e2] at k1; exact k1
def KJ.consP {nm : Option Str} {e : Expr} {kpos : Pos} {kws : List Keyword} {t : TY} {rs : List TY} (a : EP M C G e t) (b : KJ M C G kws rs) : KJ M C G (⟨nm, e, kpos⟩ :: kws) (t :: rs) := KJ.cons a.toEJ b
/-- the callee's slots, filled by keywords: each at its place -/
@[reducible] def kctx : List Nat → List TY → Ctx
  | j :: js, t :: ts => (j, .sh t) :: kctx js ts
  | _, _ => []
def kst : (js : List Nat) → (ts : List TY) → VT (ts.map SE.sh) → ST (kctx js ts)
  | _ :: js, _ :: ts, x => (x.1, kst js ts x.2)
  | [], [], _ => ()
  | [], _ :: _, _ => ()
  | _ :: _, [], _ => ()
/-- the arguments in the parameters' order: n by place, then by keyword -/
def kput (ord : List Nat) {α : Type} (d : α) (us ws : List α) : List α := us ++ ord.map fun j => ws.getD j d
/-- keywords fit: the j-th keyword's value goes to the place js[j] -/
def kfits (n : Nat) (ord js : List Nat) : Bool := decide (ord.length = js.length) && (List.range js.length).all fun i => match js[i]? with
  | some j => decide (n ≤ j) && (match ord[j - n]? with | some l => decide (l = i) | none => false)
  | none => false
structure FnK (T : Wd) (k : Nat) (x : Str) (ps : List Str) (n : Nat) (ks : List Str) (ord : List Nat) (sp : Sp) : Prop where
  ex : ∃ fa fd, T.mg x = some (.ref fa) ∧ PySem.W.keepIn T.K (.ref fa) = true ∧ FnG T.P T.w T.K T.mg T.base k fa fd ps sp ∧
    ∀ (s : Shared) (us ws : List Value), T.K.In s.heap → us.length = n → ws.length = ks.length → BindsTo s fd ⟨us, ks.zip ws⟩ (ps.zip (kput ord .none us ws))
theorem vals_getD : ∀ {zs : List V} {ws : List Value} (j : Nat), Vals zs ws → RelV (zs.getD j .non) (ws.getD j .none)
  | [], _, j, h => by cases h; exact rfl
  | z :: zs, _, 0, .cons r t => r
  | z :: zs, _, j + 1, .cons r t => by simpa using vals_getD j t
theorem vals_map {zs : List V} {ws : List Value} (h : Vals zs ws) : ∀ ord : List Nat, Vals (ord.map fun j => zs.getD j .non) (ord.map fun j => ws.getD j .none)
  | [] => .nil
  | j :: r => .cons (vals_getD j h) (vals_map h r)
theorem kctx_sat {K : PySem.W.Frag} {S H : Hp} {σ : St} : ∀ {js : List Nat} {ts : List TY} {x : VT (ts.map SE.sh)} {vs : List V} {O : List Addr}, SatV K S H (ts.map SE.sh) x vs O → js.length = ts.length → (∀ (i j : Nat), js[i]? = some j → σ[j]?.join = vs[i]?) → SatL K S H (kctx js ts) (kst js ts x) σ []
  | [], [], _, _, _, _, _, _ => rfl
  | j :: js, t :: ts, x, vs, O, sv, hl, h => by
    obtain ⟨v, us, O1, O2, rfl, rfl, ⟨q1, u, q2, rp⟩, sv2⟩ := sv
    cases q2
    refine ⟨[], [], rfl, ⟨rfl, v, by have := h 0 j rfl; simpa using this, rp⟩, kctx_sat sv2 (by simpa using hl) fun i j' e => ?_⟩
    have := h (i + 1) j' (by simpa using e)
    simpa using this
  | [], _ :: _, _, _, _, _, hl, _ => by cases hl
  | _ :: _, [], _, _, _, _, hl, _ => by cases hl
/-- f(k = v, ..): keywords alone -/
def EJ.callK0 {x : Str} {k : Nat} {ps ks : List Str} {ord js : List Nat} {kws : List Keyword} {rs : List TY} {r : SE} {p' : Nat} {f : ST [] → ST (kctx js rs) → R r.T} {pos p : Pos} (F : FnK C.T k x ps 0 ks ord (spF R C.T.K ps.length p' [] (kctx js rs) r f)) (A : KJ M C G kws rs) (hk : k ≤ C.k := by first | decide | exact of_decide_eq_true rfl) (hj : js.length = rs.length := by rfl) (hj2 : ks.length = rs.length := by rfl) (hps : ps.length = rs.length := by rfl) (hf : kfits 0 ord js = true := by first | decide | exact of_decide_eq_true rfl)
    (hks : ∀ env, (backToKw pos (keywordEach kws env)).filterMap (·.1) = ks := by intro _; rfl) (hall : ∀ env, (backToKw pos (keywordEach kws env)).all (·.1.isSome) = true := by intro _; rfl) (hg : C.sc.names.lookup x = some NameKind.globalImplicit := by rfl) (hd : (x == ("__debug__" : Str)) = false := by first | decide | exact of_decide_eq_true rfl)
    (hpl : ∀ env, ((backTo pos (starEach [] env)).any (·.1) || (backToKw pos (keywordEach kws env)).any (·.1.isNone)) = false := by intro _; rfl) : EJ M C G (.Call (.Name x p) [] kws pos) r where
  den s := A.den s >>= fun a => Eff.lift (f () (kst js rs a))
  ok X Wx g tk := by
    obtain ⟨fa, fd, h1, h2, h3, h4⟩ := F.ex
    refine ⟨fun pins s0 σ H Q I q => ?_⟩
    obtain ⟨s, w, S, Ow, O, sat, kk⟩ := q
    refine wpAny_Call_Name_kw (ld_glob I (g.gl hg) (by rw [g.mg]; exact h1) (PySem.W.callWith_KW0 (h₀ := X.base) I.ok.mod.kin (by rw [g.K]; exact h2) (hall _) (thn ((A.ok X Wx g tk).run pos pins s0 σ H (fun zs H2 => zs.length = rs.length ∧ spF R C.T.K ps.length p' [] (kctx js rs) r f (kput ord .non [] zs) H2 Q (fun cls d H' => Wx cls d σ H')) I ⟨s, w, S, Ow, O, sat, ?_⟩) fun ws s2 ⟨zs, H2, I2, rz, hzl, q2⟩ => ⟨I2.kIn, ?_⟩) (hpl _)) hd)
    · cases e2 : Eff.run (A.den s) w with
      | mk o w1 =>
        cases o with
        | er b => rw [run_er _ e2] at kk; exact kk
        | bad => rw [run_bad' _ e2] at kk; exact kk
        | ok a =>
          rw [run_ok _ e2, Eff.run_lift] at kk
          intro zs H1 S1 O1 st1 hw1 sv
          have hzl : zs.length = rs.length := by rw [sv.len, List.length_map]
          unfold kfits at hf
          simp only [Bool.and_eq_true, decide_eq_true_eq, List.all_eq_true, List.mem_range] at hf
          obtain ⟨hf1, hf2⟩ := hf
          have hlen : (kput ord V.non [] zs).length = ps.length := by
            unfold kput; rw [List.nil_append, List.length_map]; omega
          refine ⟨hzl, hlen, (), kst js rs a, (), S1, [], [], ⟨st1.sub, fun b hb => by simp at hb, by simp, rfl, rfl, kctx_sat sv hj fun i j hij => ?_, by rw [List.length_map]; exact hlen⟩, ?_⟩
          · have hi : i < js.length := (List.getElem?_eq_some_iff.mp hij).1
            have h5 := hf2 i hi
            rw [hij] at h5
            simp only [Bool.and_eq_true, decide_eq_true_eq] at h5
            obtain ⟨_, h5⟩ := h5
            rw [Nat.sub_zero] at h5
            unfold kput
            rw [List.nil_append, List.map_map, List.getElem?_map]
            cases ho : ord[j]? with
            | none => rw [ho] at h5; cases h5
            | some l =>
              rw [ho] at h5
              have h6 : l = i := by simpa using h5
              subst h6
              show Option.join (some (some (zs.getD l V.non))) = zs[l]?
              have hlt : l < zs.length := by omega
              simp [List.getD, hlt]
          · exact callee_end st1.drop hw1 kk
    · rw [hks]
      have hb := h4 s2 [] ws (by have := I2.kIn; rw [g.K] at this; exact this) rfl (by rw [← rz.length, hzl]; exact hj2.symm)
      exact run_G (args := ⟨[] ++ [], ks.zip ws⟩) (us := kput ord .none [] ws) (vs := kput ord .non [] zs) (g.fnok h3) (g.room.mono hk) (passG tk) I2 (fun _ => hb) (by unfold kput; exact vals_map rz ord) q2
/-- code that is never reached -/
def SJ.never {ro rw_ rw' : Ctx} {r : SE} {o : OZ rw' r} {sts : List Stmt} : SJ M C ro rw_ sts o where
  den _ _ := Eff.bad
  ok X Wx g tk := by
    refine PSs.imp pss_never fun D σ H q => ?_
    obtain ⟨c, m, w, S, Ow, Oc, O, x, k⟩ := q
    rw [Eff.run_bad] at k
    exact k.elim
end
/-! ### calls that share the world -/
section
variable {C : Cf} {G : Ctx}
def EJ.callW {x y : Str} {k : Nat} {ps : List Str} {es : List Expr} {G0 : Ctx} {r : SE} {f : ST [] → ST G0 → PM r.T} {pos p p2 : Pos} (F : Fn C.T k x ps (spF PM C.T.K ps.length 0 [] G0 r f)) (A : AJ PM C G 1 es G0) (hN : C.N[C.p]? = some y := by rfl) (hv : Vis C.sc y := by first | exact Or.inl rfl | exact Or.inr (Or.inl rfl) | exact Or.inr (Or.inr rfl))
    (hd2 : (y == ("__debug__" : Str)) = false := by first | decide | exact of_decide_eq_true rfl) (hcd : (y == ("__classdict__" : Str)) = false := by first | decide | exact of_decide_eq_true rfl) (hk : k ≤ C.k := by first | decide | exact of_decide_eq_true rfl) (hn : es.length + 1 = ps.length := by rfl)
    (hg : C.sc.names.lookup x = some .globalImplicit := by rfl) (hd : (x == ("__debug__" : Str)) = false := by first | decide | exact of_decide_eq_true rfl)
    (he : ∀ env, starEach (.Name y p2 :: es) env = (false, eval (.Name y p2) env) :: starEach es env := by intro _; rfl) (hpl : ∀ env, (backTo pos (starEach es env)).any (·.1) = false := by intro _; rfl) : EJ PM C G (.Call (.Name x p) (.Name y p2 :: es) [] pos) r where
  den s := A.den s >>= fun a => f () a
  ok X Wx g tk := by
    obtain ⟨fa, fd, h1, h2, h3, h4⟩ := F.ex
    refine PE.imp (pe_callG (g.fnok h3) (g.room.mono hk) (g.gl hg) (by rw [g.mg]; exact h1) (by rw [g.K]; exact h2) (by rw [g.K]; exact h4) .nil (passG tk) (pa_cons (pe_var (g.name hN) (g.vis hv) hd2 hcd) (A.ok X Wx g tk) (he _)) hd (he _) (hpl _)) fun σ H Q q => ?_
    obtain ⟨s, w, S, Ow, O, x, k⟩ := q
    obtain ⟨a0, e1, e2, e3⟩ := x.ws
    refine ⟨.ref a0, join_some e1, s, w, S, Ow, O, x, ?_⟩
    cases e2 : Eff.run (A.den s) w with
    | mk o w1 =>
      cases o with
      | er b => rw [run_er _ e2] at k; exact k
      | bad => rw [run_bad' _ e2] at k; exact k
      | ok a =>
        rw [run_ok _ e2] at k
        intro vs H1 S1 st1 hw1 hl sl
        show spF PM C.T.K ps.length 0 [] G0 r f ((V.ref a0 :: vs) ++ []) H1 Q _
        rw [List.append_nil]
        have hlen : (V.ref a0 :: vs).length = ps.length := by rw [List.length_cons, hl]; exact hn
        have hw1' : Eff.ws (M := PM) w1 (((V.ref a0 :: vs).map some)[0]?.join) H1 Ow := by
          have h5 := hw1
          rw [e1] at h5
          exact h5
        refine ⟨hlen, (), a, w1, S1, Ow, [], ⟨st1.sub, fun b hb => ?_, ?_, hw1', rfl, ?_, by rw [List.length_map]; exact hlen⟩, ?_⟩
        · exact ESt.dis x st1 b (by simp at hb ⊢; exact .inl hb)
        · simpa using (List.nodup_append.mp x.nd).1
        · refine (sl.mono (fun _ _ h => h) (fun b hb => by cases hb)).slots fun i hi => ?_
          have := A.ge i hi
          obtain ⟨j, rfl⟩ : ∃ j, i = j + 1 := ⟨i - 1, by omega⟩
          rw [List.getElem?_append_right (by simp)]
          simp
        · show PostE PM _ 0 _ _ _ _ _ _ _ (Eff.run (f () a) w1)
          cases e4 : Eff.run (f () a) w1 with
          | mk o2 w2 =>
            rw [e4] at k
            have wsb : ∀ {H' : Hp}, Eff.ws (M := PM) w2 (((V.ref a0 :: vs).map some)[0]?.join) H' Ow → Eff.ws (M := PM) w2 (σ[C.p]?.join) H' Ow := fun h => by rw [e1]; exact h
            cases o2 with
            | ok y => exact fun v H' S' O1 st hw se => k v H' S' O1 (st1.trans st) (wsb hw) se
            | er y => exact fun cls d H' S' st hw er => k cls d H' S' (st1.trans st) (wsb hw) er
            | bad => exact k
end
end Tp

set_option Elab.async false
set_option linter.all false
set_option maxRecDepth 100000
set_option maxHeartbeats 4000000
/-! Tp26: * // % ** and the pot. -/
namespace Tp
open PySem PySem.Spec L2
open PyProof.Rows hiding St

def Op2R (C : Cf) (op : Operator) (a b c : TY) (f : a.A → b.A → Option c.A) : Prop := ∀ X, XG C X → OpR X (binaryOp op) fun x y H Q => ∃ i : a.A, ∃ j : b.A, ∃ z : c.A, ∃ S, Sub S H ∧ Rep C.T.K S (a.enc i) x ∧ Rep C.T.K S (b.enc j) y ∧ f i j = some z ∧ ∀ v, (∀ S, Rep C.T.K S (c.enc z) v) → Q v H
theorem OpR.or' {X : Cx} {f : Value → Value → Sem Value} {r r' : R2} (h : OpR X f r) (h' : OpR X f r') : OpR X f (fun x y H Q => r x y H Q ∨ r' x y H Q) := fun pins s σ H x y v u Q I rx ry q =>
  q.elim (h pins s σ H x y v u Q I rx ry) (h' pins s σ H x y v u Q I rx ry)
def mulOk (i j : Int) : Bool := decide (-(2 ^ 64) < i ∧ i < 2 ^ 64) || decide (-(2 ^ 64) < j ∧ j < 2 ^ 64) || decide (i.natAbs.log2 + j.natAbs.log2 < 1000000)
def mulO (i j : Int) : Option Int := if mulOk i j = true then some (i * j) else none
def divO (i j : Int) : Option Int := if 0 < j ∧ j.natAbs.log2 < 9000 then some (i / j) else none
def modO (i j : Int) : Option Int := if 0 < j then some (i % j) else none
def powO (i j : Int) : Option Int := if 0 ≤ j ∧ j ≤ 1000000 ∧ i.natAbs < 2 ^ 64 then some (i ^ j.toNat) else none
section
variable {C : Cf}
theorem o2_mul : Op2R C .Mult .int .int .int mulO := fun X g => OpR.imp (OpR.or' op_mul op_mulW) fun x y H Q ⟨i, j, z, S, _, r1, r2, h, k⟩ => by
  unfold mulO at h
  by_cases hm : mulOk i j = true
  · rw [if_pos hm] at h; cases h
    unfold mulOk at hm
    simp only [Bool.or_eq_true, decide_eq_true_eq] at hm
    rcases hm with (hm | hm) | hm
    · exact .inl ⟨i, j, r1, r2, .inl hm, k _ fun _ => rfl⟩
    · exact .inl ⟨i, j, r1, r2, .inr hm, k _ fun _ => rfl⟩
    · exact .inr ⟨i, j, r1, r2, hm, k _ fun _ => rfl⟩
  · rw [if_neg hm] at h; cases h
theorem o2_div : Op2R C .FloorDiv .int .int .int divO := fun X g => OpR.imp op_fdivW fun x y H Q ⟨i, j, z, S, _, r1, r2, h, k⟩ => by
  unfold divO at h
  by_cases hm : 0 < j ∧ j.natAbs.log2 < 9000
  · rw [if_pos hm] at h; cases h
    exact ⟨i, j, r1, r2, hm, k _ fun _ => rfl⟩
  · rw [if_neg hm] at h; cases h
theorem o2_mod : Op2R C .Mod .int .int .int modO := fun X g => OpR.imp op_mod fun x y H Q ⟨i, j, z, S, _, r1, r2, h, k⟩ => by
  unfold modO at h
  by_cases hm : 0 < j
  · rw [if_pos hm] at h; cases h
    exact ⟨i, j, r1, r2, hm, k _ fun _ => rfl⟩
  · rw [if_neg hm] at h; cases h
theorem o2_pow : Op2R C .Pow .int .int .int powO := fun X g => OpR.imp op_pow fun x y H Q ⟨i, j, z, S, _, r1, r2, h, k⟩ => by
  unfold powO at h
  by_cases hm : 0 ≤ j ∧ j ≤ 1000000 ∧ i.natAbs < 2 ^ 64
  · rw [if_pos hm] at h; cases h
    exact ⟨i, j, r1, r2, hm, k _ fun _ => rfl⟩
  · rw [if_neg hm] at h; cases h
end
section
variable {M : Type → Type} [Eff M] {C : Cf} {G : Ctx}
def EJ.binR {a b c : TY} {f : a.A → b.A → Option c.A} {op : Operator} {e1 e2 : Expr} {pos : Pos} (o : Op2R C op a b c f) (x : EJ M C G e1 (.sh a)) (y : EJ M C G e2 (.sh b)) : EJ M C G (.BinOp e1 op e2 pos) (.sh c) where
  den s := x.den s >>= fun i => y.den s >>= fun j => optM (f i j)
  ok X Wx g tk := by
    refine PE.imp (pe_op (o X g) (x.ok X Wx g tk) (y.ok X Wx g tk)) fun σ H Q q => ?_
    obtain ⟨s, w, S, Ow, O, sat, k⟩ := q
    refine step_E sat k fun i w1 v1 H1 S1 st1 sat1 rp1 k1 => ?_
    refine step_E sat1 k1 fun j w2 v2 H2 S2 st2 sat2 rp2 k2 => ?_
    rw [run_optM] at k2
    cases e : f i j with
    | none => rw [e] at k2; exact k2.elim
    | some z =>
      rw [e] at k2
      exact ⟨i, j, z, S2, sat2.sub, rp1.mono st2.ext, rp2, e, fun v rv => k2 v H2 S2 [] (ESt.refl sat2.sub) sat2.ws ⟨rfl, v, rfl, rv S2⟩⟩
/-- total where the right side's value is known good -/
def EP.binR {a b c : TY} {f : a.A → b.A → Option c.A} {op : Operator} {e1 e2 : Expr} {pos : Pos} (o : Op2R C op a b c f) (x : EP M C G e1 a) (y : EP M C G e2 b) (h : a.A → b.A → c.A) (hf : ∀ s, f (x.den s) (y.den s) = some (h (x.den s) (y.den s))) : EP M C G (.BinOp e1 op e2 pos) c :=
  EP.ofJ (EJ.binR (pos := pos) o x.toEJ y.toEJ) (fun s => h (x.den s) (y.den s)) fun s w => by
    show Eff.run (pure (x.den s) >>= fun i => pure (y.den s) >>= fun j => optM (f i j)) w = _
    rw [run_ok _ (Eff.run_pure _ _), run_ok _ (Eff.run_pure _ _), run_optM, hf]
/-- a number written -/
def EP.modK {e1 : Expr} {k : Int} {j : Nat} {p pos : Pos} (x : EP M C G e1 .int) (hk : 0 < k := by first | decide | exact of_decide_eq_true rfl) : EP M C G (.BinOp e1 .Mod (.Constant (.int k) j p) pos) .int :=
  EP.binR o2_mod x (EP.int (i := k)) (fun i l => i % l) fun s => if_pos hk
def EP.divK {e1 : Expr} {k : Int} {j : Nat} {p pos : Pos} (x : EP M C G e1 .int) (hk : 0 < k ∧ k.natAbs.log2 < 9000 := by first | decide | exact of_decide_eq_true rfl) : EP M C G (.BinOp e1 .FloorDiv (.Constant (.int k) j p) pos) .int :=
  EP.binR o2_div x (EP.int (i := k)) (fun i l => i / l) fun s => if_pos hk
def EP.mulK {e1 : Expr} {k : Int} {j : Nat} {p pos : Pos} (x : EP M C G e1 .int) (hk : -(2 ^ 64) < k ∧ k < 2 ^ 64 := by first | decide | exact of_decide_eq_true rfl) : EP M C G (.BinOp e1 .Mult (.Constant (.int k) j p) pos) .int :=
  EP.binR o2_mul x (EP.int (i := k)) (fun i l => i * l) fun s => if_pos (by
    show mulOk _ k = true
    unfold mulOk
    rw [decide_eq_true hk, Bool.or_true, Bool.true_or])
def EP.kMul {e1 : Expr} {k : Int} {j : Nat} {p pos : Pos} (x : EP M C G e1 .int) (hk : -(2 ^ 64) < k ∧ k < 2 ^ 64 := by first | decide | exact of_decide_eq_true rfl) : EP M C G (.BinOp (.Constant (.int k) j p) .Mult e1 pos) .int :=
  EP.binR o2_mul (EP.int (i := k)) x (fun i l => i * l) fun s => if_pos (by
    show mulOk k _ = true
    unfold mulOk
    rw [decide_eq_true hk, Bool.true_or, Bool.true_or])
def EP.powKK {k l : Int} {j j2 : Nat} {p p2 pos : Pos} (hk : 0 ≤ l ∧ l ≤ 1000000 ∧ k.natAbs < 2 ^ 64 := by first | decide | exact of_decide_eq_true rfl) : EP M C G (.BinOp (.Constant (.int k) j p) .Pow (.Constant (.int l) j2 p2) pos) .int :=
  EP.binR o2_pow (EP.int (i := k)) (EP.int (i := l)) (fun i l => i ^ l.toNat) fun s => if_pos hk
def EP.neg {e1 : Expr} {pos : Pos} (x : EP M C G e1 .int) : EP M C G (.UnaryOp .USub e1 pos) .int where
  den s := -(x.den s)
  ok X g := by
    refine PE.imp (pe_un un_neg (x.ok X g)) fun σ H Q q => ?_
    obtain ⟨s, w, S, Ow, O, sat, k⟩ := q
    exact step_p sat fun v1 H1 S1 st1 sat1 rp1 => ⟨x.den s, rp1, k _ H1 S1 st1 sat1.ws rfl⟩
def EJ.neg {e1 : Expr} {pos : Pos} (x : EJ M C G e1 (.sh .int)) : EJ M C G (.UnaryOp .USub e1 pos) (.sh .int) where
  den s := x.den s >>= fun i => pure (-i)
  ok X Wx g tk := by
    refine PE.imp (pe_un un_neg (x.ok X Wx g tk)) fun σ H Q q => ?_
    obtain ⟨s, w, S, Ow, O, sat, kk⟩ := q
    refine step_E sat kk fun (i : Int) w1 v1 H1 S1 st1 sat1 rp1 k1 => ?_
    rw [Eff.run_pure] at k1
    exact ⟨i, rp1, k1 _ H1 S1 [] (ESt.refl sat1.sub) sat1.ws ⟨rfl, _, rfl, rfl⟩⟩
/-- divmod -/
def dmO (i j : Int) : Option (Int × Int) := if 0 < j ∧ j < 1073741824 then some (i / j, i % j) else none
def EJ.divmod {e1 e2 : Expr} {p pos : Pos} (x : EJ M C G e1 (.sh .int)) (y : EJ M C G e2 (.sh .int)) (hm : C.T.mg ("divmod" : Str) = none) (hg : C.sc.names.lookup ("divmod" : Str) = some NameKind.globalImplicit := by rfl)
    (h1 : ∀ env, starEach [e1, e2] env = (false, eval e1 env) :: starEach [e2] env := by intro _; rfl) (h2 : ∀ env, starEach [e2] env = (false, eval e2 env) :: starEach [] env := by intro _; rfl) (hpl : ∀ env, (backTo pos (starEach [e2] env)).any (·.1) = false := by intro _; rfl) : EJ M C G (.Call (.Name "divmod" p) [e1, e2] [] pos) (.sh (.tup2 .int .int)) where
  den s := x.den s >>= fun i => y.den s >>= fun j => optM (dmO i j)
  ok X Wx g tk := by
    refine PE.imp (pe_callB call_divmod (g.gl hg) (by rw [g.mg]; exact hm) bt_divmod (pa_cons (x.ok X Wx g tk) (pa_cons (y.ok X Wx g tk) pa_nil (h2 _)) (h1 _)) (by decide) (by decide) (h1 _) (hpl _)) fun σ H Q q => ?_
    obtain ⟨s, w, S, Ow, O, sat, k⟩ := q
    refine step_E sat k fun (i : Int) w1 v1 H1 S1 st1 sat1 rp1 k1 => ?_
    refine step_E sat1 k1 fun (j : Int) w2 v2 H2 S2 st2 sat2 rp2 k2 => ?_
    rw [run_optM] at k2
    unfold dmO at k2
    by_cases h : 0 < j ∧ j < 1073741824
    · rw [if_pos h] at k2
      exact ⟨i, j, by rw [show v1 = V.int i from rp1, show v2 = V.int j from rp2], h, fun p hp => k2 _ _ _ [] ((ESt.refl sat2.sub).newS hp) (ws_new sat2.ws hp) ⟨rfl, _, rfl, rep_tup (vs := [.int (i / j), .int (i % j)]) upd_same (RepL.cons rfl (RepL.cons rfl rfl))⟩⟩
    · rw [if_neg h] at k2; exact k2.elim
end

/-! ### the pot itself: read and written by the def that draws -/
def PM.get0 : PM Int := fun w => (.ok w.1, w)
def PM.get1 : PM Int := fun w => (.ok w.2, w)
def PM.put0 (i : Int) : PM Unit := fun w => (.ok (), (i, w.2))
def PM.put1 (i : Int) : PM Unit := fun w => (.ok (), (w.1, i))
section
variable {C : Cf} {G : Ctx}
def EJ.pot0 {y : Str} {j : Nat} {p p2 pos : Pos} (hN : C.N[C.p]? = some y := by rfl) (hv : Vis C.sc y := by first | exact Or.inl rfl | exact Or.inr (Or.inl rfl) | exact Or.inr (Or.inr rfl)) (hd2 : (y == ("__debug__" : Str)) = false := by first | decide | exact of_decide_eq_true rfl) (hcd : (y == ("__classdict__" : Str)) = false := by first | decide | exact of_decide_eq_true rfl) :
    EJ PM C G (.Subscript (.Name y p) (.Constant (.int 0) j p2) pos) (.sh .int) where
  den _ := PM.get0
  ok X Wx g tk := by
    refine PE.imp (pe_ix ix_list (pe_var (g.name hN) (g.vis hv) hd2 hcd) pe_int (fun _ _ => rfl)) fun σ H Q q => ?_
    obtain ⟨s, w, S, Ow, O, x, k⟩ := q
    obtain ⟨a, e1, e2, e3⟩ := x.ws
    exact ⟨.ref a, join_some e1, a, _, 0, .int w.1, rfl, rfl, SqL.of e3, rfl, k _ H S [] (ESt.refl x.sub) x.ws ⟨rfl, _, rfl, rfl⟩⟩
def EJ.pot1 {y : Str} {j : Nat} {p p2 pos : Pos} (hN : C.N[C.p]? = some y := by rfl) (hv : Vis C.sc y := by first | exact Or.inl rfl | exact Or.inr (Or.inl rfl) | exact Or.inr (Or.inr rfl)) (hd2 : (y == ("__debug__" : Str)) = false := by first | decide | exact of_decide_eq_true rfl) (hcd : (y == ("__classdict__" : Str)) = false := by first | decide | exact of_decide_eq_true rfl) :
    EJ PM C G (.Subscript (.Name y p) (.Constant (.int 1) j p2) pos) (.sh .int) where
  den _ := PM.get1
  ok X Wx g tk := by
    refine PE.imp (pe_ix ix_list (pe_var (g.name hN) (g.vis hv) hd2 hcd) pe_int (fun _ _ => rfl)) fun σ H Q q => ?_
    obtain ⟨s, w, S, Ow, O, x, k⟩ := q
    obtain ⟨a, e1, e2, e3⟩ := x.ws
    exact ⟨.ref a, join_some e1, a, _, 1, .int w.2, rfl, rfl, SqL.of e3, rfl, k _ H S [] (ESt.refl x.sub) x.ws ⟨rfl, _, rfl, rfl⟩⟩
variable {ro rw_ rw' : Ctx} {r : SE} {o : OZ rw' r}
/-- the pot's list rewritten -/
theorem Sat2.pot {K : PySem.W.Frag} {p n : Nat} {c : ST ro} {m : ST rw_} {w w' : Int × Int} {σ : St} {H S : Hp} {Ow Oc O : List Addr} {a : Addr} (x : Sat2 PM K p n ro rw_ c m w σ H S Ow Oc O) (e1 : σ[p]?.join = some (.ref a)) (e2 : Ow = [a]) :
    SSt H S Ow O O (upd H a (.lst [.int w'.1, .int w'.2])) S ∧ Eff.ws (M := PM) w' (σ[p]?.join) (upd H a (.lst [.int w'.1, .int w'.2])) Ow ∧ SatL K S (upd H a (.lst [.int w'.1, .int w'.2])) rw_ m σ O := by
  have nO : O.Nodup := (List.nodup_append.mp (List.nodup_append.mp x.nd).2.1).2.1
  have hne : ∀ b ∈ O, b ≠ a := fun b hb z => by
    subst z
    exact (List.nodup_append.mp x.nd).2.2 b (by simp [e2]) b (by simp [hb]) rfl
  refine ⟨⟨fun _ _ h => h, fun b o h1 _ e => ?_, fun b o e => ?_, fun _ _ h => .inl h, fun b o h => ?_, fun b hb => ⟨.inr hb, x.dis b (by simp [hb])⟩, nO⟩, ⟨a, e1, e2, upd_same⟩, x.es.mono (fun _ _ h => h) fun b hb => upd_ne (hne b hb)⟩
  · rw [upd_ne (fun z => h1 (by rw [e2, z]; simp))]; exact e
  · by_cases h : b = a
    · subst h; exact ⟨_, upd_same⟩
    · exact ⟨o, by rw [upd_ne h]; exact e⟩
  · have : b ≠ a := fun z => by
      subst z
      rw [x.dis b (by simp [e2])] at h; cases h
    rw [upd_ne this]; exact x.sub b o h
/-- pot[1] = e -/
def SJ.pot1 {y : Str} {e : Expr} {j : Nat} {p p2 p3 pos : Pos} {sts : List Stmt} (a : EJ PM C (rw_ ++ ro) e (.sh .int)) (rest : SJ PM C ro rw_ sts o) (hN : C.N[C.p]? = some y := by rfl) (hv : Vis C.sc y := by first | exact Or.inl rfl | exact Or.inr (Or.inl rfl) | exact Or.inr (Or.inr rfl)) (hd2 : (y == ("__debug__" : Str)) = false := by first | decide | exact of_decide_eq_true rfl) (hcd : (y == ("__classdict__" : Str)) = false := by first | decide | exact of_decide_eq_true rfl)
    (hs : ∀ env, swapsWithSole [.Subscript (.Name y p) (.Constant (.int 1) j p2) p3] e pos.line env = pure false := by intro _; rfl) (hw : ∀ env, swappedStores [.Subscript (.Name y p) (.Constant (.int 1) j p2) p3] e env = pure none := by intro _; rfl) :
    SJ PM C ro rw_ (.Assign [.Subscript (.Name y p) (.Constant (.int 1) j p2) p3] e pos :: sts) o where
  den c m := a.den (ST.app rw_ ro m c) >>= fun v => PM.put1 v >>= fun _ => rest.den c m
  ok X Wx g tk := by
    refine PSs.imp (pss_cons (ps_asg (a.ok X Wx g.toXG tk) (pg_sub (pe_var (g.name hN) (g.toXG.vis hv) hd2 hcd) pe_int set_list) (hs _) (hw _)) (rest.ok X Wx g tk)) fun D σ H q => ?_
    obtain ⟨c, m, w, S, Ow, Oc, O, x, k⟩ := q
    refine stepS_E x k fun y w' v H' S' O1 st hw' se k1 => ?_
    obtain ⟨q1, u, q2, rp⟩ := se
    cases q1; cases q2
    have x1 := x.afterE st hw'
    obtain ⟨l, e1, e2, e3⟩ := x1.ws
    obtain ⟨z1, z2, z3⟩ := x1.pot (w' := (w'.1, y)) e1 e2
    cases (show v = V.int y from rp)
    refine ⟨.ref l, join_some e1, l, _, 1, 1, rfl, rfl, e3, rfl, c, m, (w'.1, y), S', Ow, Oc, O, x1.after z1 z2 z3 (fun _ _ => rfl) rfl, ?_⟩
    exact (k1.pre (x.sstE st) (fun _ _ => rfl) rfl).pre z1 (fun _ _ => rfl) rfl
/-- pot[0], d = e -/
def SJ.pot0 (i : Nat) {y d : Str} {e : Expr} {j kt : Nat} {p p2 p3 p4 pt pos : Pos} {sts : List Stmt} (a : EJ PM C (rw_ ++ ro) e (.sh (.tup2 .int .int))) (rest : SJ PM C ro (put i (.sh .int) rw_) sts o) (hN : C.N[C.p]? = some y := by rfl) (hv : Vis C.sc y := by first | exact Or.inl rfl | exact Or.inr (Or.inl rfl) | exact Or.inr (Or.inr rfl)) (hd2 : (y == ("__debug__" : Str)) = false := by first | decide | exact of_decide_eq_true rfl) (hcd : (y == ("__classdict__" : Str)) = false := by first | decide | exact of_decide_eq_true rfl)
    (hN2 : C.N[i]? = some d := by rfl) (hl : Loc C.sc d := by first | exact Or.inl rfl | exact Or.inr rfl) (hf : C.fb d = true ∨ C.sc.names.lookup d = some .local := by first | exact Or.inl rfl | exact Or.inr rfl)
    (hs : ∀ env, swapsWithSole [.Tuple [.Subscript (.Name y p) (.Constant (.int 0) j p2) p3, .Name d p4] kt pt] e pos.line env = pure false := by intro _; rfl) (hw : ∀ env, swappedStores [.Tuple [.Subscript (.Name y p) (.Constant (.int 0) j p2) p3, .Name d p4] kt pt] e env = pure none := by intro _; rfl)
    (hk : (rw_.map (·.1)).Nodup := by first | decide | exact of_decide_eq_true rfl) (hi : i < C.N.length := by first | decide | exact of_decide_eq_true rfl) (hr : i ∉ ro.map (·.1) := by first | decide | exact of_decide_eq_true rfl) (hp : i ≠ C.p := by first | decide | exact of_decide_eq_true rfl) :
    SJ PM C ro rw_ (.Assign [.Tuple [.Subscript (.Name y p) (.Constant (.int 0) j p2) p3, .Name d p4] kt pt] e pos :: sts) o where
  den c m := a.den (ST.app rw_ ro m c) >>= fun v => PM.put0 v.1 >>= fun _ => rest.den c (ST.put i (.sh .int) v.2 rw_ m)
  ok X Wx g tk := by
    have hg := pg_tup (k := kt) (pos := pt) (n := 2) g.calm (pgs_cons (pg_sub (pos := p3) (pe_var (pos := p) (g.name hN) (g.toXG.vis hv) hd2 hcd) (pe_int (i := 0) (j := j) (pos := p2)) set_list) (pgs_cons (pg_name (pos := p4) (by rw [g.n]; exact g.nd) (g.name hN2) (show Loc X.env.scope d by rw [g.sc]; exact hl) (hf.elim (fun h => .inl (g.fn _ h)) fun h => .inr (by rw [g.sc]; exact h))) pgs_nil))
    refine PSs.imp (pss_cons (ps_asg (a.ok X Wx g.toXG tk) hg (hs _) (hw _)) (rest.ok X Wx g tk)) fun D σ H q => ?_
    obtain ⟨c, m, w, S, Ow, Oc, O, x, k⟩ := q
    refine stepS_E x k fun y w' v H' S' O1 st hw' se k1 => ?_
    obtain ⟨q1, u, q2, rp⟩ := se
    cases q1; cases q2
    have x1 := x.afterE st hw'
    obtain ⟨l, e1, e2, e3⟩ := x1.ws
    obtain ⟨z1, z2, z3⟩ := x1.pot (w' := (y.1, w'.2)) e1 e2
    have x2 := x1.after z1 z2 z3 (fun _ _ => rfl) rfl
    obtain ⟨tl, vs, rfl, t2, t3⟩ := rp
    obtain ⟨v1, r1, rfl, p1', v2, r2, rfl, p2', rfl⟩ := t3
    cases (show v1 = V.int y.1 from p1')
    cases (show v2 = V.int y.2 from p2')
    rw [g.K]
    refine ⟨tl, _, rfl, ext_seqT st.sub t2, rfl, _, _, rfl, .ref l, join_some e1, l, _, 0, 0, rfl, rfl, e3, rfl, _, _, rfl, rfl, ?_⟩
    obtain ⟨O', s3, x3, hs3, hl3⟩ := x2.setSlot (r := .sh .int) (y := y.2) (v := V.int y.2) (ESt.refl x2.sub) x2.ws ⟨rfl, _, rfl, rfl⟩ hk hi hr hp
    refine ⟨c, _, (y.1, w'.2), S', Ow, Oc, O', x3, ?_⟩
    exact (((k1.pre (x.sstE st) (fun _ _ => rfl) rfl).pre z1 (fun _ _ => rfl) rfl).pre s3 hs3 hl3)
end
end Tp

set_option Elab.async false
set_option linter.all false
set_option maxRecDepth 100000
set_option maxHeartbeats 4000000
/-! Tp27: what the head tells, more of it. -/
namespace Tp
open PySem PySem.Spec L2
open PyProof.Rows hiding St

/-- a property's getter -/
def pgA (K : PySem.W.Frag) (p : Str × Str) : Addr := match PySem.W.recIn K (He.ma K (He.ga K p.1) p.2) "property" with
  | some (.ref g :: _) => g
  | _ => 0
def fnWA (K : PySem.W.Frag) (a : Addr) : He.FnW := match K.lookup a with
  | some ⟨_, _, .func fd, _⟩ => some (fd.name, fd.qualname, fd.params, fd.body, fd.scope, fd.globals, fd.closure, fd.builtins)
  | _ => none
def okA (K : PySem.W.Frag) (d : He.DefD) (a : Addr) : Bool := PySem.W.keepIn K (.ref a) && (match K.lookup a with
  | some ⟨_, _, .func fd, _⟩ => PySem.W.codeIn K fd.code d.qual && (He.dflB K fd.defaults (d.dvs K) && He.kwdB K fd.kwdefaults (d.kws K))
  | _ => false)
theorem funDA {K : PySem.W.Frag} {d : He.DefD} {a : Addr} (e : fnWA K a = d.val) (c : okA K d a = true) : ∃ fd, FunD K d.name d.qual d.params d.body d.scope (d.dvs K) (d.kws K) a fd := by
  obtain ⟨kp, c2⟩ := He.ba c
  unfold fnWA at e
  cases q : K.lookup a with
  | none => rw [q] at c2; cases c2
  | some o =>
    obtain ⟨oc, od, dt, osl⟩ := o
    rw [q] at c2 e
    cases dt with
    | func fd =>
      obtain ⟨n1, n2, n3, n4, n5, n6, n7, n8, n9, n10, n11, n12, n13, n14, n15⟩ := fd
      have e2 : (some (n1, n2, n3, n4, n5, n6, n7, n15) : He.FnW) = some (d.name, d.qual, d.params, .stmts d.body, d.scope, mainGlobals, [], builtinsNs) := e
      simp only [Option.some.injEq, Prod.mk.injEq] at e2
      obtain ⟨h1, h2, h3, h4, h5, h6, h7, h8⟩ := e2
      subst h1 h2 h3 h4 h5 h6 h7 h8
      have c3 : (PySem.W.codeIn K n13 d.qual && (He.dflB K n8 (d.dvs K) && He.kwdB K n9 (d.kws K))) = true := c2
      obtain ⟨k1, k2⟩ := He.ba c3
      obtain ⟨k3, k4⟩ := He.ba k2
      exact ⟨_, ⟨oc, od, n8, n9, n10, n11, n12, n13, n14, osl, rfl, q, k1, He.dflB_ok k3, He.kwdB_ok k4⟩, kp⟩
    | _ => cases c2
inductive Fb where
  | ins (x : Str)
  | kitT (T : String) (x : Str) (b : Bool)
  | kitC (x y : Str) (b : Bool)
  | kitB (x : Str) (T : String) (b : Bool)
  | prop (x f : Str)
  | ne (x : Str)
def Fb.ok (K : PySem.W.Frag) : Fb → Bool
  | .ins x => He.eqO (PySem.W.findIn K (.ref (He.ga K x)) "__class__") (some (some (.builtin "object.__class__"))) && (He.eqO (PySem.W.specialIn K (.builtin "object.__class__") "__get__") (some (some (.builtin "getset_descriptor.__get__"))) &&
      (decide (PySem.W.takesIn K (.builtin "object.__class__") = some true) && decide (PySem.W.mroIn K (He.ga K x) (.type "object") = some true)))
  | .kitT T x b => decide (PySem.W.kitOne K (.type T) (.ref (He.ga K x)) = some b)
  | .kitC x y b => decide (PySem.W.kitOne K (.ref (He.ga K x)) (.ref (He.ga K y)) = some b)
  | .kitB x T b => decide (PySem.W.kitOne K (.ref (He.ga K x)) (.type T) = some b)
  | .ne x => He.eqO (PySem.W.findIn K (.ref (He.ga K x)) "__ne__") (some (some (.builtin "object.__ne__"))) && decide (PySem.W.mroIn K (He.ga K x) (.type "object") = some true)
  | .prop x f => He.eqO (PySem.W.findIn K (.ref (He.ga K x)) f) (some (some (.ref (He.ma K (He.ga K x) f)))) && (He.eqO (PySem.W.specialIn K (.ref (He.ma K (He.ga K x) f)) "__get__") (some (some (.builtin "property.__get__"))) &&
      (decide (PySem.W.takesIn K (.ref (He.ma K (He.ga K x) f)) = some true) && (match PySem.W.recIn K (He.ma K (He.ga K x) f) "property" with
        | some (.ref g :: _) => decide (g = pgA K (x, f))
        | _ => false)))
section
variable {K : PySem.W.Frag}
theorem ins_ok {T : Wd} {x : Str} (c1 : (He.Fa.cls x).ok T.K = true) (c : (Fb.ins x).ok T.K = true) : InsF T x := by
  obtain ⟨a1, a⟩ := He.ba c
  obtain ⟨a2, a⟩ := He.ba a
  obtain ⟨a3, a4⟩ := He.ba a
  exact ⟨He.cls_ok c1, He.eqO_ok a1, He.eqO_ok a2, of_decide_eq_true a3, of_decide_eq_true a4⟩
theorem ne_ok {x : Str} (c : (Fb.ne x).ok K = true) : PySem.W.findIn K (.ref (He.ga K x)) "__ne__" = some (some (.builtin "object.__ne__")) ∧ PySem.W.mroIn K (He.ga K x) (.type "object") = some true := by
  obtain ⟨a1, a2⟩ := He.ba c
  exact ⟨He.eqO_ok a1, of_decide_eq_true a2⟩
theorem prop_ok {x f : Str} (c : (Fb.prop x f).ok K = true) : PropOf K (He.ga K x) f (He.ma K (He.ga K x) f) (pgA K (x, f)) := by
  obtain ⟨a1, a⟩ := He.ba c
  obtain ⟨a2, a⟩ := He.ba a
  obtain ⟨a3, a4⟩ := He.ba a
  refine ⟨He.eqO_ok a1, He.eqO_ok a2, of_decide_eq_true a3, ?_⟩
  cases e : PySem.W.recIn K (He.ma K (He.ga K x) f) "property" with
  | none => rw [e] at a4; cases a4
  | some l =>
    rw [e] at a4
    cases l with
    | nil => cases a4
    | cons v r =>
      cases v with
      | ref g => exact ⟨r, by rw [of_decide_eq_true a4]⟩
      | _ => cases a4
end
section
variable {K : PySem.W.Frag}
theorem kitT_ok {T : String} {x : Str} {b : Bool} (c : (Fb.kitT T x b).ok K = true) : PySem.W.kitOne K (.type T) (.ref (He.ga K x)) = some b := of_decide_eq_true c
theorem kitC_ok {x y : Str} {b : Bool} (c : (Fb.kitC x y b).ok K = true) : PySem.W.kitOne K (.ref (He.ga K x)) (.ref (He.ga K y)) = some b := of_decide_eq_true c
theorem kitB_ok {x : Str} {T : String} {b : Bool} (c : (Fb.kitB x T b).ok K = true) : PySem.W.kitOne K (.ref (He.ga K x)) (.type T) = some b := of_decide_eq_true c
end
/-- a property's getter as a def: the class, the property -/
structure DefP where
  at_ : Str × Str
  d : He.DefD
abbrev AlE : Type := Bool × List He.FnW × List He.FnW
def obsE (fa : List He.Fa) (fb : List Fb) (fn : List He.DefD) (pn : List DefP) (K : PySem.W.Frag) : AlE :=
  (((fa.all fun f => f.ok K) && fn.all fun d => d.ok K) && ((fb.all fun f => f.ok K) && pn.all fun d => okA K d.d (pgA K d.at_)), fn.map fun d => He.fnW K d.at_, pn.map fun d => fnWA K (pgA K d.at_))
def valE (fn : List He.DefD) (pn : List DefP) : AlE := (true, fn.map He.DefD.val, pn.map fun d => d.d.val)
def SaysE (fa : List He.Fa) (fb : List Fb) (fn : List He.DefD) (pn : List DefP) (K : PySem.W.Frag) : Prop := obsE fa fb fn pn K = valE fn pn
def obsEG (n : Nat) (fa : List He.Fa) (fb : List Fb) (fn : List He.DefD) (pn : List DefP) (g : Addr → Option Obj) : AlE := obsE fa fb fn pn (He.frG g (He.asD g n))
def hookE (n : Nat) (fa : List He.Fa) (fb : List Fb) (fn : List He.DefD) (pn : List DefP) : PySem.W.Hook where
  α := AlE
  obs := fun s => obsEG n fa fb fn pn s.heap.get?
  val := fun _ => valE fn pn
  says := fun _ h => ∃ K : PySem.W.Frag, K.In h ∧ SaysE fa fb fn pn K
  of := fun _ _ e => ⟨_, He.frG_in, e⟩
  keeps := fun _ _ _ ⟨K, hK, c⟩ k => ⟨K, PySem.W.Frag.In.keeps hK k, c⟩
theorem obsEG_eq {n : Nat} {fa : List He.Fa} {fb : List Fb} {fn : List He.DefD} {pn : List DefP} {g : Addr → Option Obj} {s : Shared} (h : ∀ a, g a = s.heap.get? a) : obsEG n fa fb fn pn g = (hookE n fa fb fn pn).obs s := by
  have e : g = s.heap.get? := funext h
  rw [e]; rfl
section
variable {fa : List He.Fa} {fb : List Fb} {fn : List He.DefD} {pn : List DefP} {K : PySem.W.Frag}
theorem SaysE.d (c : SaysE fa fb fn pn K) : He.SaysD fa fn K := by
  have c1 := (He.ba (show (((fa.all fun f => f.ok K) && fn.all fun d => d.ok K) && ((fb.all fun f => f.ok K) && pn.all fun d => okA K d.d (pgA K d.at_))) = true from congrArg (fun z : AlE => z.1) c)).1
  exact Prod.ext c1 (congrArg (fun z : AlE => z.2.1) c)
theorem SaysE.fact (c : SaysE fa fb fn pn K) (i : Nat) {f : He.Fa} (h : fa[i]? = some f := by rfl) : f.ok K = true := c.d.fact i h
theorem SaysE.def_ (c : SaysE fa fb fn pn K) (i : Nat) {d : He.DefD} (h : fn[i]? = some d := by rfl) : ∃ fd, FunD K d.name d.qual d.params d.body d.scope (d.dvs K) (d.kws K) (He.fAd K d.at_) fd := c.d.def_ i h
theorem SaysE.factB (c : SaysE fa fb fn pn K) (i : Nat) {f : Fb} (h : fb[i]? = some f := by rfl) : f.ok K = true := by
  have c1 := (He.ba (He.ba (show (((fa.all fun f => f.ok K) && fn.all fun d => d.ok K) && ((fb.all fun f => f.ok K) && pn.all fun d => okA K d.d (pgA K d.at_))) = true from congrArg (fun z : AlE => z.1) c)).2).1
  exact List.all_eq_true.mp c1 f (List.mem_of_getElem? h)
theorem SaysE.defP (c : SaysE fa fb fn pn K) (i : Nat) {d : DefP} (h : pn[i]? = some d := by rfl) : ∃ fd, FunD K d.d.name d.d.qual d.d.params d.d.body d.d.scope (d.d.dvs K) (d.d.kws K) (pgA K d.at_) fd := by
  have c2 := (He.ba (He.ba (show (((fa.all fun f => f.ok K) && fn.all fun d => d.ok K) && ((fb.all fun f => f.ok K) && pn.all fun d => okA K d.d (pgA K d.at_))) = true from congrArg (fun z : AlE => z.1) c)).2).2
  have e : pn.map (fun d => fnWA K (pgA K d.at_)) = pn.map fun d => d.d.val := congrArg (fun z : AlE => z.2.2) c
  have e2 : (pn.map fun d => fnWA K (pgA K d.at_))[i]? = (pn.map fun d => d.d.val)[i]? := by rw [e]
  rw [List.getElem?_map, List.getElem?_map, h] at e2
  exact funDA (Option.some.inj e2) (List.all_eq_true.mp c2 d (List.mem_of_getElem? h))
end
/-- what stands beside a row's defs -/
structure Says (fa : List He.Fa) (fb : List Fb) (fn : List He.DefD) (pn : List DefP) (T : Wd) : Prop where
  c : SaysE fa fb fn pn T.K
  g : ∃ h : Heap, T.K.In h ∧ h.Ns mainGlobals T.mg
section
variable {fa : List He.Fa} {fb : List Fb} {fn : List He.DefD} {pn : List DefP} {T : Wd}
theorem Says.glo (s : Says fa fb fn pn T) (i : Nat) {x : Str} (h : fa[i]? = some (.glo x) := by rfl) : T.mg x = some (.ref (He.ga T.K x)) := let ⟨_, X, G⟩ := s.g; He.glo_ok X G (s.c.fact i h)
theorem Says.free (s : Says fa fb fn pn T) (i : Nat) {x : Str} (h : fa[i]? = some (.free x) := by rfl) : T.mg x = none := let ⟨_, X, G⟩ := s.g; He.free_ok X G (s.c.fact i h)
theorem Says.int (s : Says fa fb fn pn T) (i : Nat) {x : Str} {k : Int} (h : fa[i]? = some (.int x k) := by rfl) : ∃ t, T.mg x = some (.int k t) := let ⟨_, X, G⟩ := s.g; He.int_ok X G (s.c.fact i h)
theorem Says.fld (s : Says fa fb fn pn T) (i j : Nat) {x f : Str} (h : fa[i]? = some (.cls x) := by rfl) (h2 : fa[j]? = some (.noat x f) := by rfl) : FldF T x f := ⟨He.cls_ok (s.c.fact i h), He.noat_ok (s.c.fact j h2)⟩
theorem Says.ins (s : Says fa fb fn pn T) (i j : Nat) {x : Str} (h : fa[i]? = some (.cls x) := by rfl) (h2 : fb[j]? = some (.ins x) := by rfl) : InsF T x := ins_ok (s.c.fact i h) (s.c.factB j h2)
end
end Tp

set_option Elab.async false
set_option linter.all false
set_option maxRecDepth 100000
set_option maxHeartbeats 4000000
/-! Tp28: a law's def, called at the top's end. -/
namespace Tp
open PySem PySem.Spec L2
open PyProof.Rows hiding St

/-- what the script's cell is known as -/
def scriptHp (K : PySem.W.Frag) (a : Addr) (vs : List Value) (ns : List Int) : Hp := fun b =>
  if b = a ∧ K.lookup a = none then some (.frz { cls := .type "list", data := .seq vs.toArray } (.lst (ns.map V.int))) else none
theorem scriptHp_at {K : PySem.W.Frag} {a b : Addr} {vs : List Value} {ns : List Int} {u : HO} (h : scriptHp K a vs ns b = some u) : b = a ∧ K.lookup a = none ∧ u = .frz { cls := .type "list", data := .seq vs.toArray } (.lst (ns.map V.int)) := by
  unfold scriptHp at h
  by_cases c : b = a ∧ K.lookup a = none
  · rw [if_pos c] at h; cases h; exact ⟨c.1, c.2, rfl⟩
  · rw [if_neg c] at h; cases h
section
variable {P : Program} {w : World} {K : PySem.W.Frag} {mg mb : Str → Option Value} {k : Nat} {fa a : Addr} {fd : FuncData} {x : Str} {sp : Sp} {s : Shared} {vs : List Value} {ns : List Int}
theorem script_ok (ha : s.heap.get? a = some { cls := .type "list", data := .seq vs.toArray }) (hi : IntsAre vs ns) (hl : ns.length ≤ sizeLine) : HOk P w (scriptHp K a vs ns) s.heap := fun b u h => by
  obtain ⟨e1, _, e3⟩ := scriptHp_at h
  subst e1 e3
  exact ⟨ha, by rw [List.length_map]; exact hl, vs, _, vals_ints hi, ha⟩
theorem script_read (KX : K.In s.heap) (ha : s.heap.get? a = some { cls := .type "list", data := .seq vs.toArray }) (hi : IntsAre vs ns) (hl : ns.length ≤ sizeLine) : SqL K (scriptHp K a vs ns) a (ns.map V.int) := by
  cases e : K.lookup a with
  | none => exact .inl (.inr ⟨_, if_pos ⟨rfl, e⟩⟩)
  | some o =>
    have e2 := KX a o e
    rw [ha] at e2
    cases e2
    have := hi.length
    exact .inr ⟨_, vs.toArray, _, e, rfl, rfl, rfl, by rw [List.size_toArray]; omega, by simpa using vals_ints hi⟩
theorem law_runG (KX : K.In s.heap) (hns : s.heap.Ns mainGlobals mg) (hb : s.heap.Ns builtinsNs mb) (hbb : ∀ x : Str, x ≠ "__name__" → mb x = bootBuiltins x) (hlim : s.heap.NoLimit) (hg : s.gens = #[])
    (ha : s.heap.get? a = some { cls := .type "list", data := .seq vs.toArray }) (hi : IntsAre vs ns) (hl : ns.length ≤ sizeLine) (hr : RG k callerA)
    (F : ∀ base : Heap, K.In base → base.Ns mainGlobals mg → FnG P w K mg base k fa fd [x] sp) (hbind : ∀ (s : Shared) (u : Value), BindsTo s fd ⟨[u], []⟩ [(x, u)])
    (hsp : ∀ H : Hp, SqL K H a (ns.map V.int) → sp [.ref a] H (fun v _ => v = .bl true) fun _ _ _ => False) :
    codeAny (model P w) callerA (.call (.ref fa) ⟨[.ref a], []⟩) (fun r s' => r = .ok (.ret (.bool true)) ∧ OldK s.heap s'.heap ∧ s'.os = s.os ∧ AllBare s'.gens) s := by
  let H := scriptHp K a vs ns
  have hH : ∀ {b u}, H b = some u → b = a ∧ K.lookup a = none ∧ u = .frz { cls := .type "list", data := .seq vs.toArray } (.lst (ns.map V.int)) := fun h => scriptHp_at h
  have old : ∀ {b : Addr} {o : Obj}, s.heap.get? b = some o → (b = a → K.lookup a ≠ none ∨ o ≠ { cls := .type "list", data := .seq vs.toArray }) → (hidT s.heap H).get? b = some o := fun {b o} e h => by
    refine hidT_get e ?_
    cases q : H b with
    | none => rfl
    | some u =>
      obtain ⟨e1, e2, _⟩ := hH q
      subst e1
      rw [ha] at e
      rcases h rfl with z | z
      · exact absurd e2 z
      · exact absurd (Option.some.inj e).symm z
  have spaces : ∀ {b : Addr} {m : Str → Option Value}, s.heap.Ns b m → (hidT s.heap H).Ns b m := fun {b m} ⟨o, es, ep, e, d, r⟩ =>
    ⟨o, es, ep, old e fun _ => .inr fun z => by rw [z] at d; exact Data.noConfusion d, d, r⟩
  have inB : K.In (hidT s.heap H) := fun b o e => old (KX b o e) fun z => .inl (by subst z; rw [e]; exact fun q => by cases q)
  have whole : Mod K mg (hidT s.heap H) := ⟨inB, spaces hns, ⟨mb, spaces hb, hbb⟩, let ⟨mc, h1, h2⟩ := hlim; ⟨mc, spaces h1, h2⟩⟩
  have ok0 : HOk P w H s.heap := script_ok ha hi hl
  have env : Env0 P w K mg (hidT s.heap H) callerA [] s H := ⟨rfl, whole, fun b o e => of_hidT e, Nat.le_of_eq (hidT_size _ _), trivial, fun b hb => (List.not_mem_nil (a := b) hb).elim, ok0, .of_eq hg⟩
  refine codeAny_mono ((F _ inB (spaces hns)).run callerA [] s H ⟨[.ref a], []⟩ [.ref a] [.ref a] _ _ hr env (hbind s (.ref a)) (.cons rfl .nil) (hsp H (script_read KX ha hi hl))) fun r s' h => ?_
  match r, h with
  | .ok (.ret u), h =>
    obtain ⟨v, H', os, bare, un, ok', rv, q⟩ := h
    cases (show v = .bl true from q)
    cases (show u = Value.bool true from rv)
    refine ⟨rfl, OldK.of_keep fun b o e => ?_, os, bare⟩
    cases q : H b with
    | none => exact un.keep b o e q (fun z => (List.not_mem_nil (a := b) z).elim) (by simp)
    | some u =>
      obtain ⟨e1, _, e3⟩ := hH q
      subst e3
      obtain ⟨f1, _⟩ := ok0 b _ q
      obtain ⟨f2, _⟩ := ok' b _ (un.frzs b _ _ q)
      rw [e] at f1
      rw [Option.some.inj f1]
      exact f2
  | .ok .next, h => exact h.elim
  | .ok .brk, h => exact h.elim
  | .ok .cont, h => exact h.elim
  | .error e, h =>
    obtain ⟨_, _, _, _, _, _, _, _, _, _, _, _, z⟩ := h
    exact z.elim
end
/-- the goal that the head leaves: from the promise of the law's def -/
theorem walk_G {l : PySem.W.OpenLaw} {n k : Nat} {q : Program} {loose : List Str} {XP : (Str → Option Value) → Heap → Prop} {YP : World → Heap → Prop} {d : DefRec} {x : Str} (hn : l.most = some n) (hn2 : n ≤ sizeLine) (hdf : d.params.defaults = []) (hr : RG k callerA)
    (F : ∀ (w : World) (mg : Str → Option Value) (fa : Addr) (h : Heap), YP w h → h.Ns mainGlobals mg → mg d.name = some (.ref fa) → ∃ (K : PySem.W.Frag) (fd : FuncData) (sp : Sp), K.In h ∧ (∀ (s : Shared) (u : Value), BindsTo s fd ⟨[u], []⟩ [(x, u)]) ∧
      (∀ (H : Hp) (a : Addr) (ns : List Int), ns.length ≤ n → SqL K H a (ns.map V.int) → sp [.ref a] H (fun v _ => v = .bl true) fun _ _ _ => False) ∧ ∀ base : Heap, K.In base → base.Ns mainGlobals mg → FnG l.prog w K mg base k fa fd [x] sp) :
    PySem.W.WalkO q loose XP YP l.row.toRowW d [] (fun f vs => PySem.call f vs) :=
  Att.attach_call hn hdf fun w s0 s1 mg mb fa o pm cd doc a vs ns G Y ho hd hcd hmg hobj hints hlen hg => by
    obtain ⟨K, fd, sp, KX, hb, hsp, hF⟩ := F w mg fa _ Y G.T.g hmg
    exact law_runG KX G.T.g G.T.b G.T.builtins G.T.nolimit hg hobj hints (Nat.le_trans hlen hn2) hr hF hb fun H hS => hsp H a ns hlen hS
/-- the law's def over the script -/
theorem law_sp {K : PySem.W.Frag} {H : Hp} {a : Addr} {ns : List Int} {f : ST [] → ST [(0, .sh .scr)] → R Bool} {p : Nat} (hS : SqL K H a (ns.map V.int)) (h : f () (ns, ()) = .ok true) (hp : p = 1) : spF R K 1 p [] [(0, .sh .scr)] (.sh .bool) f [.ref a] H (fun v _ => v = .bl true) (fun _ _ _ => False) := by
  subst hp
  have key : ∃ S : Hp, Sub S H ∧ SqL K S a (ns.map V.int) := by
    rcases hS with (h1 | ⟨o, h1⟩) | h1
    · exact ⟨H, fun _ _ h => h, .inl (.inl h1)⟩
    · exact ⟨H, fun _ _ h => h, .inl (.inr ⟨o, h1⟩)⟩
    · exact ⟨H, fun _ _ h => h, .inr h1⟩
  obtain ⟨S, sub, hq⟩ := key
  refine ⟨rfl, (), (ns, ()), (), S, [], [], ⟨sub, fun b hb => by simp at hb, by simp, rfl, rfl, ⟨[], [], rfl, ⟨rfl, _, rfl, a, rfl, hq⟩, rfl⟩, rfl⟩, ?_⟩
  show PostE R K 1 _ H S [] (.sh .bool) _ _ (f () (ns, ()), ())
  rw [h]
  intro v H' S' O1 st hw se
  obtain ⟨_, u, e, r⟩ := se
  cases e
  exact r
end Tp

set_option Elab.async false
set_option linter.all false
set_option maxRecDepth 100000
set_option maxHeartbeats 4000000
/-! Tp29: == of texts; list(range(..)); an owned list moved; spoiled lists; a call with a new pot; several fields at once. -/
namespace Tp
open PySem PySem.Spec L2
open PyProof.Rows hiding St

section
variable {C : Cf}
theorem dec_strS {i j : Str} : decide (V.str i = V.str j) = decide (i = j) := by
  by_cases h : i = j
  · subst h; simp
  · simp [h]
theorem cm2_eqS : Cm2 C .Eq TY.str TY.str (fun i j => decide (i = j)) := fun X g => OpR.imp op_eq fun x y H Q q => by
  obtain ⟨i, j, S, _, rfl, rfl, k⟩ := q
  exact ⟨rfl, by rw [dec_strS]; exact k⟩
theorem cm2_neS : Cm2 C .NotEq TY.str TY.str (fun i j => !decide (i = j)) := fun X g => OpR.imp op_ne fun x y H Q q => by
  obtain ⟨i, j, S, _, rfl, rfl, k⟩ := q
  exact ⟨rfl, by rw [dec_strS]; exact k⟩
theorem dec_blB {i j : Bool} : decide (V.bl i = V.bl j) = decide (i = j) := by cases i <;> cases j <;> rfl
theorem cm2_eqB : Cm2 C .Eq TY.bool TY.bool (fun i j => decide (i = j)) := fun X g => OpR.imp op_eq fun x y H Q q => by
  obtain ⟨i, j, S, _, rfl, rfl, k⟩ := q
  exact ⟨rfl, by rw [dec_blB]; exact k⟩
theorem cm2_neB : Cm2 C .NotEq TY.bool TY.bool (fun i j => !decide (i = j)) := fun X g => OpR.imp op_ne fun x y H Q q => by
  obtain ⟨i, j, S, _, rfl, rfl, k⟩ := q
  exact ⟨rfl, by rw [dec_blB]; exact k⟩
end

/-! ### list(range(..)) -/
def rgL (i j : Int) : Option (List Int) := if 0 ≤ i ∧ i ≤ 16777216 ∧ 0 ≤ j ∧ j ≤ 16777216 then some (upTo i (j - i).toNat) else none
theorem rgV_upTo {i j : Int} : rgV i j = (upTo i (j - i).toNat).map V.int := by
  unfold rgV upTo
  rw [List.map_map]; rfl
section
variable {M : Type → Type} [Eff M] {C : Cf} {G : Ctx}
theorem ints_rep {K : PySem.W.Frag} {S : Hp} : ∀ {xs : List Int}, RepL K S (xs.map (TY.enc .int)) (xs.map V.int)
  | [] => rfl
  | x :: xs => ⟨_, _, rfl, rfl, ints_rep⟩
def EJ.listRg1 {e : Expr} {q p pos : Pos} (x : EJ M C G e (.sh .int)) (hm : C.T.mg ("list" : Str) = none) (hm2 : C.T.mg ("range" : Str) = none) (hg : C.sc.names.lookup ("list" : Str) = some NameKind.globalImplicit := by rfl) (hg2 : C.sc.names.lookup ("range" : Str) = some NameKind.globalImplicit := by rfl)
    (h1 : ∀ env, starEach [e] env = (false, eval e env) :: starEach [] env := by intro _; rfl) (h2 : ∀ env, starEach [.Call (.Name "range" q) [e] [] p] env = (false, eval (.Call (.Name "range" q) [e] [] p) env) :: starEach [] env := by intro _; rfl) {q2 : Pos} :
    EJ M C G (.Call (.Name "list" q2) [.Call (.Name "range" q) [e] [] p] [] pos) (.o1 .int) where
  den s := x.den s >>= fun j => optM (rgL 0 j)
  ok X Wx g tk := by
    refine PE.imp (pe_listRg g.calm (g.gl hg) (by rw [g.mg]; exact hm) (prg_1 (g.gl hg2) (by rw [g.mg]; exact hm2) (x.ok X Wx g tk) (h1 _)) (h2 _)) fun σ H Q q => ?_
    obtain ⟨s, w, S, Ow, O, sat, k⟩ := q
    refine step_E sat k fun j w1 v1 H1 S1 st1 sat1 rp1 k1 => ?_
    cases (show v1 = V.int j from rp1)
    rw [run_optM] at k1
    refine ⟨j, rfl, ?_⟩
    unfold rgL at k1
    by_cases h : (0 : Int) ≤ 0 ∧ (0 : Int) ≤ 16777216 ∧ 0 ≤ (j : Int) ∧ (j : Int) ≤ 16777216
    · rw [if_pos h] at k1
      refine ⟨RgOk.of_le h.1 h.2.2.2 h.2.1 h.2.2.1, fun q hq => ?_⟩
      have n1 := ESt.new1 (o := .lst (rgV 0 j)) (ESt.refl (Ow := Ow) sat1.sub) hq
      refine k1 (.ref q) _ S1 [q] n1 (ws_new sat1.ws hq) ⟨q, _, rfl, rfl, upd_same, ?_⟩
      rw [rgV_upTo]
      exact ints_rep
    · rw [if_neg h] at k1; exact k1.elim
def EJ.listRg2 {e e2 : Expr} {q p pos : Pos} (x : EJ M C G e (.sh .int)) (y : EJ M C G e2 (.sh .int)) (hm : C.T.mg ("list" : Str) = none) (hm2 : C.T.mg ("range" : Str) = none) (hg : C.sc.names.lookup ("list" : Str) = some NameKind.globalImplicit := by rfl) (hg2 : C.sc.names.lookup ("range" : Str) = some NameKind.globalImplicit := by rfl)
    (h1 : ∀ env, starEach [e, e2] env = (false, eval e env) :: starEach [e2] env := by intro _; rfl) (h3 : ∀ env, starEach [e2] env = (false, eval e2 env) :: starEach [] env := by intro _; rfl) (hp : ∀ env, (backTo p (starEach [e2] env)).any (·.1) = false := by intro _; rfl) (h2 : ∀ env, starEach [.Call (.Name "range" q) [e, e2] [] p] env = (false, eval (.Call (.Name "range" q) [e, e2] [] p) env) :: starEach [] env := by intro _; rfl) {q2 : Pos} :
    EJ M C G (.Call (.Name "list" q2) [.Call (.Name "range" q) [e, e2] [] p] [] pos) (.o1 .int) where
  den s := x.den s >>= fun i => y.den s >>= fun j => optM (rgL i j)
  ok X Wx g tk := by
    refine PE.imp (pe_listRg g.calm (g.gl hg) (by rw [g.mg]; exact hm) (prg_2 (g.gl hg2) (by rw [g.mg]; exact hm2) (x.ok X Wx g tk) (y.ok X Wx g tk) (h1 _) (h3 _) (hp _)) (h2 _)) fun σ H Q q => ?_
    obtain ⟨s, w, S, Ow, O, sat, k⟩ := q
    refine step_E sat k fun i w1 v1 H1 S1 st1 sat1 rp1 k1 => ?_
    cases (show v1 = V.int i from rp1)
    refine step_E sat1 k1 fun j w2 v2 H2 S2 st2 sat2 rp2 k2 => ?_
    cases (show v2 = V.int j from rp2)
    rw [run_optM] at k2
    refine ⟨i, j, rfl, rfl, ?_⟩
    unfold rgL at k2
    by_cases h : 0 ≤ (i : Int) ∧ (i : Int) ≤ 16777216 ∧ 0 ≤ (j : Int) ∧ (j : Int) ≤ 16777216
    · rw [if_pos h] at k2
      refine ⟨RgOk.of_le h.1 h.2.2.2 h.2.1 h.2.2.1, fun q hq => ?_⟩
      have n1 := ESt.new1 (o := .lst (rgV i j)) (ESt.refl (Ow := Ow) sat2.sub) hq
      refine k2 (.ref q) _ S2 [q] n1 (ws_new sat2.ws hq) ⟨q, _, rfl, rfl, upd_same, ?_⟩
      rw [rgV_upTo]
      exact ints_rep
    · rw [if_neg h] at k2; exact k2.elim
end

/-! ### an owned list taken out of its slot -/
section
variable {M : Type → Type} [Eff M] {C : Cf} {ro rw_ rw1 rw' : Ctx} {r : SE} {o : OZ rw' r}
theorem ol_ne {e : SE} (h : isOl e = true) : e ≠ .un := fun z => by subst z; cases h
def EM.move (i : Nat) {x : Str} {p : Pos} (h0 : isOl (at_ i rw_) = true := by rfl) (hN : C.N[i]? = some x := by rfl) (hv : Vis C.sc x := by first | exact Or.inl rfl | exact Or.inr (Or.inl rfl) | exact Or.inr (Or.inr rfl))
    (hd : (x == ("__debug__" : Str)) = false := by first | decide | exact of_decide_eq_true rfl) (hcd : (x == ("__classdict__" : Str)) = false := by first | decide | exact of_decide_eq_true rfl) : EM M C ro rw_ (.Name x p) (Tp.del i rw_) (at_ i rw_) where
  den c m := pure (ST.del i rw_ m, ST.get i rw_ m)
  ok X Wx g tk := by
    refine PE.imp (pe_var (g.name hN) (g.vis hv) hd hcd) fun σ H Q q => ?_
    obtain ⟨c, m, w, S, Ow, Oc, O, x, k⟩ := q
    rw [Eff.run_pure] at k
    obtain ⟨Oi, O', q1, q2, q3⟩ := SatL.take1 i x.es (ol_ne h0)
    obtain ⟨l, vs0, e1, e2⟩ := ol_list h0 q2
    have hp : O.Perm (O' ++ Oi) := q1.trans List.perm_append_comm
    have nO : O.Nodup := (List.nodup_append.mp (List.nodup_append.mp x.nd).2.1).2.1
    have st : SSt H S Ow O (O' ++ Oi) H S := (x.sstE (ESt.refl x.sub)).widen (fun a h => h) (fun a ha => .inr (hp.mem_iff.mpr ha)) (hp.nodup nO)
    exact ⟨.ref l, join_some e1, k (.ref l) H S O' Oi st x.ws q3 (by rw [← e1]; exact q2)⟩
/-! ### a list that is not to be read any more -/
def olLen : (e : SE) → e.T → Nat
  | .o1 _, x => List.length x
  | .o2 _, x => List.length x
  | .oj, n => n
  | _, _ => 0
theorem rows_len {K : PySem.W.Frag} {S H : Hp} : ∀ {xs : List (List PV)} {bs : List Addr}, Rows K S H xs bs → bs.length = xs.length
  | [], _, h => by cases h; rfl
  | x :: xs, _, h => by obtain ⟨b, r, vs, rfl, _, _, h⟩ := h; simp [rows_len h]
theorem ol_len {K : PySem.W.Frag} {S H : Hp} : ∀ {e : SE} {x : e.T} {v : Option V} {O : List Addr}, isOl e = true → SatE K S H e x v O → ∃ a vs, v = some (.ref a) ∧ H a = some (.lst vs) ∧ a ∈ O ∧ vs.length = olLen e x
  | .o1 t, x, v, O, _, h => by obtain ⟨a, vs, e1, e2, e3, e4⟩ := h; exact ⟨a, vs, e2, e3, by simp [e1], by rw [e4.len]; exact List.length_map ..⟩
  | .o2 t, x, v, O, _, h => by
    obtain ⟨a, bs, e1, e2, e3, e4⟩ := h
    exact ⟨a, _, e2, e3, by simp [e1], by rw [List.length_map, rows_len e4]; exact List.length_map ..⟩
  | .oj, x, v, O, _, h => by obtain ⟨a, vs, e1, e2, e3, e4⟩ := h; exact ⟨a, _, e2, e3, by simp [e1], e4⟩
def oneMore (n : Nat) : Option Nat := if n < sizeLine then some (n + 1) else none
/-- x.append(e): x is not read any more -/
def EM.spoil {x : Str} {p apos cpos : Pos} {e : Expr} {u : TY} (i : Nat) (arg : EM M C ro rw_ e rw1 (.sh u)) (h0 : isOl (at_ i rw_) = true := by rfl) (h1 : isOl (at_ i rw1) = true := by rfl) (hk : (rw1.map (·.1)).Nodup := by first | decide | exact of_decide_eq_true rfl) (hN : C.N[i]? = some x := by rfl) (hv : Vis C.sc x := by first | exact Or.inl rfl | exact Or.inr (Or.inl rfl) | exact Or.inr (Or.inr rfl))
    (hd : (x == ("__debug__" : Str)) = false := by first | decide | exact of_decide_eq_true rfl) (hcd : (x == ("__classdict__" : Str)) = false := by first | decide | exact of_decide_eq_true rfl)
    (hbase : ∀ env, attributeBase (.Name x p) ("append" : Str) env (eval (.Name x p) env) = eval (.Name x p) env := by intro _; rfl) (hfew : ∀ env, ((backTo cpos (starEach [e] env)).all (fun x => !x.1) && (backToKw cpos (keywordEach [] env)).all (fun x => x.1.isSome)
      && decide ([e].length + ([] : List Keyword).length + (if ([] : List Keyword).isEmpty then 0 else 1) < 30)) = true := by intro _; rfl) (hline : (apos.endLine == cpos.line) = true := by rfl) (hs : ∀ env, starEach [e] env = (false, eval e env) :: starEach [] env := by intro _; rfl) :
    EM M C ro rw_ (.Call (.Attribute (.Name x p) "append" apos) [e] [] cpos) (put i .oj rw1) (.sh .non) where
  den c m := arg.den c m >>= fun y => optM (oneMore (olLen _ (ST.get i rw1 y.1))) >>= fun n => pure (ST.put i .oj n rw1 y.1, ())
  ok X Wx g tk := by
    refine PE.imp (pe_bm PySem.F.plainAttrs_list PySem.F.slot_list_append PySem.F.type_list_append mt_append (pe_var (g.name hN) (g.vis hv) hd hcd) (pa_cons (arg.ok X Wx g tk) pa_nil (hs _)) (hbase _) (hfew _) hline (hs _) rfl) fun σ H Q q => ?_
    obtain ⟨c, m, w, S, Ow, Oc, O, x, k⟩ := q
    obtain ⟨Oi, _, se0⟩ := SatL.get i x.es (ol_ne h0)
    obtain ⟨l, vs0, e1, e2⟩ := ol_list h0 se0
    refine ⟨.ref l, join_some e1, .inl ⟨rfl, vs0, SqL.of e2⟩, ?_⟩
    refine stepM (fun H S O o => PostM M C.T.K C.p σ H S Ow O (put i .oj rw1) (.sh .non) (fun cls d H' => Wx cls d σ H') Q o) x k (fun b w' z => z) (fun _ z => z) fun y w1 v1 H1 S1 O1 P1 st1 hw1 es1 sa k1 => ?_
    obtain ⟨rfl, sa⟩ := sh_none sa
    rw [List.append_nil] at st1
    rw [run_opt] at k1
    obtain ⟨Oa, Ob, Oc', q1, q2, q3⟩ := es1.chg i (ol_ne h1) (by exact hk)
    obtain ⟨l', vs1, a2, a3, a4, a5⟩ := ol_len h1 q2
    rw [e1] at a2
    cases a2
    unfold oneMore at k1
    by_cases hz : olLen _ (ST.get i rw1 y.1) < sizeLine
    · rw [if_pos hz] at k1
      dsimp only at k1
      rw [Eff.run_pure] at k1
      refine ⟨l, vs1, v1, rfl, rfl, a3, by rw [a5]; exact hz, ?_⟩
      have hl : l ∈ O1 := by rw [q1]; simp [a4]
      have hnd := st1.n1
      rw [q1] at hnd
      obtain ⟨n1, n2, n3⟩ := List.nodup_append.mp hnd
      obtain ⟨n4, n5, n6⟩ := List.nodup_append.mp n2
      have hdl : ∀ a ∈ Oa ++ Oc', a ≠ l := fun a ha z => by
        subst z
        rcases List.mem_append.mp ha with h | h
        · exact n3 a h a (List.mem_append_left _ a4) rfl
        · exact n6 a a4 a h rfl
      have hsub : ∀ a ∈ Oa ++ ([l] ++ Oc'), a ∈ O1 := fun a ha => by
        rw [q1]
        rcases List.mem_append.mp ha with h | h
        · exact List.mem_append_left _ h
        · rcases List.mem_append.mp h with h | h
          · simp at h; subst h; simp [a4]
          · simp [h]
      have nn : (Oa ++ ([l] ++ Oc')).Nodup := List.nodup_append.mpr ⟨n1, List.nodup_append.mpr ⟨by simp, n5, fun a ha b hb e => by
        simp at ha; subst ha; exact n6 a a4 b hb e⟩, fun a ha b hb e => by
        rcases List.mem_append.mp hb with h | h
        · simp at h; subst h; exact n3 a ha b (List.mem_append_left _ a4) e
        · exact n3 a ha b (List.mem_append_right _ h) e⟩
      have stP : SSt H S Ow O (Oa ++ ([l] ++ Oc')) H1 S1 := ⟨st1.ext, st1.fr, st1.th, st1.new, st1.sub, fun a ha => st1.o1 a (hsub a ha), nn⟩
      refine k1 .non _ S1 (Oa ++ ([l] ++ Oc')) [] (by rw [List.append_nil]; exact stP.mut (by simp)) ?_ ?_ ⟨rfl, _, rfl, rfl⟩
      · refine Eff.ws_mono hw1 fun d hd => upd_ne fun z => ?_
        subst z
        rcases (st1.o1 d hl).1 with h | h
        · obtain ⟨o, eo⟩ := Eff.ws_there x.ws d hd; rw [h] at eo; cases eo
        · exact (List.nodup_append.mp x.nd).2.2 d hd d (by simp [h]) rfl
      · exact q3 .oj _ [l] S1 (upd H1 l (.lst (vs1 ++ [v1]))) ⟨l, _, rfl, e1, upd_same, by rw [List.length_append, a5]; rfl⟩ (fun _ _ h => h) (fun a ha => upd_ne (hdl a ha))
    · rw [if_neg hz] at k1; exact k1.elim
end
end Tp

set_option Elab.async false
set_option linter.all false
set_option maxRecDepth 100000
set_option maxHeartbeats 4000000
/-! Tp30: a call with a new pot; a walk over an owned list of owned lists; several fields at once. -/
namespace Tp
open PySem PySem.Spec L2
open PyProof.Rows hiding St

/-! ### f(pot): the pot is new and is not kept -/
def potDo {A : Type} (m : PM A) : List Int → R A
  | [a, b] => (m (a, b)).1
  | _ => .bad
section
variable {M : Type → Type} [Eff M] {C : Cf} {G : Ctx}
def EJ.callPot {x : Str} {k : Nat} {ps : List Str} {e : Expr} {r : SE} {f : ST [] → ST [] → PM r.T} {pos p : Pos} (F : Fn C.T k x ps (spF PM C.T.K ps.length 0 [] [] r f)) (a : EJ M C G e (.o1 .int)) (hk : k ≤ C.k := by first | decide | exact of_decide_eq_true rfl) (hn : ps.length = 1 := by rfl)
    (hg : C.sc.names.lookup x = some .globalImplicit := by rfl) (hd : (x == ("__debug__" : Str)) = false := by first | decide | exact of_decide_eq_true rfl)
    (he : ∀ env, starEach [e] env = (false, eval e env) :: starEach [] env := by intro _; rfl) (hpl : ∀ env, (backTo pos (starEach [] env)).any (·.1) = false := by intro _; rfl) : EJ M C G (.Call (.Name x p) [e] [] pos) r where
  den s := a.den s >>= fun l => Eff.lift (potDo (f () ()) l)
  ok X Wx g tk := by
    obtain ⟨fa, fd, h1, h2, h3, h4⟩ := F.ex
    refine PE.imp (pe_callG (g.fnok h3) (g.room.mono hk) (g.gl hg) (by rw [g.mg]; exact h1) (by rw [g.K]; exact h2) (by rw [g.K]; exact h4) .nil (passG tk) (pa_cons (a.ok X Wx g tk) pa_nil (he _)) hd (he _) (hpl _)) fun σ H Q q => ?_
    obtain ⟨s, w, S, Ow, O, x, kk⟩ := q
    refine ⟨s, w, S, Ow, O, x, ?_⟩
    cases e2 : Eff.run (a.den s) w with
    | mk o w1 =>
      cases o with
      | er b => rw [run_er _ e2] at kk; exact kk
      | bad => rw [run_bad' _ e2] at kk; exact kk
      | ok l =>
        rw [run_ok _ e2, Eff.run_lift] at kk
        intro v H1 S1 O1 st1 hw1 se
        obtain ⟨a0, vs, rfl, h5v, h5, h6⟩ := se
        cases h5v
        have h6' := repL_ints h6
        subst h6'
        match l, kk, h5 with
        | [], kk, _ => exact kk.elim
        | [_], kk, _ => exact kk.elim
        | _ :: _ :: _ :: _, kk, _ => exact kk.elim
        | [i, j], kk, h5 =>
          have hS0 : S1 a0 = none := (st1.o1 a0 (by simp)).2
          have hH0 : H a0 = none := (st1.o1 a0 (by simp)).1
          refine ⟨by simp [hn], (), (), (i, j), S1, [a0], [], ⟨st1.sub, fun b hb => by simp at hb; subst hb; exact hS0, by simp, ⟨a0, rfl, rfl, h5⟩, rfl, rfl, by simp [hn]⟩, ?_⟩
          show PostE PM _ 0 _ _ _ _ _ _ _ (f () () (i, j))
          have kk' : PostE M C.T.K C.p σ H S Ow r (fun cls d H' => Wx cls d σ H') Q ((f () () (i, j)).1, w1) := kk
          have na : ∀ b o, H b = some o → b ∉ [a0] := fun b o e z => by simp at z; subst z; rw [hH0] at e; cases e
          have wsm : ∀ {H' S' O2}, ESt H1 S1 [a0] O2 H' S' → Eff.ws w1 (σ[C.p]?.join) H' Ow := fun st => Eff.ws_mono hw1 fun b hb => by
            obtain ⟨ob, eb⟩ := Eff.ws_there x.ws b hb
            obtain ⟨o1, e1⟩ := st1.th b ob eb
            rw [e1]
            exact st.fr b o1 (na b ob eb) e1
          have tr : ∀ {H' S' O2}, ESt H1 S1 [a0] O2 H' S' → ESt H S Ow O2 H' S' := fun st => ⟨st1.ext.trans st.ext, fun b o hb e => st.fr b o (na b o e) (st1.fr b o hb e), fun b o e => by
            obtain ⟨o1, e1⟩ := st1.th b o e
            exact st.th b o1 e1, fun b o e => by
            rcases st.new b o e with z | z
            · exact st1.new b o z
            · exact .inr (none_of_th st1.th z), st.sub, fun b hb => ⟨none_of_th st1.th (st.o1 b hb).1, (st.o1 b hb).2⟩, st.n1⟩
          cases e4 : f () () (i, j) with
          | mk o2 w2 =>
            rw [e4] at kk'
            cases o2 with
            | ok y => exact fun v H' S' O2 st hw se => kk' v H' S' O2 (tr st) (wsm st) se
            | er y => exact fun cls d H' S' st hw er => kk' cls d H' S' (tr st) (wsm st) er
            | bad => exact kk'
end

/-! ### a walk over the rows of an owned list of owned lists; behind it the list is not read any more -/
section
variable {M : Type → Type} [Eff M]
theorem run_loopN {X A : Type} {f : X → A → M A} {x : X} {xs : List X} {m : A} {w : Eff.W M} : Eff.run (loopN f (x :: xs) m) w = match Eff.run (f x m) w with
    | (.ok m', w') => Eff.run (loopN f xs m') w'
    | (.er b, w') => (.er b, w')
    | (.bad, w') => (.bad, w') := by
  show Eff.run (f x m >>= _) w = _
  rw [Eff.run_bind]
  cases Eff.run (f x m) w with
  | mk o w' => cases o <;> rfl
theorem rows_drop {K : PySem.W.Frag} {S H : Hp} {x : List PV} {xs : List (List PV)} {bs : List Addr} {k : Nat} (hk : k < bs.length) (h : Rows K S H (x :: xs) (bs.drop k)) : ∃ vs, H bs[k] = some (.lst vs) ∧ RepL K S x vs ∧ Rows K S H xs (bs.drop (k + 1)) := by
  obtain ⟨b, r, vs, e, h1, h2, h3⟩ := h
  rw [List.drop_eq_getElem_cons hk] at e
  cases e
  exact ⟨vs, h1, h2, h3⟩
variable {C : Cf} {ro rw_ rw' rw1 rwE : Ctx} {r : SE} {o : OZ rw' r}
def SJ.forRows {x y : Str} {p1 p2 pos : Pos} {body sts : List Stmt} {t : TY} (i j : Nat) (cl : List Nat) (h0 : at_ i (pick (i :: cl) rw_) = .o2 t)
    (b : SJ M C ((i, .un) :: (drp (i :: cl) rw_ ++ ro)) ((j, .o1 t) :: Tp.del i (pick (i :: cl) rw_)) body (OZ.n rwE r)) (rest : SJ M C ro ((i, .oj) :: (Tp.del i (pick (i :: cl) rw_) ++ drp (i :: cl) rw_)) sts o)
    (hE : pick cl rwE = Tp.del i (pick (i :: cl) rw_) := by rfl) (hN : C.N[i]? = some x := by rfl) (hv : Vis C.sc x := by first | exact Or.inl rfl | exact Or.inr (Or.inl rfl) | exact Or.inr (Or.inr rfl)) (hd : (x == ("__debug__" : Str)) = false := by first | decide | exact of_decide_eq_true rfl) (hcd : (x == ("__classdict__" : Str)) = false := by first | decide | exact of_decide_eq_true rfl)
    (hNj : C.N[j]? = some y := by rfl) (hlj : Loc C.sc y := by first | exact Or.inl rfl | exact Or.inr rfl) (hfj : C.fb y = true ∨ C.sc.names.lookup y = some .local := by first | exact Or.inl rfl | exact Or.inr rfl) (hj1 : j ∉ (Tp.del i (pick (i :: cl) rw_)).map (·.1) := by first | decide | exact of_decide_eq_true rfl) (hj2 : j ∉ (drp (i :: cl) rw_ ++ ro).map (·.1) := by first | decide | exact of_decide_eq_true rfl) (hjp : j ≠ C.p := by first | decide | exact of_decide_eq_true rfl) (hij : i ≠ j := by first | decide | exact of_decide_eq_true rfl) (hip : i ∉ (drp (i :: cl) rw_ ++ ro).map (·.1) := by first | decide | exact of_decide_eq_true rfl)
    (hjl : j < C.N.length := by first | decide | exact of_decide_eq_true rfl) (nf : ∀ env z, foldedSetIterable (.Name x p1) env z = pure z := by intro _ _; rfl) : SJ M C ro rw_ (.For (.Name y p2) (.Name x p1) body [] pos :: sts) o where
  den c m := (Tp.loopN (fun z m1 => b.den ((), ST.app _ _ (ST.drp (i :: cl) rw_ m) c) (z, m1) >>= fun e => pure (cast (congrArg ST hE) (ST.pick cl rwE e))) (cast (congrArg SE.T h0) (ST.get i (pick (i :: cl) rw_) (ST.pick (i :: cl) rw_ m)) : List (List t.A)) (ST.del i (pick (i :: cl) rw_) (ST.pick (i :: cl) rw_ m)) >>= fun m1 =>
      pure (((cast (congrArg SE.T h0) (ST.get i (pick (i :: cl) rw_) (ST.pick (i :: cl) rw_ m)) : List (List t.A)).length, ST.app _ _ m1 (ST.drp (i :: cl) rw_ m)) : ST ((i, .oj) :: (Tp.del i (pick (i :: cl) rw_) ++ drp (i :: cl) rw_)))) >>= fun m1 => rest.den c m1
  ok X Wx g tk := by
    refine seq_ok (rw1 := (i, .oj) :: (Tp.del i (pick (i :: cl) rw_) ++ drp (i :: cl) rw_)) ?_ (rest.ok X Wx g tk)
    refine PS.imp (ps_for g.po g.calm (pi_list (pe_var (g.name hN) (g.toXG.vis hv) hd hcd)) (pg_name (by rw [g.n]; exact g.nd) (g.name hNj) (g.loc hlj) (hfj.elim (fun h => .inl (g.fn _ h)) fun h => .inr (by rw [g.sc]; exact h))) (b.ok X Wx g tk) (nf _)) fun D σ H q => ?_
    obtain ⟨c, m, w, S, Ow, Oc, O, x, k⟩ := q
    obtain ⟨O1, O2, hperm, es2, x0⟩ := x.split (i :: cl)
    have hmem : ∀ a, a ∈ O ↔ a ∈ O1 ∨ a ∈ O2 := fun a => by rw [hperm.mem_iff, List.mem_append]
    obtain ⟨Oi, Om, hp1, sei, esm⟩ := SatL.take1 i x0.es (by rw [h0]; exact fun z => by cases z)
    obtain ⟨a, bs, rfl, e1, e2, e3⟩ := satE_cast h0 sei
    dsimp only at k
    generalize hxs : (cast (congrArg SE.T h0) (ST.get i (pick (i :: cl) rw_) (ST.pick (i :: cl) rw_ m)) : List (List t.A)) = xs at k e3
    generalize hfd : (fun (z : List t.A) (m1 : ST (Tp.del i (pick (i :: cl) rw_))) => b.den ((), ST.app _ _ (ST.drp (i :: cl) rw_ m) c) (z, m1) >>= fun e => pure (cast (congrArg ST hE) (ST.pick cl rwE e))) = fd at k
    have hbl : bs.length = xs.length := by rw [rows_len e3, List.length_map]
    have kk : ∀ (oo : R (ST (Tp.del i (pick (i :: cl) rw_))) × Eff.W M), Eff.run (Tp.loopN fd xs (ST.del i (pick (i :: cl) rw_) (ST.pick (i :: cl) rw_ m))) w = oo → PostS M C.T.K C.p ro σ H S Ow O ((i, .oj) :: (Tp.del i (pick (i :: cl) rw_) ++ drp (i :: cl) rw_)) r Wx D (mapO (fun m1 => FL.nx ((xs.length, ST.app _ _ m1 (ST.drp (i :: cl) rw_ m)) : ST ((i, .oj) :: (Tp.del i (pick (i :: cl) rw_) ++ drp (i :: cl) rw_)))) oo) := fun oo e => by
      rw [Eff.run_bind, e] at k
      obtain ⟨oo, wN⟩ := oo
      cases oo with
      | ok fl => dsimp only at k; rw [Eff.run_pure] at k; exact k
      | er b => exact k
      | bad => exact k
    generalize hout : Eff.run (Tp.loopN fd xs (ST.del i (pick (i :: cl) rw_) (ST.pick (i :: cl) rw_ m))) w = out at kk
    have kout := kk out rfl
    have hO1m : ∀ b, b ∈ O1 ↔ b ∈ (a :: bs) ++ Om := fun b => hp1.mem_iff
    have nO1 : O1.Nodup := (List.nodup_append.mp (List.nodup_append.mp x0.nd).2.1).2.1
    have nAll : ((a :: bs) ++ Om).Nodup := hp1.nodup nO1
    have nab : (a :: bs).Nodup := (List.nodup_append.mp nAll).1
    refine ⟨.ref a, join_some e1, a, rfl, ⟨_, by rw [g.K]; exact .inl (.inl e2)⟩, ?_⟩
    rw [g.K]
    let Pv : Nat → St → Hp → Prop := fun n σi Hi => ∃ Si wi, ∃ (mi : ST (Tp.del i (pick (i :: cl) rw_))), ∃ Ok, SSt H S Ow O1 Ok Hi Si ∧ Eff.ws (M := M) wi (σ[C.p]?.join) Hi Ow ∧ SatL C.T.K Si Hi (Tp.del i (pick (i :: cl) rw_)) mi σi Ok ∧ (∀ l, l = C.p ∨ l ∈ (drp (i :: cl) rw_ ++ ro).map (·.1) ∨ l = i → σi[l]? = σ[l]?) ∧ σi.length = σ.length ∧
      (∀ b ∈ a :: bs.drop n, b ∉ Ok ∧ Si b = none) ∧ Hi a = some (.lst (bs.map V.ref)) ∧ Rows C.T.K Si Hi ((xs.drop n).map (·.map t.enc)) (bs.drop n) ∧ Eff.run (Tp.loopN fd (xs.drop n) mi) wi = out
    have hda : ∀ b ∈ a :: bs, S b = none := fun b hb => x0.dis b (by
      have : b ∈ O1 := (hO1m b).mpr (List.mem_append_left _ hb)
      simp [this])
    refine ⟨fun n mm σi Hi => mm = xs.length - n ∧ n ≤ xs.length ∧ Pv n σi Hi, ⟨xs.length, by simp, Nat.zero_le _, S, w, _, Om, (x0.sstE (ESt.refl x.sub)).widen (fun a h => h) (fun b hb => .inr ((hO1m b).mpr (List.mem_append_right _ hb))) (List.nodup_append.mp nAll).2.1, x.ws, esm, fun _ _ => rfl, rfl, fun b hb => ⟨fun z => (List.nodup_append.mp nAll).2.2 b (by simpa using hb) b z rfl, hda b (by simpa using hb)⟩, e2, by simpa using e3, hout⟩, ?_⟩
    rintro n mm σi Hi ⟨rfl, hi, Si, wi, mi, Ok, st, hws, es, hsl, hle, hrest, hia, hrows, hr⟩
    have x1 := x0.after st hws es (fun l hl => hsl l (hl.elim .inl fun z => .inr (.inl z))) hle
    have hro : ∀ j, j = C.p ∨ j ∈ ro.map (·.1) → j = C.p ∨ j ∈ (drp (i :: cl) rw_ ++ ro).map (·.1) := fun j hj => hj.imp id fun h => by rw [List.map_append]; exact List.mem_append_right _ h
    have hO2 : ∀ a ∈ O2, ∀ {Oj : List Addr} {Hj Sj : Hp}, SSt H S Ow O1 Oj Hj Sj → Sj a = none := fun a ha Oj Hj Sj sj => by
      cases e : Sj a with
      | none => rfl
      | some o =>
        rcases sj.new a o e with q | q | q
        · rw [x0.dis a (by simp [ha])] at q; cases q
        · obtain ⟨o', e'⟩ := x0.ec.there a (by simp [ha]); rw [q] at e'; cases e'
        · exact absurd rfl ((List.nodup_append.mp (List.nodup_append.mp x0.nd).2.1).2.2 a (by simp [ha]) a q)
    have disj : ∀ a ∈ O2, ∀ {Oj : List Addr} {Hj Sj : Hp}, SSt H S Ow O1 Oj Hj Sj → a ∉ Oj := fun a ha Oj Hj Sj sj hb => by
      rcases (sj.o1 a hb).1 with q | q
      · obtain ⟨o', e'⟩ := x0.ec.there a (by simp [ha]); rw [q] at e'; cases e'
      · exact absurd rfl ((List.nodup_append.mp (List.nodup_append.mp x0.nd).2.1).2.2 a (by simp [ha]) a q)
    by_cases hlt : n < xs.length
    · have hltb : n < bs.length := by omega
      refine .inr ⟨⟨_, .ref bs[n], .inl (.inl hia), by rw [List.getElem?_map, List.getElem?_eq_getElem hltb]; rfl⟩, Pv (n + 1), fun σ' H' p' => ⟨xs.length - (n + 1), by omega, rfl, hlt, p'⟩, fun v H' hyl => ?_⟩
      obtain ⟨rfl, hyl⟩ := hyl
      have hv := hyl _ (.inl (.inl hia))
      rw [List.getElem?_map, List.getElem?_eq_getElem hltb] at hv
      cases hv
      rw [List.drop_eq_getElem_cons hlt, run_loopN] at hr
      rw [List.drop_eq_getElem_cons hlt, List.map_cons] at hrows
      obtain ⟨vs, r1, r2, r3⟩ := rows_drop hltb hrows
      have hbin : bs[n] ∈ a :: bs.drop n := List.mem_cons_of_mem _ (by rw [List.drop_eq_getElem_cons hltb]; exact List.mem_cons_self)
      have hbO1 : bs[n] ∈ O1 := (hO1m _).mpr (by simp)
      have hbk := hrest _ hbin
      have ln : j < σi.length := by rw [hle, x.len]; exact hjl
      have st' : SSt H S Ow O1 (bs[n] :: Ok) H' Si := st.widen (fun a h => h) (fun b hb => by
        rcases List.mem_cons.mp hb with h | h
        · subst h; exact .inl ⟨hbO1, hbk.2⟩
        · exact .inr h) (List.nodup_cons.mpr ⟨hbk.1, st.n1⟩)
      have es' : SatL C.T.K Si H' ((j, .o1 t) :: Tp.del i (pick (i :: cl) rw_)) (xs[n], mi) (σi.set j (some (.ref bs[n]))) (bs[n] :: Ok) :=
        ⟨[bs[n]], Ok, rfl, ⟨bs[n], vs, rfl, by rw [set_self ln]; rfl, r1, r2⟩, es.set_out hj1⟩
      have hs2 : ∀ l, l = C.p ∨ l ∈ (drp (i :: cl) rw_ ++ ro).map (·.1) ∨ l = i → (σi.set j (some (.ref bs[n])))[l]? = σ[l]? := fun l hl => (set_other fun z => by
        subst z
        rcases hl with h | h | h
        · exact hjp h
        · exact hj2 h
        · exact hij h.symm).trans (hsl l hl)
      have x3 := x0.after st' hws es' (fun l hl => hs2 l (hl.elim .inl fun z => .inr (.inl z))) (by rw [List.length_set]; exact hle)
      have x4 : Sat2 M C.T.K C.p C.N.length ((i, .un) :: (drp (i :: cl) rw_ ++ ro)) ((j, .o1 t) :: Tp.del i (pick (i :: cl) rw_)) ((), ST.app _ _ (ST.drp (i :: cl) rw_ m) c) (xs[n], mi) wi (σi.set j (some (.ref bs[n]))) H' Si Ow (O2 ++ Oc) (bs[n] :: Ok) := ⟨x3.sub, x3.dis, x3.nd, x3.ws, ⟨[], _, rfl, rfl, x3.ec⟩, x3.es, x3.len⟩
      have hro2 : ∀ j, j = C.p ∨ j ∈ ro.map (·.1) → j = C.p ∨ j ∈ (((i, .un) :: (drp (i :: cl) rw_ ++ ro) : Ctx)).map (·.1) := fun j hj => (hro j hj).imp id fun h => List.mem_cons_of_mem _ h
      refine ⟨_, _, wi, Si, Ow, _, _, x4, ?_⟩
      have ln2 : (σi.set j (some (.ref bs[n]))).length = σ.length := by rw [List.length_set]; exact hle
      have pj : (σi.set j (some (.ref bs[n])))[C.p]?.join = σ[C.p]?.join := by rw [hs2 _ (.inl rfl)]
      have hr' := hr
      rw [← hfd] at hr'
      dsimp only at hr'
      rw [Eff.run_bind] at hr'
      cases e : Eff.run (b.den ((), ST.app _ _ (ST.drp (i :: cl) rw_ m) c) (xs[n], mi)) wi with
      | mk o w' =>
        rw [e] at hr'
        cases o with
        | bad => rw [← hr'] at kout; exact kout
        | er eb =>
          rw [← hr'] at kout
          exact fun cls d σ' H'' S'' O'' st3 hw3 er3 hs3 hl3 => kout cls d σ' H'' S'' ([] : List Addr) ((st'.trans st3).widen (fun a ha => (hmem a).mpr (.inl ha)) (fun a ha => by cases ha) .nil) (by rw [← pj]; exact hw3) er3 (fun l hl => (hs3 l (hro2 l hl)).trans (hs2 l ((hro l hl).elim .inl fun z => .inr (.inl z)))) (hl3.trans ln2)
        | ok me =>
          dsimp only at hr'
          rw [Eff.run_pure] at hr'
          rw [hfd] at hr'
          intro σ' H'' S'' O'' st3 hw3 es3 hs3 hl3
          obtain ⟨P1, P2, q1, q2, _⟩ := es3.pick cl
          have es4 := satL_cast hE q2
          have hsub : ∀ a ∈ P1, a ∈ O'' := fun a ha => q1.mem_iff.mpr (List.mem_append_left _ ha)
          have nP1 : P1.Nodup := (List.nodup_append.mp (q1.nodup st3.n1)).1
          have st4 : SSt H' Si Ow (bs[n] :: Ok) P1 H'' S'' := ⟨st3.ext, st3.fr, st3.th, st3.new, st3.sub, fun a ha => st3.o1 a (hsub a ha), nP1⟩
          have left : ∀ b ∈ a :: bs.drop (n + 1), b ∉ bs[n] :: Ok ∧ (∃ oo, H' b = some oo) ∧ b ∉ Ow ∧ Si b = none := fun b hb => by
            have hb' : b ∈ a :: bs.drop n := by
              rcases List.mem_cons.mp hb with h | h
              · simp [h]
              · refine List.mem_cons_of_mem _ ?_
                rw [List.drop_eq_getElem_cons hltb]
                exact List.mem_cons_of_mem _ h
            have hbb : b ∈ a :: bs := by
              rcases List.mem_cons.mp hb with h | h
              · simp [h]
              · exact List.mem_cons_of_mem _ (List.mem_of_mem_drop h)
            have hbO : b ∈ O1 := (hO1m b).mpr (List.mem_append_left _ hbb)
            have hne : b ≠ bs[n] := fun z => by
              rcases List.mem_cons.mp hb with h | h
              · rw [h] at z
                exact (List.nodup_cons.mp nab).1 (by rw [z]; simp)
              · have nbs := (List.nodup_cons.mp nab).2
                have nd3 : (bs.drop n).Nodup := nbs.sublist (List.drop_sublist _ _)
                rw [List.drop_eq_getElem_cons hltb] at nd3
                exact (List.nodup_cons.mp nd3).1 (by rw [← z]; exact h)
            obtain ⟨o0, eo0⟩ := x0.es.there b hbO
            refine ⟨fun z => ?_, st.th b o0 eo0, fun z => (List.nodup_append.mp x0.nd).2.2 b z b (by simp [hbO]) rfl, (hrest b hb').2⟩
            rcases List.mem_cons.mp z with h | h
            · exact hne h
            · exact (hrest b hb').1 h
          have same : ∀ b ∈ a :: bs.drop (n + 1), H'' b = H' b := fun b hb => by
            obtain ⟨l1, ⟨oo, l2⟩, l3, _⟩ := left b hb
            rw [l2]; exact st3.fr b oo l3 l1 l2
          refine ⟨S'', w', _, P1, st'.trans st4, by rw [← pj]; exact hw3, es4, fun l hl => ?_, hl3.trans ln2, fun b hb => ?_, by rw [same a (by simp)]; exact hia, Rows.mono st3.ext r3 fun b hb => same b (List.mem_cons_of_mem _ hb), hr'⟩
          · rcases hl with h | h | h
            · exact (hs3 l (.inl h)).trans (hs2 l (.inl h))
            · exact (hs3 l (.inr (List.mem_cons_of_mem _ h))).trans (hs2 l (.inr (.inl h)))
            · exact (hs3 l (.inr (by rw [h]; exact List.mem_cons_self))).trans (hs2 l (.inr (.inr h)))
          · obtain ⟨l1, ⟨oo, l2⟩, l3, l4⟩ := left b hb
            refine ⟨fun z => ?_, ?_⟩
            · rcases (st4.o1 b z).1 with q | q
              · rw [l2] at q; cases q
              · exact l1 q
            · cases e5 : S'' b with
              | none => rfl
              | some o5 =>
                rcases st3.new b o5 e5 with q | q | q
                · rw [l4] at q; cases q
                · rw [l2] at q; cases q
                · exact absurd q l1
    · have e : n = xs.length := by omega
      subst e
      refine .inl ⟨⟨_, .inl (.inl hia), by rw [List.length_map]; omega⟩, ?_⟩
      rw [List.drop_length] at hr
      have hr' : Eff.run (pure mi : M (ST (Tp.del i (pick (i :: cl) rw_)))) wi = out := hr
      rw [Eff.run_pure] at hr'
      rw [← hr'] at kout
      have es2' : SatL C.T.K Si Hi (drp (i :: cl) rw_) (ST.drp (i :: cl) rw_ m) σi O2 := (es2.mono st.ext fun a ha => by
        obtain ⟨o, eo⟩ := x0.ec.there a (by simp [ha])
        rw [eo]
        exact st.fr a o (fun hb => absurd rfl ((List.nodup_append.mp x0.nd).2.2 a hb a (by simp [ha]))) (fun hb => absurd rfl ((List.nodup_append.mp (List.nodup_append.mp x0.nd).2.1).2.2 a (by simp [ha]) a hb)) eo).slots fun j hj => by rw [hsl j (.inr (.inl (by rw [List.map_append]; exact List.mem_append_left _ hj)))]
      have hak := hrest a (by simp)
      have haO1 : a ∈ O1 := (hO1m a).mpr (by simp)
      have nd2 : O2.Nodup := by
        have := (List.nodup_append.mp (List.nodup_append.mp x0.nd).2.1).1
        exact (List.nodup_append.mp this).1
      refine kout σi Hi Si ([a] ++ (Ok ++ O2)) (st.widen (fun a ha => (hmem a).mpr (.inl ha)) (fun b hb => ?_) ?_) hws ⟨[a], Ok ++ O2, rfl, ⟨a, _, rfl, by rw [hsl i (.inr (.inr rfl))]; exact e1, hia, by rw [List.length_map]; exact hbl⟩, SatL.app es es2'⟩ (fun j hj => hsl j ((hro j hj).elim .inl fun z => .inr (.inl z))) hle
      · rcases List.mem_append.mp hb with h | h
        · simp at h; subst h; exact .inl ⟨(hmem _).mpr (.inl haO1), hak.2⟩
        · rcases List.mem_append.mp h with h | h
          · exact .inr h
          · exact .inl ⟨(hmem _).mpr (.inr h), hO2 b h st⟩
      · refine List.nodup_append.mpr ⟨by simp, List.nodup_append.mpr ⟨st.n1, nd2, fun b hb d hd e => disj d hd st (e ▸ hb)⟩, fun b hb d hd e => ?_⟩
        simp at hb; subst hb; subst e
        rcases List.mem_append.mp hd with h | h
        · exact hak.1 h
        · exact (List.nodup_append.mp (hperm.nodup (List.nodup_append.mp (List.nodup_append.mp x.nd).2.1).2.1)).2.2 b haO1 b h rfl
end
end Tp

set_option Elab.async false
set_option linter.all false
set_option maxRecDepth 100000
set_option maxHeartbeats 4000000
/-! Tp31: several fields of an owned instance at once. -/
namespace Tp
open PySem PySem.Spec L2
open PyProof.Rows hiding St

theorem upd_self {H : Hp} {a : Addr} {o : HO} (h : H a = some o) : upd H a o = H := by
  funext b
  by_cases e : b = a
  · subst e; rw [upd_same, h]
  · exact upd_ne e
theorem satV_sh {K : PySem.W.Frag} {S H : Hp} : ∀ {as : List TY} {y : VT (as.map SE.sh)} {vs : List V} {O : List Addr}, SatV K S H (as.map SE.sh) y vs O → O = []
  | [], _, _, _, h => h.2
  | t :: as, y, vs, O, h => by
    obtain ⟨v, us, P1, P2, _, rfl, se, sv⟩ := h
    rw [se.1, satV_sh sv]; rfl
/-- fields of the instance in slot i as targets -/
structure FdT (C : Cf) (i : Nat) (c : Str) (ts : List Expr) (fs : List (Str × TY)) (as : List TY) (fs' : List (Str × TY)) where
  u : FT fs → VT (as.map SE.sh) → FT fs'
  g : PySem.W.Frag → TGs
  ok : ∀ X, SG C X → PGs X ts (g X.K)
  run : ∀ {S H : Hp} {σ : St} {Q : St → Hp → Prop} {l dx : Addr} {gs : List (Str × V)} {vs : List V} {O1 : List Addr} {x : FT fs} {y : VT (as.map SE.sh)}, σ[i]?.join = some (.ref l) → H l = some (.ins (He.ga C.T.K c) dx gs) → RepF C.T.K S (FT.enc fs x) gs → SatV C.T.K S H (as.map SE.sh) y vs O1 →
    (∀ gs', RepF C.T.K S (FT.enc fs' (u x y)) gs' → Q σ (upd H l (.ins (He.ga C.T.K c) dx gs'))) → g C.T.K vs σ H Q
def FdT.nil {C : Cf} {i : Nat} {c : Str} {fs : List (Str × TY)} : FdT C i c [] fs [] fs where
  u x _ := x
  g _ := gNil
  ok _ _ := pgs_nil
  run h1 h2 h3 h4 k := by
    obtain ⟨rfl, _⟩ := h4
    exact ⟨rfl, by have := k _ h3; rwa [upd_self h2] at this⟩
def FdT.cons {C : Cf} {i : Nat} {c x f : Str} {p pos : Pos} {ts : List Expr} {fs fs1 fs' : List (Str × TY)} {t : TY} {as : List TY} (F : FldF C.T c f) (u1 : FT fs → t.A → FT fs1) (b : FdT C i c ts fs1 as fs') (h : ∀ y z, FT.enc fs1 (u1 y z) = putP f (t.enc z) (FT.enc fs y) := by intro _ _; rfl)
    (hN : C.N[i]? = some x := by rfl) (hv : Vis C.sc x := by first | exact Or.inl rfl | exact Or.inr (Or.inl rfl) | exact Or.inr (Or.inr rfl)) (hd : (x == ("__debug__" : Str)) = false := by first | decide | exact of_decide_eq_true rfl) (hcd : (x == ("__classdict__" : Str)) = false := by first | decide | exact of_decide_eq_true rfl) (hl : fs.length < 1000 := by first | decide | exact of_decide_eq_true rfl)
    (hs : ∀ env, (assignEach (.Attribute (.Name x p) f pos :: ts) env).map (·.2) = assign (.Attribute (.Name x p) f pos) env :: (assignEach ts env).map (·.2) := by intro _; rfl) : FdT C i c (.Attribute (.Name x p) f pos :: ts) fs (t :: as) fs' where
  u y z := b.u (u1 y z.1) z.2
  g K := gCons (gFld K (tVar i) f) (b.g K)
  ok X g := pgs_cons (pg_fld (pe_var (g.name hN) (g.toXG.vis hv) hd hcd)) (b.ok X g) (hs _)
  run {S H σ Q l dx gs vs O1 y z} h1 h2 h3 h4 k := by
    obtain ⟨v, us, P1, P2, rfl, rfl, se, sv⟩ := h4
    obtain ⟨q1, vv, q2, rp⟩ := se
    cases q1; cases q2
    have hl' : gs.length < 1000 := by rw [h3.len, ft_len]; exact hl
    refine ⟨_, us, rfl, .ref l, join_some h1, l, _, dx, gs, rfl, h2, F.cl, F.no, hl', ?_⟩
    refine b.run (S := S) h1 upd_same (by rw [h]; exact RepF.put rp h3) (sv.mono (fun _ _ h => h) fun a ha => by rw [satV_sh sv] at ha; cases ha) fun gs' r => ?_
    rw [upd_upd]; exact k gs' r

section
variable {M : Type → Type} [Eff M] {C : Cf} {ro rw_ rw' : Ctx} {r : SE} {o : OZ rw' r}
/-- x.f, x.g, .. = a, b, .. -/
def SJ.setFs (i : Nat) {c : Str} {ts es : List Expr} {fs fs' : List (Str × TY)} {as : List TY} {kt k2 : Nat} {pt p2 pos : Pos} {sts : List Stmt} (T : FdT C i c ts fs as fs') (a : VJ M C (rw_ ++ ro) es (as.map SE.sh)) (rest : SJ M C ro (put i (.oi c fs') rw_) sts o) (h0 : at_ i rw_ = .oi c fs := by rfl)
    (hw : ∀ env : Env, swappedStores [.Tuple ts kt pt] (.Tuple es k2 p2) env = pure none := by first | (intro _; rfl) | (intro env; unfold swappedStores; generalize env.blockKind = bk; cases bk <;> rfl)) (hl : es.length = ts.length := by rfl) (hla : as.length = ts.length := by rfl) (hn : ∀ env, (assignEach ts env).length = ts.length := by intro _; rfl) (hst : ∀ env, (assignEach ts env).findIdx? (·.1) = none := by intro _; rfl)
    (h1 : ∀ env, (assignEach [.Tuple ts kt pt] env).map (·.2) = [assign (.Tuple ts kt pt) env] := by intro _; rfl) (hs : ∀ env, swapsWithSole [.Tuple ts kt pt] (.Tuple es k2 p2) pos.line env = pure false := by intro _; rfl) (hz : ts.length ≤ 1000 := by first | decide | exact of_decide_eq_true rfl)
    (hk : (rw_.map (·.1)).Nodup := by first | decide | exact of_decide_eq_true rfl) : SJ M C ro rw_ (.Assign [.Tuple ts kt pt] (.Tuple es k2 p2) pos :: sts) o where
  den c m := a.den (ST.app rw_ ro m c) >>= fun v => rest.den c (ST.put i (.oi _ fs') (T.u (cast (congrArg SE.T h0) (ST.get i rw_ m)) v) rw_ m)
  ok X Wx g tk := by
    have hg := pg_tup (k := kt) (pos := pt) g.calm (T.ok X g) (hn X.env) (hst X.env)
    refine PSs.imp (pss_cons (ps_asg (pe_tup (a.ok X Wx g.toXG tk)) hg (hs _) (hw _) (h1 _)) (rest.ok X Wx g tk)) fun D σ H q => ?_
    obtain ⟨cc, m, w, S, Ow, Oc, O, x, k⟩ := q
    refine ⟨_, w, S, Ow, _, x.sat, ?_⟩
    cases e1 : Eff.run (a.den (ST.app rw_ ro m cc)) w with
    | mk oo w1 =>
      cases oo with
      | er z => rw [run_er _ e1] at k; exact fun cls d H2 S2 st2 hw2 er2 => k cls d σ H2 S2 O (x.sstE st2) hw2 er2 (fun _ _ => rfl) rfl
      | bad => rw [run_bad' _ e1] at k; exact k
      | ok y =>
        rw [run_ok _ e1] at k
        intro vs H1 S1 O1 st1 hw1 sv
        have hvl := sv.len
        rw [List.length_map] at hvl
        have hO1 := satV_sh sv
        subst hO1
        refine ⟨by rw [sizeLine_eq]; omega, fun l hln => ?_⟩
        rw [g.K]
        -- the tuple is forgotten
        have hlne : ∀ a o, H1 a = some o → a ≠ l := fun a o e z => by subst z; rw [hln] at e; cases e
        have st2 : ESt H S Ow [] (upd H1 l (.tup vs)) S1 := ⟨st1.ext, fun a o h e => by rw [upd_ne (hlne _ _ (st1.fr a o h e))]; exact st1.fr a o h e, fun a o e => by
          obtain ⟨o', e'⟩ := st1.th a o e
          exact ⟨o', by rw [upd_ne (hlne _ _ e')]; exact e'⟩, st1.new, fun a o e => by rw [upd_ne (hlne _ _ (st1.sub a o e))]; exact st1.sub a o e, st1.o1, st1.n1⟩
        have hw2 : Eff.ws (M := M) w1 (σ[C.p]?.join) (upd H1 l (.tup vs)) Ow := ws_new hw1 hln
        have hn : at_ i rw_ ≠ .un := by rw [h0]; exact fun z => by cases z
        have es := x.es' st2
        obtain ⟨Oa, Oi, Ob, q1, q2, q3⟩ := es.chg i hn hk
        obtain ⟨l', dx, gs, a1, a2, a3, a4⟩ := satE_cast h0 q2
        refine ⟨l, vs, rfl, .inl (.inl upd_same), by omega, T.run (S := S1) a2 a3 a4 (sv.mono (fun _ _ h => h) fun a ha => by cases ha) fun gs' rp => ?_⟩
        have hlO : l' ∈ O := by rw [q1, a1]; simp
        have nO : O.Nodup := (List.nodup_append.mp (List.nodup_append.mp x.nd).2.1).2.1
        have hdl : ∀ b ∈ Oa ++ Ob, b ≠ l' := fun b hb z => by
          subst z
          rw [q1, a1] at nO
          obtain ⟨n1, n2, n3⟩ := List.nodup_append.mp nO
          rcases List.mem_append.mp hb with h | h
          · exact n3 b h b (by simp) rfl
          · exact (List.nodup_cons.mp n2).1 (by simpa using h)
        have es2 := q3 (.oi c fs') (T.u (cast (congrArg SE.T h0) (ST.get i rw_ m)) y) [l'] S1 (upd (upd H1 l (.tup vs)) l' (.ins (He.ga C.T.K c) dx gs')) ⟨l', dx, _, rfl, a2, upd_same, rp⟩ (fun _ _ h => h) (fun b hb => upd_ne (hdl b hb))
        have eO : Oa ++ ([l'] ++ Ob) = O := by rw [q1, a1]
        rw [eO] at es2
        have st3 : SSt H S Ow O O (upd (upd H1 l (.tup vs)) l' (.ins (He.ga C.T.K c) dx gs')) S1 := (x.sstE st2).mut hlO
        have hw3 : Eff.ws w1 (σ[C.p]?.join) (upd (upd H1 l (.tup vs)) l' (.ins (He.ga C.T.K c) dx gs')) Ow := Eff.ws_mono hw2 fun b hb => upd_ne fun z => by
          subst z
          exact (List.nodup_append.mp x.nd).2.2 b hb b (by simp [hlO]) rfl
        exact ⟨_, _, w1, S1, Ow, Oc, O, x.after st3 hw3 es2 (fun _ _ => rfl) rfl, k.pre st3 (fun _ _ => rfl) rfl⟩
end
end Tp

set_option Elab.async false
set_option linter.all false
set_option maxRecDepth 100000
set_option maxHeartbeats 4000000
/-! Tp32: a name set to a comprehension; branches that may return; an empty list of lists. -/
namespace Tp
open PySem PySem.Spec L2
open PyProof.Rows hiding St

section
variable {M : Type → Type} [Eff M] {C : Cf} {G : Ctx}
/-- a comprehension, as a value and as what a name is set to -/
structure EC (M : Type → Type) [Eff M] (C : Cf) (G : Ctx) (e : Expr) (r : SE) where
  j : EJ M C G e r
  tl : WX → TE
  imp : ∀ Wx σ H Q, σ.length = C.N.length → tE M C.T.K C.p G r j.den Wx σ H Q → tl Wx σ H Q
  ps : ∀ X Wx, XG C X → Takes X Wx → ∀ (i : Nat) (y : Str) (py spos : Pos), X.N[i]? = some y → X.env.scope.names.lookup y = some .local → swapsWith e (some (.Name y py)) spos.line X.env = pure true → PS X (.Assign [.Name y py] e spos) (tAsg (tl Wx) (gName i))
def EC.lc {elt tg iter : Expr} {ifs : List Expr} {scope : Scope} {pos : Pos} {t u : TY} {A : Ctx} {vs : List Nat} (own : List (Str × Nat)) (I : IJ M C G tg iter t) (T : TG1 (C.blk scope) tg t vs A) (c : CJ M (C.blk scope) (A ++ G) ifs) (e : EJ M (C.blk scope) (A ++ G) elt (.sh u))
    (hv : own.map (·.2) = vs := by rfl) (hb : blkC C.N C.sc scope own = true := by first | decide +kernel | (dsimp only [Cf.blk]; decide +kernel) | rfl) (hd : ∀ i ∈ vs, i ∉ G.map (·.1) := by first | decide | exact of_decide_eq_true rfl) (hp : C.p ∉ vs := by first | decide | exact of_decide_eq_true rfl) : EC M C G (.ListComp elt [⟨tg, iter, ifs, 0⟩] scope pos) (.o1 u) where
  j := EJ.lc own I T c e hv hb hd hp
  tl Wx := lcT own I T c e Wx
  imp Wx σ H Q hl q := lc_imp hv hd hp hl q
  ps X Wx g tk i y py spos hy hyl hsw := ps_setLc (own := own) g.calm (by rw [g.n]; exact g.nd) hy hyl hsw (I.ok X Wx g tk) (by rw [g.n, g.sc]; exact blkOk_by hb) (fun s H L cl fp => T.ok _ (g.blk s H L cl fp)) (fun s H L cl fp => c.ok _ (fun _ _ _ _ => False) (g.blk s H L cl fp) takes0)
      (fun s H L cl fp => e.ok _ (fun _ _ _ _ => False) (g.blk s H L cl fp) takes0) (I.nf _)
def EC.eqv {e : Expr} {r : SE} (a : EC M C G e r) (d : ST G → M r.T) (h : ∀ s w, Eff.run (a.j.den s) w = Eff.run (d s) w) : EC M C G e r where
  j := a.j.eqv d h
  tl := a.tl
  imp Wx σ H Q hl q := a.imp Wx σ H Q hl (by
    obtain ⟨s, w, S, Ow, O, x, k⟩ := q
    exact ⟨s, w, S, Ow, O, x, by rw [h]; exact k⟩)
  ps := a.ps
def EC.lcM {elt tg iter : Expr} {scope : Scope} {pos : Pos} {t u : TY} {A : Ctx} {vs : List Nat} (own : List (Str × Nat)) (I : IJ M C G tg iter t) (T : TG1 (C.blk scope) tg t vs A) (e : EP M (C.blk scope) (A ++ G) elt u)
    (hv : own.map (·.2) = vs := by rfl) (hb : blkC C.N C.sc scope own = true := by first | decide +kernel | (dsimp only [Cf.blk]; decide +kernel) | rfl) (hd : ∀ i ∈ vs, i ∉ G.map (·.1) := by first | decide | exact of_decide_eq_true rfl) (hp : C.p ∉ vs := by first | decide | exact of_decide_eq_true rfl) : EC M C G (.ListComp elt [⟨tg, iter, [], 0⟩] scope pos) (.o1 u) :=
  (EC.lc (pos := pos) own I T CJ.nil e.toEJ hv hb hd hp).eqv (fun s => I.den s >>= fun xs => pure (xs.map fun y => e.den (ST.app A G (T.f y) s))) fun s w => bind_congr (fun xs w1 => by
    rw [Eff.run_pure]
    refine noer_ok ?_
    have := compM_pure (M := M) (fun _ : t.A => true) (fun y => e.den (ST.app A G (T.f y) s)) xs w1
    rw [filter_true] at this
    exact this) w
def EC.lcF {elt tg iter c0 : Expr} {scope : Scope} {pos : Pos} {t u : TY} {A : Ctx} {vs : List Nat} (own : List (Str × Nat)) (I : IJ M C G tg iter t) (T : TG1 (C.blk scope) tg t vs A) (c : TP M (C.blk scope) (A ++ G) c0) (e : EP M (C.blk scope) (A ++ G) elt u)
    (hv : own.map (·.2) = vs := by rfl) (hb : blkC C.N C.sc scope own = true := by first | decide +kernel | (dsimp only [Cf.blk]; decide +kernel) | rfl) (hd : ∀ i ∈ vs, i ∉ G.map (·.1) := by first | decide | exact of_decide_eq_true rfl) (hp : C.p ∉ vs := by first | decide | exact of_decide_eq_true rfl) : EC M C G (.ListComp elt [⟨tg, iter, [c0], 0⟩] scope pos) (.o1 u) :=
  (EC.lc (pos := pos) own I T (CJ.one c.toJ) e.toEJ hv hb hd hp).eqv (fun s => I.den s >>= fun xs => pure ((xs.filter fun y => c.den (ST.app A G (T.f y) s)).map fun y => e.den (ST.app A G (T.f y) s))) fun s w => bind_congr (fun xs w1 => by
    rw [Eff.run_pure]
    exact noer_ok (compM_pure (M := M) (fun y => c.den (ST.app A G (T.f y) s)) (fun y => e.den (ST.app A G (T.f y) s)) xs w1)) w
def EC.share {e : Expr} {t : TY} (a : EC M C G e (.o1 t)) : EC M C G e (.sh (.list t)) where
  j := EJ.share a.j
  tl := a.tl
  imp Wx σ H Q hl q := a.imp Wx σ H Q hl (share_imp q)
  ps := a.ps
def EC.frz (l : List Nat) {e : Expr} {r : SE} [FlatE r] (a : EC M C (Tp.frz l G) e r) : EC M C G e r where
  j := EJ.frz l a.j
  tl := a.tl
  imp Wx σ H Q hl q := a.imp Wx σ H Q hl (frz_imp q)
  ps := a.ps
variable {ro rw_ rw' rw1 : Ctx} {r : SE} {o : OZ rw' r}
/-- x = [..], x a plain local on the same line -/
def SJ.setC (i : Nat) {x : Str} {e : Expr} {t : SE} {pos pos' : Pos} {sts : List Stmt} (a : EC M C (rw_ ++ ro) e t) (rest : SJ M C ro (put i t rw_) sts o) (hN : C.N[i]? = some x := by rfl) (hl : C.sc.names.lookup x = some .local := by rfl)
    (hs : ∀ env : Env, env.scope = C.sc → swapsWith e (some (.Name x pos')) pos.line env = pure true := by exact fun env h => sw_true (by rw [h]; rfl) (by rw [h]; rfl) rfl (by decide +kernel))
    (hk : (rw_.map (·.1)).Nodup := by first | decide | exact of_decide_eq_true rfl) (hi : i < C.N.length := by first | decide | exact of_decide_eq_true rfl) (hr : i ∉ ro.map (·.1) := by first | decide | exact of_decide_eq_true rfl) (hp : i ≠ C.p := by first | decide | exact of_decide_eq_true rfl) : SJ M C ro rw_ (.Assign [.Name x pos'] e pos :: sts) o where
  den c m := a.j.den (ST.app rw_ ro m c) >>= fun v => rest.den c (ST.put i t v rw_ m)
  ok X Wx g tk := by
    refine PSs.imp (pss_cons (a.ps X Wx g.toXG tk i x pos' pos (g.name hN) (by rw [g.sc]; exact hl) (hs _ g.sc)) (rest.ok X Wx g tk)) fun D σ H q => ?_
    obtain ⟨c, m, w, S, Ow, Oc, O, x, k⟩ := q
    refine a.imp _ _ _ _ x.len (stepS_E x k fun y w' v H' S' O1 st hw se k1 => ?_)
    obtain ⟨O', s2, x2, hs2, hl2⟩ := x.setSlot st hw se hk hi hr hp
    exact ⟨c, _, w', S', Ow, Oc, O', x2, k1.pre s2 hs2 hl2⟩
/-- a block that goes on, among those that may return -/
def SJ.toB {sts : List Stmt} (a : SJ M C ro rw_ sts (OZ.n rw1 r)) : SJ M C ro rw_ sts (OZ.b rw1 r) where
  den c m := a.den c m >>= fun e => pure (.nx e)
  ok X Wx g tk := by
    refine PSs.imp (a.ok X Wx g tk) fun D σ H q => ?_
    obtain ⟨c, m, w, S, Ow, Oc, O, y, k⟩ := q
    refine ⟨c, m, w, S, Ow, Oc, O, y, ?_⟩
    cases e : Eff.run (a.den c m) w with
    | mk q w' =>
      cases q with
      | ok z => rw [run_ok _ e, Eff.run_pure] at k; exact k
      | er b => rw [run_er _ e] at k; exact k
      | bad => rw [run_bad' _ e] at k; exact k
/-- if: either branch may return or go on -/
def SJ.ifB {e : Expr} {a b sts : List Stmt} {pos : Pos} (tc : TJ M C (rw_ ++ ro) e) (x : SJ M C ro rw_ a (OZ.b rw1 r)) (y : SJ M C ro rw_ b (OZ.b rw1 r)) (rest : SJ M C ro rw1 sts o) (mkR : r.T → o.Z) (hR : ∀ x, o.vw (mkR x) = .rt x := by intro _; rfl) : SJ M C ro rw_ (.If e a b pos :: sts) o where
  den c m := (tc.den (ST.app rw_ ro m c) >>= fun t => if t = true then x.den c m else y.den c m) >>= fun fl => match fl with
      | .nx m1 => rest.den c m1
      | .rt v => pure (mkR v)
  ok X Wx g tk := by
    refine seqF_ok (PS.imp (ps_if (tc.ok X Wx g.toXG tk) (x.ok X Wx g tk) (y.ok X Wx g tk)) fun D σ H q => ?_) (rest.ok X Wx g tk) mkR hR
    obtain ⟨c, m, w, S, Ow, Oc, O, xx, k⟩ := q
    refine stepS_T xx k fun t w1 H1 S1 st1 z1 k1 => ?_
    cases t with
    | true => exact ⟨c, m, w1, S1, Ow, Oc, O, z1, k1⟩
    | false => exact ⟨c, m, w1, S1, Ow, Oc, O, z1, k1⟩
/-- [], for owned rows -/
def EJ.nil2 {t : TY} {pos : Pos} : EJ M C G (.List [] pos) (.o2 t) where
  den _ := pure []
  ok X Wx g tk := by
    refine PE.imp ((EJ.lst (M := M) (C := C) (G := G) (pos := pos) (LJ.nil (t := t))).ok X Wx g tk) fun σ H Q q => ?_
    obtain ⟨s, w, S, Ow, O, x, k⟩ := q
    refine ⟨s, w, S, Ow, O, x, ?_⟩
    have e : Eff.run ((EJ.lst (M := M) (C := C) (G := G) (pos := pos) (LJ.nil (t := t))).den s) w = (.ok [], w) := Eff.run_pure _ _
    rw [e]
    rw [Eff.run_pure] at k
    intro v H' S' O1 st hw se
    obtain ⟨a, vs, e1, e2, e3, e4⟩ := se
    have hv : vs = [] := e4
    subst hv
    exact k v H' S' O1 st hw ⟨a, [], e1, e2, e3, rfl⟩
/-- if c: a block that returns; the rest returns too -/
def SJ.ifRr {e : Expr} {a sts : List Stmt} {pos : Pos} {rwa : Ctx} (tc : TJ M C (rw_ ++ ro) e) (x : SJ M C ro rw_ a (OZ.r rwa r)) (rest : SJ M C ro rw_ sts (OZ.r rw' r)) : SJ M C ro rw_ (.If e a [] pos :: sts) (OZ.r rw' r) where
  den c m := tc.den (ST.app rw_ ro m c) >>= fun b => if b = true then x.den c m else rest.den c m
  ok X Wx g tk := by
    refine PSs.imp (pss_cons (ps_if (tc.ok X Wx g.toXG tk) (x.ok X Wx g tk) pss_nil) (rest.ok X Wx g tk)) fun D σ H q => ?_
    obtain ⟨c, m, w, S, Ow, Oc, O, y, k⟩ := q
    refine stepS_T y k fun b w1 H1 S1 st1 y1 k1 => ?_
    cases b with
    | true => exact ⟨c, m, w1, S1, Ow, Oc, O, y1, PostS.ret (D := D) (by rfl) k1⟩
    | false => exact ⟨c, m, w1, S1, Ow, Oc, O, y1, k1⟩
end
end Tp

set_option Elab.async false
set_option linter.all false
set_option maxRecDepth 100000
set_option maxHeartbeats 4000000
/-! Tp33: an owned list extended by an owned one; isinstance of two types; pop. -/
namespace Tp
open PySem PySem.Spec L2
open PyProof.Rows hiding St

theorem kit_tys {K : PySem.W.Frag} {a b c : String} {r1 r2 : Bool} (h : (kitB a b == some r1 && kitB a c == some r2) = true) : PySem.W.kitAny K (.type a) [.type b, .type c] = some (r1 || r2) := by
  rw [Bool.and_eq_true] at h
  have h1 : kitB a b = some r1 := by simpa using h.1
  have h2 : kitB a c = some r2 := by simpa using h.2
  refine kitAny_cons (kit_ty h1) (fun e => ?_) (fun e => by rw [e]; rfl)
  subst e
  refine kitAny_cons (kit_ty h2) (fun e => ?_) (fun e => by rw [e]; rfl)
  subst e
  exact kitAny_nil
def popB {A : Type} (xs : List A) (i : Int) : Option (List A × A) := if -(2 ^ 63) ≤ i ∧ i < 2 ^ 63 then popO xs i else none
section
variable {M : Type → Type} [Eff M] {C : Cf} {ro rw_ rw1 rw' : Ctx} {r : SE} {o : OZ rw' r}
/-- x.extend(y): both owned -/
def EM.extOwn {x y : Str} {p p2 apos cpos : Pos} {t : TY} (i j : Nat) (h0 : at_ i rw_ = .o1 t := by rfl) (h1 : at_ j rw_ = .o1 t := by rfl) (hij : i ≠ j := by first | decide | exact of_decide_eq_true rfl) (hk : (rw_.map (·.1)).Nodup := by first | decide | exact of_decide_eq_true rfl) (hN : C.N[i]? = some x := by rfl) (hv : Vis C.sc x := by first | exact Or.inl rfl | exact Or.inr (Or.inl rfl) | exact Or.inr (Or.inr rfl))
    (hN2 : C.N[j]? = some y := by rfl) (hv2 : Vis C.sc y := by first | exact Or.inl rfl | exact Or.inr (Or.inl rfl) | exact Or.inr (Or.inr rfl)) (hd : (x == ("__debug__" : Str)) = false := by first | decide | exact of_decide_eq_true rfl) (hcd : (x == ("__classdict__" : Str)) = false := by first | decide | exact of_decide_eq_true rfl) (hd2 : (y == ("__debug__" : Str)) = false := by first | decide | exact of_decide_eq_true rfl) (hcd2 : (y == ("__classdict__" : Str)) = false := by first | decide | exact of_decide_eq_true rfl)
    (hbase : ∀ env, attributeBase (.Name x p) ("extend" : Str) env (eval (.Name x p) env) = eval (.Name x p) env := by intro _; rfl) (hfew : ∀ env, ((backTo cpos (starEach [(.Name y p2 : Expr)] env)).all (fun x => !x.1) && (backToKw cpos (keywordEach [] env)).all (fun x => x.1.isSome)
      && decide ([(.Name y p2 : Expr)].length + ([] : List Keyword).length + (if ([] : List Keyword).isEmpty then 0 else 1) < 30)) = true := by intro _; rfl) (hline : (apos.endLine == cpos.line) = true := by rfl) (hs : ∀ env, starEach [(.Name y p2 : Expr)] env = (false, eval (.Name y p2) env) :: starEach [] env := by intro _; rfl) :
    EM M C ro rw_ (.Call (.Attribute (.Name x p) "extend" apos) [.Name y p2] [] cpos) (put i (.o1 t) rw_) (.sh .non) where
  den c m := optM (extO (A := t.A) (cast (congrArg SE.T h0) (ST.get i rw_ m)) (cast (congrArg SE.T h1) (ST.get j rw_ m))) >>= fun z => pure (ST.put i (.o1 t) z.1 rw_ m, ())
  ok X Wx g tk := by
    refine PE.imp (pe_bm PySem.F.plainAttrs_list PySem.F.slot_list_extend PySem.F.type_list_extend mt_extend (pe_var (g.name hN) (g.vis hv) hd hcd) (pa_cons (pe_var (g.name hN2) (g.vis hv2) hd2 hcd2) pa_nil (hs _)) (hbase _) (hfew _) hline (hs _) rfl) fun σ H Q q => ?_
    obtain ⟨c, m, w, S, Ow, Oc, O, x, k⟩ := q
    have hn0 : at_ i rw_ ≠ .un := by rw [h0]; exact fun z => by cases z
    have hn1 : at_ j rw_ ≠ .un := by rw [h1]; exact fun z => by cases z
    obtain ⟨Oa, Ob, Oc', q1, q2, q3⟩ := x.es.chg i hn0 (by exact hk)
    obtain ⟨l, vs1, a1, a2, a3, a4⟩ := satE_cast h0 q2
    obtain ⟨Oj, _, sj⟩ := SatL.get j x.es hn1
    obtain ⟨b, zs, b1, b2, b3, b4⟩ := satE_cast h1 sj
    refine ⟨.ref l, join_some a2, .inl ⟨rfl, vs1, SqL.of a3⟩, ?_⟩
    refine ⟨.ref b, join_some b2, ?_⟩
    rw [run_opt] at k
    unfold extO at k
    by_cases hz : (cast (congrArg SE.T h0) (ST.get i rw_ m) : List t.A).length + (cast (congrArg SE.T h1) (ST.get j rw_ m) : List t.A).length ≤ sizeLine
    · rw [if_pos hz] at k
      dsimp only at k
      rw [Eff.run_pure] at k
      refine ⟨l, b, vs1, zs, rfl, rfl, a3, b3, by rw [a4.len, b4.len, List.length_map, List.length_map]; exact hz, ?_⟩
      have hl : l ∈ O := by rw [q1, a1]; simp
      have nO : O.Nodup := (List.nodup_append.mp (List.nodup_append.mp x.nd).2.1).2.1
      have hnd := nO
      rw [q1, a1] at hnd
      have hdl : ∀ a ∈ Oa ++ Oc', a ≠ l := fun a ha z => by
        subst z
        obtain ⟨n1, n2, n3⟩ := List.nodup_append.mp hnd
        rcases List.mem_append.mp ha with h | h
        · exact n3 a h a (by simp) rfl
        · exact (List.nodup_cons.mp n2).1 (by simpa using h)
      have st0 : SSt H S Ow O O H S := x.sstE (ESt.refl x.sub)
      refine k .non _ S O [] (by rw [List.append_nil]; exact st0.mut hl) ?_ ?_ ⟨rfl, _, rfl, rfl⟩
      · refine Eff.ws_mono x.ws fun d hd => upd_ne fun z => ?_
        subst z
        exact (List.nodup_append.mp x.nd).2.2 d hd d (by simp [hl]) rfl
      · have := q3 (.o1 t) ((cast (congrArg SE.T h0) (ST.get i rw_ m) : List t.A) ++ (cast (congrArg SE.T h1) (ST.get j rw_ m) : List t.A)) [l] S (upd H l (.lst (vs1 ++ zs))) ⟨l, _, rfl, a2, upd_same, by rw [List.map_append]; exact a4.app b4⟩ (fun _ _ h => h) (fun a ha => upd_ne (hdl a ha))
        rw [show Oa ++ ([l] ++ Oc') = O by rw [q1, a1]] at this
        exact this
    · rw [if_neg hz] at k; exact k.elim
end
end Tp

set_option Elab.async false
set_option linter.all false
set_option maxRecDepth 100000
set_option maxHeartbeats 4000000
/-! Tp34: a cell set to a comprehension; keywords bound. -/
namespace Tp
open PySem PySem.Spec L2
open PyProof.Rows hiding St

theorem sw_false {elt : Expr} {gs : List Comprehension} {scope : Scope} {pos py : Pos} {y : Str} {l : Nat} {env : Env} (hy : (env.scope.names.lookup y == some .local) = false) : swapsWith (.ListComp elt gs scope pos) (some (.Name y py)) l env = pure false := by
  have ky : (env.kindOf y == some .local) = false := hy
  unfold swapsWith
  simp only [ky, Bool.and_false, Bool.false_and]
section
variable {M : Type → Type} [Eff M] {C : Cf} {ro rw_ rw' : Ctx} {r : SE} {o : OZ rw' r}
/-- x = [..], x a cell -/
def SJ.setL (i : Nat) {x : Str} {elt : Expr} {gs : List Comprehension} {scope : Scope} {pc : Pos} {t : SE} {pos pos' : Pos} {sts : List Stmt} (a : EJ M C (rw_ ++ ro) (.ListComp elt gs scope pc) t) (rest : SJ M C ro (put i t rw_) sts o) (hN : C.N[i]? = some x := by rfl) (hl : Loc C.sc x := by first | exact Or.inl rfl | exact Or.inr rfl)
    (hf : C.fb x = true ∨ C.sc.names.lookup x = some .local := by first | exact Or.inl rfl | exact Or.inr rfl) (hs : (C.sc.names.lookup x == some .local) = false := by rfl)
    (hk : (rw_.map (·.1)).Nodup := by first | decide | exact of_decide_eq_true rfl) (hi : i < C.N.length := by first | decide | exact of_decide_eq_true rfl) (hr : i ∉ ro.map (·.1) := by first | decide | exact of_decide_eq_true rfl) (hp : i ≠ C.p := by first | decide | exact of_decide_eq_true rfl) : SJ M C ro rw_ (.Assign [.Name x pos'] (.ListComp elt gs scope pc) pos :: sts) o where
  den c m := a.den (ST.app rw_ ro m c) >>= fun v => rest.den c (ST.put i t v rw_ m)
  ok X Wx g tk := by
    refine PSs.imp (pss_cons (ps_set (by rw [g.n]; exact g.nd) (g.name hN) (g.loc hl) (a.ok X Wx g.toXG tk) (sw_false (by rw [g.sc]; exact hs)) (hf.elim (fun h => .inl (g.fn _ h)) fun h => .inr (by rw [g.sc]; exact h))) (rest.ok X Wx g tk)) fun D σ H q => ?_
    obtain ⟨c, m, w, S, Ow, Oc, O, x, k⟩ := q
    refine stepS_E x k fun y w' v H' S' O1 st hw se k1 => ?_
    obtain ⟨O', s2, x2, hs2, hl2⟩ := x.setSlot st hw se hk hi hr hp
    exact ⟨c, _, w', S', Ow, Oc, O', x2, k1.pre s2 hs2 hl2⟩
end
theorem fnk_of {T : Wd} {x qual : Str} {params : Arguments} {body : List Stmt} {scope : Scope} {kws : List (Str × V)} {f : Addr} {fd : FuncData} {ps ks : List Str} {ord : List Nat} {k : Nat} {sp : Sp} (F : FunD T.K x qual params body scope [] kws f fd) (hm : T.mg x = some (.ref f)) (h3 : FnG T.P T.w T.K T.mg T.base k f fd ps sp)
    (h : ∀ (kV doc pm : Value) (an : Option Addr) (cdv ct : Value) (ws : List Value), ws.length = ks.length → bindArgs (PySem.W.fnOf x qual params body scope .none kV doc pm an cdv ct) ⟨[], ks.zip ws⟩ = pure (ps.zip (kput ord .none [] ws))) : FnK T k x ps 0 ks ord sp := by
  refine ⟨f, fd, hm, F.kp, h3, fun s us ws X hu hw => ?_⟩
  have hu' : us = [] := List.length_eq_zero_iff.mp hu
  subst hu'
  obtain ⟨oc, od, dV, kV, doc, pm, an, cdv, ct, osl, rfl, lk, hcd, hD, hK⟩ := F.ex
  rcases hD with ⟨_, rfl⟩ | ⟨e, _⟩
  · exact .of_eq (h kV doc pm an cdv ct ws hw)
  · exact absurd rfl e
end Tp

set_option Elab.async false
set_option linter.all false
set_option maxRecDepth 100000
set_option maxHeartbeats 4000000
/-! Tp35: a derivation's meaning against its mirror, piece by piece. -/
namespace Tp
open PySem PySem.Spec L2
open PyProof.Rows hiding St
theorem R.pbind {A B : Type} (a : A) (f : A → R B) : ((pure a : R A) >>= f) = f a := rfl
theorem PM.pbind {A B : Type} (a : A) (f : A → PM B) : ((pure a : PM A) >>= f) = f a := rfl
section
theorem mapc {A B : Type} {f g : A → B} {a b : R A} (h : ∀ e, f e = g e) (k : a = b) : R.map f a = R.map g b := by subst k; rw [funext h]
variable {M : Type → Type} [Eff M] {A B X : Type}
theorem bindc {a a' : M A} {f f' : A → M B} (h : a = a') (k : ∀ v, f v = f' v) : (a >>= f) = (a' >>= f') := by
  subst h; rw [funext k]
theorem bindFL {Y : Type} {a a' : M (FL X Y)} {f f' : FL X Y → M B} (h : a = a') (k : ∀ v, f (.nx v) = f' (.nx v)) (k2 : ∀ v, f (.rt v) = f' (.rt v)) : (a >>= f) = (a' >>= f') := by
  refine bindc h fun v => ?_
  cases v with
  | nx v => exact k v
  | rt v => exact k2 v
theorem itec {t t' : Bool} {x x' y y' : M A} (h : t = t') (h1 : x = x') (h2 : y = y') : (if t = true then x else y) = (if t' = true then x' else y') := by subst h h1 h2; rfl
theorem loopNc {f g : X → A → M A} {xs ys : List X} {m n : A} (h : ∀ y s, f y s = g y s) (h1 : xs = ys) (h2 : m = n) : loopN f xs m = loopN g ys n := by
  subst h1 h2; rw [show f = g from funext fun y => funext fun s => h y s]
theorem loopFc {f g : X → A → M (FL A B)} {xs ys : List X} {m n : A} (h : ∀ y s, f y s = g y s) (h1 : xs = ys) (h2 : m = n) : loopF f xs m = loopF g ys n := by
  subst h1 h2; rw [show f = g from funext fun y => funext fun s => h y s]
theorem whileNc {c d : A → M Bool} {f g : A → M A} {k : Nat} {m n : A} (h0 : ∀ s, c s = d s) (h : ∀ s, f s = g s) (h2 : m = n) : whileN c f k m = whileN d g k n := by
  subst h2; rw [show f = g from funext h, show c = d from funext h0]
theorem whileFc {c d : A → M Bool} {f g : A → M (FL A B)} {k : Nat} {m n : A} (h0 : ∀ s, c s = d s) (h : ∀ s, f s = g s) (h2 : m = n) : whileF c f k m = whileF d g k n := by
  subst h2; rw [show f = g from funext h, show c = d from funext h0]
theorem compc {c d : X → M Bool} {e f : X → M B} {xs ys : List X} (h0 : ∀ s, c s = d s) (h : ∀ s, e s = f s) (h2 : xs = ys) : compM (compF c e) xs = compM (compF d f) ys := by
  subst h2; rw [show e = f from funext h, show c = d from funext h0]
theorem noerc {a b : M A} (h : a = b) : Eff.noer a = Eff.noer b := by rw [h]
end
end Tp

set_option Elab.async false
set_option linter.all false
set_option maxRecDepth 100000
set_option maxHeartbeats 4000000
/-! Tp36: == and != of own instances. -/
namespace Tp
open PySem PySem.Spec L2
open PyProof.Rows hiding St
section
variable {prog : Program} {w : World} {A : Around} {E : Value → Shared → Prop} {s : Shared} {K : PySem.W.Frag} {x D L fe : Addr} {h₀ : Heap} {m : Str → Option Value} {ox : Obj} {od : Option Obj} {b tb : Value}
theorem boundB {M : Model} {name : Str} {id : String} {args : List Value} {Q : Option Value → Shared → Prop} (X : K.In s.heap) (I : PySem.W.InstAt s.heap x ox D od) (hs : PySem.W.findIn K (.ref D) name = some (some (.builtin id))) (hb : ∀ self, bindSpecial (.builtin id) self = pure (.builtin id, [self]))
    (h : wpAny M A (call (.builtin id) (.ref x :: args)) (fun v => Q (some v)) E s) : wpAny M A (callSpecialIfBound? (.ref x) name args) Q E s := by
  simp only [callSpecialIfBound?, bindSpecialIfBound?]
  refine wpAny_holding (wpAny_bind (wpAny_bind (wpAny_bind (I.type.here ((PySem.W.looks_findIn X hs).here ?_)))))
  simp only [hb]
  refine wpAny_bind (wpAny_askSetting (wpAny_ite ?_))
  have fin : wpAny M A (call (.builtin id) ([.ref x] ++ args) >>= fun v => pure (some v)) Q E s := wpAny_bind (wpAny_mono h (fun v s' h' => wpAny_pure h') fun _ _ h' => h')
  split
  · exact wpAny_bind (wpAny_pure (wpAny_pure fin))
  · exact wpAny_tryCatch (wpAny_bind (wpAny_pure (wpAny_pure fin)))
theorem ne_entry (X : K.In s.heap) (I : PySem.W.InstAt s.heap x ox D od) (hs : PySem.W.findIn K (.ref D) "__eq__" = some (some (.ref fe))) (hf : PySem.W.isFn K (.ref fe) = true) (hu : A.units < cLine) {Q : Fin → Shared → Prop}
    (hcall : wpAny (model prog w) A (call (.ref fe) [.ref x, b]) (fun v s' => ∃ z, v = .bool z ∧ Q (.done (.ret (.bool (!z)))) s') E s) : wpAny (model prog w) A (Builtin.«object.__ne__» ⟨[.ref x, b], []⟩) Q E s := by
  unfold Builtin.«object.__ne__»
  repeat (first
    | with_reducible refine wpAny_cRoomFor hu ?_
    | (refine wpAny_bind (m := callSpecialIfBound? (.ref x) (Str.ofString "__eq__") [b])
        (PySem.W.ifBound_K X I hs hf (wpAny_mono hcall (fun r s' hr => by
          obtain ⟨z, rfl, hq⟩ := hr
          repeat (first | exact hq | exact wpAny_pure hq | exact wpAny_truthy_bool hq | (refine wpAny_bind (m := truthy (.bool _)) (wpAny_truthy_bool ?_)) | wp_step)) fun _ _ e => e)))
    | wp_step)
theorem ne_bind (self : Value) : bindSpecial (.builtin "object.__ne__") self = pure (.builtin "object.__ne__", [self]) :=
  (Slot.of (T := "object") (name := "__ne__") (owner := "object") (n := "__ne__") (by rw [typeLookup_type, builtinLookup_eq_fast]; kernel_rfl) (by decide +kernel) (by decide +kernel) (by decide +kernel) (.inl (by decide +kernel)) (by rw [isSubtype_type]; kernel_rfl)).bind self
theorem ne_plain : plainId "object.__ne__" = true := by decide +kernel
theorem cmpNe_K {Q : Value → Shared → Prop} (hu : A.units + 1 < cLine) (FF : Fr h₀ L s.heap m) (X₀ : K.In h₀) (I : PySem.W.InstAt s.heap x ox D od) (hb : PySem.W.Looks (model prog w) s.heap (typeOf b) tb) (hn : PySem.W.notFirst K D tb = true)
    (hne : PySem.W.findIn K (.ref D) "__ne__" = some (some (.builtin "object.__ne__"))) (hsub : PySem.W.mroIn K D (.type "object") = some true) (hs : PySem.W.findIn K (.ref D) "__eq__" = some (some (.ref fe))) (hf : PySem.W.isFn K (.ref fe) = true)
    (h : wpAny (model prog w) A.in1 (call (.ref fe) [.ref x, b]) (fun v s' => ∃ z, v = .bool z ∧ Q (.bool (!z)) s') E s) : wpAny (model prog w) A (richCompare .NotEq (.ref x) b) Q E s := by
  have X := X₀.keeps FF.keep
  have one : wpAny (model prog w) A (tryCompare (.ref x) (cmpInfo .NotEq).2.1 b) (fun r s' => ∃ v, r = some v ∧ Q v s') E s := by
    unfold tryCompare
    refine wpAny_bind (boundB X I hne ne_bind (wpAny_call (codeAny_call_builtin ne_plain PySem.F.cmpEntry_ne (PySem.W.check_slot PySem.F.cmpKind_ne PySem.F.cmpSplit_ne (I.type.andThen (PySem.W.looks_mroIn X hsub)) (PySem.F.cmpArgs_ne _ _) (ne_entry (A := A.in1) X I hs hf ?_ (wpAny_mono h (fun v s' hv => ?_) fun _ _ e => e))))))
    · have : A.in1.units = A.units + 1 := rfl
      omega
    · obtain ⟨z, rfl, hq⟩ := hv
      exact ⟨z, rfl, wpAny_pure ⟨_, rfl, hq⟩⟩
  unfold richCompare
  simp only [oneThing_ref]
  refine wpAny_holding (wpAny_bind (wpAny_cRoomFor (Nat.lt_of_succ_lt hu) ?_))
  refine wpAny_bind (I.type.here (wpAny_bind (hb.here ?_)))
  split
  · rename_i q
    have e : PySem.W.subIn K tb (.ref D) = some false := by
      rcases Bool.or_eq_true_iff.mp hn with e | e
      · rw [beq_iff_eq.mp e] at q; simp at q
      · exact beq_iff_eq.mp e
    refine wpAny_bind ((PySem.W.looks_subIn X e).here ?_)
    simp only [Bool.false_eq_true, if_false]
    refine wpAny_bind (wpAny_mono one (fun r s' z => ?_) fun _ _ e => e)
    obtain ⟨v, rfl, hq⟩ := z
    exact wpAny_pure hq
  · refine wpAny_bind (wpAny_pure ?_)
    simp only [Bool.false_eq_true, if_false]
    refine wpAny_bind (wpAny_mono one (fun r s' z => ?_) fun _ _ e => e)
    obtain ⟨v, rfl, hq⟩ := z
    exact wpAny_pure hq
end
/-! ### promises of operators that call -/
def R.opt {A : Type} : R A → Option A
  | .ok a => some a
  | _ => none
section
variable {M : Type → Type} [Eff M] {C : Cf} {G : Ctx}
def CmW (C : Cf) (op : CmpOp) (a b : TY) (f : a.A → b.A → Option Bool) : Prop := ∀ X, XG C X → OpR X (compareOp op) fun x y H Q => ∃ i j z S, Sub S H ∧ Rep C.T.K S (a.enc i) x ∧ Rep C.T.K S (b.enc j) y ∧ f i j = some z ∧ ∀ H' S', ESt H S [] [] H' S' → Q (.bl z) H'
/-- == and != of instances of one class by its own == -/
theorem cmw_call {c : Str} {k : Nat} {ps : List Str} {fs : List (Str × TY)} {p' : Nat} {f : ST [] → ST [(0, .sh (TY.ins c fs)), (1, .sh (TY.ins c fs))] → R Bool} {X : Cx} (g : XG C X) {fa : Addr} {fd : FuncData} (h3 : FnG C.T.P C.T.w C.T.K C.T.mg C.T.base k fa fd ps (spF R C.T.K ps.length p' [] [(0, .sh (TY.ins c fs)), (1, .sh (TY.ins c fs))] (.sh .bool) f)) (h4 : Binds C.T.K fd ps []) (hn : ps.length = 2) {A : Around} (hr : RG k A) (hfr : A.frames = X.A.frames)
    {pins : List (Addr × Obj)} {σ : St} {H S : Hp} {s : Shared} {i j : FT fs} {z : Bool} {a b : Addr} {Q : Bool → Hp → Prop} (I : Inv X pins σ H s) (sub : Sub S H) (r1 : Rep C.T.K S ((TY.ins c fs).enc i) (.ref a)) (r2 : Rep C.T.K S ((TY.ins c fs).enc j) (.ref b)) (e : f () (i, (j, ())) = .ok z)
    (q : ∀ H' S', ESt H S [] [] H' S' → Q z H') {R' : Value → Shared → Prop} (hq : ∀ s' H', Inv X pins σ H' s' → Q z H' → R' (.bool z) s') {EE : Value → Shared → Prop} : wpAny (model X.prog X.w) A (call (.ref fa) [.ref a, .ref b]) R' EE s := by
  have hsp : spF R C.T.K ps.length p' [] [(0, .sh (TY.ins c fs)), (1, .sh (TY.ins c fs))] (.sh .bool) f [.ref a, .ref b] H (fun v H' => v = .bl z ∧ Q z H') fun _ _ _ => False := by
    refine ⟨hn.symm ▸ rfl, (), (i, (j, ())), (), S, [], [], ⟨sub, fun b hb => by simp at hb, by simp, rfl, rfl, ?_, hn.symm ▸ rfl⟩, ?_⟩
    · exact ⟨[], [], rfl, ⟨rfl, _, rfl, r1⟩, [], [], rfl, ⟨rfl, _, rfl, r2⟩, rfl⟩
    · show PostE R C.T.K p' _ H S [] (.sh .bool) _ _ (f () (i, (j, ())), ())
      rw [e]
      intro v H' S' O1 st hw se
      obtain ⟨rfl, u, eu, ru⟩ := se
      cases eu
      exact ⟨ru, q H' S' st⟩
  have e0 : Env0 X.prog X.w X.K X.mg X.base A X.stack s H := by
    have e := I.env0
    exact ⟨by rw [hfr]; exact e.frames, e.mod, e.bs, e.bsz, e.funs, e.frf, e.hok, e.bare⟩
  have r : Vals [V.ref a, V.ref b] [Value.ref a, Value.ref b] := .cons rfl (.cons rfl .nil)
  have F' := g.fnok h3
  refine wpAny_call (codeAny_mono (F'.run A X.stack s H ⟨[.ref a, .ref b], []⟩ [.ref a, .ref b] [.ref a, .ref b] _ (fun _ _ _ => False) hr e0 (by
    have h4' : Binds X.K fd ps [] := by rw [g.K]; exact h4
    have := h4' s [.ref a, .ref b] I.kIn (by simp [hn])
    simpa using this) r hsp) fun out s' hq' => ?_)
  cases out with
  | error e =>
    obtain ⟨_, _, _, _, _, _, _, _, _, _, _, _, z⟩ := hq'
    exact z.elim
  | ok fl =>
    cases fl with
    | ret u =>
      obtain ⟨v, H', I', rv, ev, qz⟩ := I.after hq'
      subst ev
      cases rv
      exact hq s' H' I' qz
    | next => exact hq'.elim
    | brk => exact hq'.elim
    | cont => exact hq'.elim
theorem cmw_eq {c : Str} {k : Nat} {ps : List Str} {fs : List (Str × TY)} {p' : Nat} {f : ST [] → ST [(0, .sh (TY.ins c fs)), (1, .sh (TY.ins c fs))] → R Bool} (F : Mth C.T k c "__eq__" ps (spF R C.T.K ps.length p' [] [(0, .sh (TY.ins c fs)), (1, .sh (TY.ins c fs))] (.sh .bool) f)) (hn : ps.length = 2 := by rfl) (hk : k ≤ C.k := by first | decide | exact of_decide_eq_true rfl) :
    CmW C .Eq (TY.ins c fs) (TY.ins c fs) fun i j => R.opt (f () (i, (j, ()))) := fun X g => by
  intro pins s σ H x y v u Q I rx ry h
  obtain ⟨i, j, z, S, sub, r1, r2, e, q⟩ := h
  obtain ⟨fa, fd, h1, h2, h3, h4⟩ := F.ex
  have r1' := r1; have r2' := r2
  obtain ⟨a, dx, gs, rfl, e1, _⟩ := r1'
  obtain ⟨b, dy, gs', rfl, e2, _⟩ := r2'
  cases rx
  cases ry
  have e1' := sub _ _ e1
  have e2' := sub _ _ e2
  rw [← g.K] at e1' e2'
  obtain ⟨mA, J, _⟩ := ins_get I.hok e1'
  obtain ⟨mB, J', _⟩ := ins_get I.hok e2'
  obtain ⟨od, J, _⟩ := J.look
  obtain ⟨od', J', _⟩ := J'.look
  obtain ⟨m, hF⟩ := I.fr
  have ez : f () (i, (j, ())) = .ok z := by
    dsimp only at e
    cases e3 : f () (i, (j, ())) with
    | ok a => rw [e3] at e; cases e; rfl
    | er a => rw [e3] at e; cases e
    | bad => rw [e3] at e; cases e
  show wpAny (model X.prog X.w) X.A (richCompare .Eq (.ref a) (.ref b)) (L2.EP X pins σ Q) X.xe s
  refine PySem.W.cmp_K (op := .Eq) (tb := .ref (He.ga X.K c)) g.room.r.units0 hF I.ok.mod.kin J J'.type (by simp [PySem.W.notFirst]) (by rw [g.K]; exact h2.at_) (by rw [g.K]; exact h2.fn) ?_
  refine cmw_call g h3 h4 hn (g.room.mono hk) rfl I sub r1 r2 ez (Q := fun z H' => Q (.bl z) H') q fun s' H' I' qz => ?_
  exact ⟨.bl z, H', I', rfl, qz⟩
theorem cmw_ne {c : Str} {k : Nat} {ps : List Str} {fs : List (Str × TY)} {p' : Nat} {f : ST [] → ST [(0, .sh (TY.ins c fs)), (1, .sh (TY.ins c fs))] → R Bool} (F : Mth C.T k c "__eq__" ps (spF R C.T.K ps.length p' [] [(0, .sh (TY.ins c fs)), (1, .sh (TY.ins c fs))] (.sh .bool) f)) (hne : PySem.W.findIn C.T.K (.ref (He.ga C.T.K c)) "__ne__" = some (some (.builtin "object.__ne__")) ∧ PySem.W.mroIn C.T.K (He.ga C.T.K c) (.type "object") = some true)
    (hn : ps.length = 2 := by rfl) (hk : k + 1 ≤ C.k := by first | decide | exact of_decide_eq_true rfl) :
    CmW C .NotEq (TY.ins c fs) (TY.ins c fs) fun i j => (R.opt (f () (i, (j, ())))).map fun z => !z := fun X g => by
  intro pins s σ H x y v u Q I rx ry h
  obtain ⟨i, j, z, S, sub, r1, r2, e, q⟩ := h
  obtain ⟨fa, fd, h1, h2, h3, h4⟩ := F.ex
  have r1' := r1; have r2' := r2
  obtain ⟨a, dx, gs, rfl, e1, _⟩ := r1'
  obtain ⟨b, dy, gs', rfl, e2, _⟩ := r2'
  cases rx
  cases ry
  have e1' := sub _ _ e1
  have e2' := sub _ _ e2
  rw [← g.K] at e1' e2'
  obtain ⟨mA, J, _⟩ := ins_get I.hok e1'
  obtain ⟨mB, J', _⟩ := ins_get I.hok e2'
  obtain ⟨od, J, _⟩ := J.look
  obtain ⟨od', J', _⟩ := J'.look
  obtain ⟨m, hF⟩ := I.fr
  dsimp only at e
  cases e3 : f () (i, (j, ())) with
  | er a => rw [e3] at e; cases e
  | bad => rw [e3] at e; cases e
  | ok z' =>
    rw [e3] at e
    cases e
    show wpAny (model X.prog X.w) X.A (richCompare .NotEq (.ref a) (.ref b)) (L2.EP X pins σ Q) X.xe s
    have hr : RG (k + 1) X.A := g.room.mono hk
    refine cmpNe_K (tb := .ref (He.ga X.K c)) (hr.in1).r.units0 hF I.ok.mod.kin J J'.type (by simp [PySem.W.notFirst]) (by rw [g.K]; exact hne.1) (by rw [g.K]; exact hne.2) (by rw [g.K]; exact h2.at_) (by rw [g.K]; exact h2.fn) ?_
    refine cmw_call g h3 h4 hn hr.in1 rfl I sub r1 r2 e3 (Q := fun z H' => Q (.bl (!z)) H') q fun s' H' I' qz => ?_
    exact ⟨z', rfl, .bl (!z'), H', I', rfl, qz⟩
def EJ.cmpW {a b : TY} {f : a.A → b.A → Option Bool} {op : CmpOp} {e1 e2 : Expr} {pos : Pos} (o : CmW C op a b f) (x : EJ M C G e1 (.sh a)) (y : EJ M C G e2 (.sh b)) (hm : behindInMarks op e2 = false := by first | exact nomark _ | rfl) : EJ M C G (.Compare e1 [op] [e2] pos) (.sh .bool) where
  den s := x.den s >>= fun i => y.den s >>= fun j => optM (f i j)
  ok X Wx g tk := by
    refine PE.imp (pe_cmpR (o X g) (x.ok X Wx g tk) (y.ok X Wx g tk) hm) fun σ H Q q => ?_
    obtain ⟨s, w, S, Ow, O, sat, k⟩ := q
    refine step_E sat k fun i w1 v1 H1 S1 st1 sat1 rp1 k1 => ?_
    refine step_E sat1 k1 fun j w2 v2 H2 S2 st2 sat2 rp2 k2 => ?_
    rw [run_optM] at k2
    cases e : f i j with
    | none => rw [e] at k2; exact k2.elim
    | some z =>
      rw [e] at k2
      exact ⟨i, j, z, S2, sat2.sub, rp1.mono st2.ext, rp2, e, fun H' S' st => k2 (.bl z) H' S' [] st.wide (ws_thru sat2.ws st) ⟨rfl, _, rfl, rfl⟩⟩
def TJ.cmpW {a b : TY} {f : a.A → b.A → Option Bool} {op : CmpOp} {e1 e2 : Expr} {pos : Pos} (o : CmW C op a b f) (x : EJ M C G e1 (.sh a)) (y : EJ M C G e2 (.sh b)) (hm : behindInMarks op e2 = false := by first | exact nomark _ | rfl) : TJ M C G (.Compare e1 [op] [e2] pos) where
  den s := x.den s >>= fun i => y.den s >>= fun j => optM (f i j)
  ok X Wx g tk := by
    refine PT.imp (pt_cmpR (o X g) (x.ok X Wx g tk) (y.ok X Wx g tk) hm) fun σ H Q q => ?_
    obtain ⟨s, w, S, Ow, O, sat, k⟩ := q
    refine step_gen (fun H S o => PostT M C.T.K C.p σ H S Ow (fun cls d H' => Wx cls d σ H') Q o) sat k (fun _ _ _ st z => z.pre st) (fun b w' z => z) (fun _ z => z) fun i w1 v1 H1 S1 _ st1 sat1 rp1 k1 => ?_
    refine step_gen (fun H S o => PostT M C.T.K C.p σ H S Ow (fun cls d H' => Wx cls d σ H') Q o) sat1 k1 (fun _ _ _ st z => z.pre st) (fun b w' z => z) (fun _ z => z) fun j w2 v2 H2 S2 _ st2 sat2 rp2 k2 => ?_
    rw [run_optM] at k2
    cases e : f i j with
    | none => rw [e] at k2; exact k2.elim
    | some z =>
      rw [e] at k2
      exact ⟨i, j, z, S2, sat2.sub, rp1.mono st2.ext, rp2, e, fun H' S' st => ⟨z, rfl, k2 H' S' st.wide (ws_thru sat2.ws st)⟩⟩
end
end Tp

set_option Elab.async false
set_option linter.all false
set_option maxRecDepth 100000
set_option maxHeartbeats 4000000
/-! Tp37: truths compared by is; keywords in any order. -/
namespace Tp
open PySem PySem.Spec L2
open PyProof.Rows hiding St
section
variable {X : Cx}
theorem op_isB : OpR X (compareOp .Is) (fun x y H Q => ∃ b c, x = .bl b ∧ y = .bl c ∧ Q (.bl (decide (b = c))) H) := by
  intro pins s σ H x y v u Q I rx ry h
  obtain ⟨b, c, rfl, rfl, q⟩ := h
  cases rx
  cases ry
  show wpAny _ _ ((isSame (Value.bool b) (Value.bool c)) >>= fun z => pure (Value.bool z)) _ _ s
  refine wpAny_bind (wpAny_isSame_plain (by cases b <;> cases c <;> rfl) (wpAny_pure ?_))
  exact fin_bl I q (by cases b <;> cases c <;> rfl)
theorem op_isnotB : OpR X (compareOp .IsNot) (fun x y H Q => ∃ b c, x = .bl b ∧ y = .bl c ∧ Q (.bl (!decide (b = c))) H) := by
  intro pins s σ H x y v u Q I rx ry h
  obtain ⟨b, c, rfl, rfl, q⟩ := h
  cases rx
  cases ry
  show wpAny _ _ ((isSame (Value.bool b) (Value.bool c)) >>= fun z => pure (Value.bool (!z))) _ _ s
  refine wpAny_bind (wpAny_isSame_plain (by cases b <;> cases c <;> rfl) (wpAny_pure ?_))
  exact fin_bl I q (by cases b <;> cases c <;> rfl)
end
section
variable {M : Type → Type} [Eff M] {C : Cf} {G : Ctx}
theorem cm2_isB : Cm2 C .Is TY.bool TY.bool (fun i j => decide (i = j)) := fun X g => OpR.imp op_isB fun x y H Q q => by
  obtain ⟨i, j, S, sub, r1, r2, k⟩ := q
  exact ⟨i, j, r1, r2, k⟩
theorem cm2_notB : Cm2 C .IsNot TY.bool TY.bool (fun i j => !decide (i = j)) := fun X g => OpR.imp op_isnotB fun x y H Q q => by
  obtain ⟨i, j, S, sub, r1, r2, k⟩ := q
  exact ⟨i, j, r1, r2, k⟩
theorem spF_conv {K : PySem.W.Frag} {n p : Nat} {ro G0 G1 : Ctx} {r : SE} {f : ST ro → ST G0 → M r.T} (φ : ST G1 → ST G0) (h : ∀ (K : PySem.W.Frag) (S H : Hp) (s : ST G1) (σ : St) (O : List Addr), SatL K S H G1 s σ O → SatL K S H G0 (φ s) σ O) {vs : List V} {H : Hp} {Q : VK} {E : XK}
    (q : spF M K n p ro G1 r (fun c s => f c (φ s)) vs H Q E) : spF M K n p ro G0 r f vs H Q E := by
  obtain ⟨hl, c, s, w, S, Ow, Oc, x, k⟩ := q
  exact ⟨hl, c, φ s, w, S, Ow, Oc, ⟨x.sub, x.dis, x.nd, x.ws, x.ec, h _ _ _ _ _ _ x.es, x.len⟩, k⟩
end
end Tp

set_option Elab.async false
set_option linter.all false
set_option maxRecDepth 100000
set_option maxHeartbeats 4000000
/-! Tp38: sorted, tuple, min, max of tuples. -/
namespace Tp
open PySem PySem.Spec L2
open PyProof.Rows hiding St
section
open PySem.W Calls Builtin
variable {prog : Program} {w : World} {A : Around} {E : Value → Shared → Prop} {s : Shared}
theorem collect_tup {l : Addr} {vs : List Value} {Q : List Value → Shared → Prop} (hl : s.heap.IsTuple l vs.toArray)
    (h : Q vs { s with heap := (s.heap.push (seqObj "list" #[] 0)).update s.heap.objs.size (Obj.mapSeq (· ++ vs.toArray)) }) (hsz : vs.length ≤ sizeLine) :
    wpAny (model prog w) A (collect (.ref l)) Q E s := by
  obtain ⟨o, ho, hc, n, hd⟩ := id hl
  unfold collect
  refine wpAny_bind (wpAny_runValue (codeAny_builtin entry_proto_collect' ?_))
  show wpAny _ _ (do again (.builtin "list.__iadd__" ⟨[← newList [], .ref l], []⟩)) _ _ s
  refine wpAny_bind (wpAny_newList (wpAny_pure ⟨Code.quiet_builtin _ (by decide +kernel), codeAny_builtin entry_list_iadd' ?_⟩))
  show wpAny _ _ (Builtin.List.listExtendWith (.ref s.heap.objs.size) (.ref l) (.ref s.heap.objs.size)) _ _ { s with heap := s.heap.push (seqObj "list" #[] 0) }
  unfold Builtin.List.listExtendWith
  have ho' : (s.heap.push (seqObj "list" #[] 0)).get? l = some o := Heap.get?_push_of_some _ ho
  refine wpAny_bind (wpAny_typeOf (T := "tuple") ⟨o, ho', hc⟩ ?_)
  have ht : (Value.type "tuple" == Value.type "tuple") = true := by rfl
  rw [if_pos (by rw [ht]; simp)]
  refine wpAny_bind (listItems_at ho' hd ?_)
  refine wpAny_bind (listItems_at (xs := #[]) (n := 0) (Heap.get?_push_size _ rfl) rfl ?_)
  rw [if_neg (by simp)]
  refine wpAny_bind (listUpdate_at (xs := #[]) (n := 0) (Heap.get?_push_size _ rfl) rfl ?_ (Nat.zero_le _) (by show (#[] ++ vs.toArray).size ≤ sizeLine + 1; simp only [Array.size_append, List.size_toArray, List.length_nil]; omega))
  refine wpAny_pure ?_
  show wpAny (model prog w) A (do
      let o ← load s.heap.objs.size
      match o.data with
      | .seq xs _ => pure xs.toList
      | _ => unsupported "internal:collect") Q E { s with heap := (s.heap.push (seqObj "list" #[] 0)).update s.heap.objs.size (Obj.mapSeq (· ++ vs.toArray)) }
  refine wpAny_bind (wpAny_load (get?_update_seq (Heap.get?_push_size _ rfl) _) ?_)
  show wpAny _ _ (pure ((#[] : Array Value) ++ vs.toArray).toList) Q E _
  rw [show ((#[] : Array Value) ++ vs.toArray).toList = vs by simp]
  exact wpAny_pure h
theorem sorted_of_sortT {l : Addr} {vs : List Value} {kw : List (Str × Value)} {Q : Value → Shared → Prop} (hl : s.heap.IsTuple l vs.toArray) (hL : vs.length ≤ sizeLine) (ha1 : argsOk "sorted" ⟨[.ref l], kw⟩) (ha2 : ∀ x, argsOk "list.sort" ⟨[.ref x], kw⟩)
    (body : ∀ E' : Value → Shared → Prop, wpAny (model prog w) A.in1.in1 (Builtin.«list.sort» ⟨[.ref (s.heap.objs.size + 1)], kw⟩) (fun f s' => f = .done (.ret .none) ∧ Q (.ref (s.heap.objs.size + 1)) s') E' { s with heap := copyHeap s.heap vs }) :
    wpAny (model prog w) A (call (.builtin "sorted") [.ref l] kw) Q E s := by
  refine call_function_entry_kw kind_sorted plain_sorted entry_sorted ha1 ?_
  unfold Builtin.«sorted»
  refine wpAny_bind (m := checkCount "sorted" 1 1 _) (wpAny_pure ?_)
  refine wpAny_bind (collect_tup hl ?_ hL)
  refine wpAny_bind (wpAny_newList ?_ hL)
  have hsz : ((s.heap.push (seqObj "list" #[] 0)).update s.heap.objs.size (Obj.mapSeq (· ++ vs.toArray))).objs.size = s.heap.objs.size + 1 := by
    rw [Heap.size_update, size_push']
  show wpAny _ _ _ _ _ { s with heap := copyHeap s.heap vs }
  rw [hsz]
  refine wpAny_bind (wpAny_holding (wpAny_call_entry_kw slot_list_sort ⟨_, copyHeap_at s.heap vs, rfl⟩ entry_list_sort ?body (ha2 _)))
  case body =>
    show wpAny (model prog w) A.in1.in1 (Builtin.«list.sort» ⟨[.ref (s.heap.objs.size + 1)], kw⟩) _ _ _
    refine wpAny_mono (body _) (fun f s' hf => ?_) fun _ _ e => e
    obtain ⟨rfl, hq⟩ := hf
    exact ⟨_, rfl, wpAny_pure ⟨_, rfl, hq⟩⟩
theorem sorted_dataT {β : Type} {enc : β → PyData} {R : Value → β → Prop} {bs : List β} {vs : List Value} {l : Addr} {Q : Value → Shared → Prop} (hl : s.heap.IsTuple l vs.toArray) (e : EachIs R vs bs) (er : EachIs (fun v b => ∃ as, Reads s.heap v (enc b) as) vs bs) (hal : AllAlike (bs.map enc)) (hk : Sortable (bs.map enc)) (hL : bs.length ≤ sizeLine)
    (hu : ∀ b, b ∈ bs → A.units + 2 + (enc b).depth < cLine) (h : ∀ out, out.length = bs.length → EachIs R out (bs.mergeSort (dataLe false enc)) → Q (.ref (s.heap.objs.size + 1)) { s with heap := sortedAll s.heap vs (List.toArray out) }) :
    wpAny (model prog w) A (call (.builtin "sorted") [.ref l]) Q E s := by
  have er' : EachIs (fun v b => ∃ as, Reads (sortingHeap (copyHeap s.heap vs) (s.heap.objs.size + 1) vs) v (enc b) as) vs bs := er.mono fun _ _ ⟨as, r⟩ => ⟨as, PyProof.Rows.Reads.keeps (fun _ _ => sorting_copy_old) r⟩
  have S := SortsAt.data (prog := prog) (w := w) (A := A.in1.in1) (s := { s with heap := sortingHeap (copyHeap s.heap vs) (s.heap.objs.size + 1) vs }) (each_map (R := fun v d => ∃ as, Reads (sortingHeap (copyHeap s.heap vs) (s.heap.objs.size + 1) vs) v d as) enc er') hal hk (bound_map hu)
  have hz : vs.length ≤ sizeLine := by rw [e.length]; exact hL
  exact sorted_of_sortT hl hz (args_sorted1 _) (fun _ => args_list_sort _) fun _ => list_sort_vals (s := { s with heap := copyHeap s.heap vs }) (copyHeap_at s.heap vs) S hz ⟨rfl, h _ (by rw [sortVals_length false rfl]; exact e.length) (sortVals_data false e er' hal)⟩
end
section
variable {X : Cx} {t : TY}
/-- sorted(t), a tuple of alike data -/
theorem call_sortedT (z : SortT t) (hu : X.A.units + 64 < cLine) (hd : z.q.dep ≤ 60) : CallR X (.builtin "sorted") (fun xs H Q => ∃ a vs, ∃ (js : List t.A), ∃ S, xs = [.ref a] ∧ (∀ a o, S a = some o → H a = some o) ∧ SqT X.K H a vs ∧ RepL X.K S (js.map t.enc) vs ∧
    ∀ p ws, H p = none → RepL X.K S ((js.mergeSort z.le).map t.enc) ws → Q (.ref p) (upd H p (.lst ws))) := by
  intro pins s σ H xs us Q I r h
  obtain ⟨a, vs, js, S, rfl, sub, hs, hr, q⟩ := h
  obtain ⟨its, rv, hl, hz⟩ := I.tuple hs
  rw [Vals.ref1 r]
  obtain ⟨e1, e2⟩ := each_reps z.q I sub hr rv
  have hlen := hr.len
  rw [List.length_map] at hlen
  refine sorted_dataT (enc := fun b => toD (t.enc b)) hl e1 e2 (PySem.W.AllAlike.of z.al) ?_ (by omega) (fun b _ => by have := z.q.dle b; omega) fun out h1 h2 => ?_
  · rcases z.so with h | h
    · exact PySem.W.Sortable.tuples h
    · exact PySem.W.Sortable.others h
  rw [z.hle] at h2
  obtain ⟨ws, w1, w2⟩ := each_out h2
  obtain ⟨ep, he'⟩ := PyProof.Rows.sortedAll_at s.heap its out.toArray
  have hwl : ws.length ≤ sizeLine := by rw [w2.len, List.length_map, List.length_mergeSort]; omega
  exact ⟨.ref _, upd H (s.heap.objs.size + 1) (.lst ws), I.laid (t' := s.toks) (fun _ _ => PyProof.Rows.sortedAll_old) (Nat.le_succ _) ⟨hwl, out, ep, w1, by simpa using he'⟩, rfl, q _ ws (I.hok.fresh (Nat.le_succ _)) w2⟩
/-- max(t), min(t) of two numbers -/
theorem reads2 {h : Heap} {u v : Value} {i j : Int} (hu : RelV (.int i) u) (hv : RelV (.int j) v) : ReadsAll h [u, v] [.int i, .int j] [] := by
  obtain ⟨t1, rfl⟩ := hu
  obtain ⟨t2, rfl⟩ := hv
  exact .cons (as := []) (bs := []) (.int _ _) (.cons (as := []) (bs := []) (.int _ _) .nil)
end
section
variable {C : Cf} {t : TY}
theorem fl_sortedT {t : TY} (z : SortT t) (hd : z.q.dep ≤ 60 := by first | decide | exact of_decide_eq_true rfl) : FnL C (.builtin "sorted") (.tupl t) t (fun xs => xs.mergeSort z.le) := fun X g => CallR.imp (call_sortedT z g.room.r.units hd) fun xs H Q ⟨v, i, S, e, sub, r, k⟩ => by
  obtain ⟨a, vs, e1, e2, e3⟩ := r
  rw [g.K]
  exact ⟨a, vs, i, S, by rw [e, e1], sub, ext_seqT sub e2, e3, k⟩
theorem pair_max {X : Cx} (hc : X.calm = true) (hu : X.A.units + 64 < cLine) : CallR X (.builtin "max") (fun xs H Q => ∃ a i j, xs = [.ref a] ∧ SqT X.K H a [.int i, .int j] ∧ Q (.int (if j > i then j else i)) H) := by
  intro pins s σ H xs us Q I r h
  obtain ⟨a, i, j, rfl, hs, q⟩ := h
  obtain ⟨its, rv, hl, hz⟩ := I.tuple hs
  rw [Vals.ref1 r]
  cases rv with
  | cons r1 r2 =>
    cases r2 with
    | cons r2 r3 =>
      cases r3
      refine PySem.W.max_tuple_data (x := .int i) (xs := [.int j]) (I.ok.hd hc) hl (reads2 r1 r2) ⟨fun x hx y hy => ?_, fun x hx => ?_⟩ ?_ fun n v h' tk bs _ hr hk => ?_
      · simp only [List.mem_cons, List.not_mem_nil, or_false] at hx hy
        rcases hx with rfl | rfl <;> rcases hy with rfl | rfl <;> rfl
      · simp only [List.mem_cons, List.not_mem_nil, or_false] at hx
        rcases hx with rfl | rfl <;> exact fun e => nomatch e
      · simp only [PyData.depthAll, PyData.depth]; omega
      · have e : PySem.W.maxD (.int i) [.int j] = .int (if j > i then j else i) := by
          unfold PySem.W.maxD
          simp only [List.foldl_cons, List.foldl_nil, PySem.W.dataLt_int, decide_eq_true_eq]
          split <;> rfl
        rw [e] at hr
        cases hr
        exact ⟨.int _, H, I.kept hk, ⟨_, rfl⟩, q⟩
theorem pair_min {X : Cx} (hc : X.calm = true) (hu : X.A.units + 64 < cLine) : CallR X (.builtin "min") (fun xs H Q => ∃ a i j, xs = [.ref a] ∧ SqT X.K H a [.int i, .int j] ∧ Q (.int (if j < i then j else i)) H) := by
  intro pins s σ H xs us Q I r h
  obtain ⟨a, i, j, rfl, hs, q⟩ := h
  obtain ⟨its, rv, hl, hz⟩ := I.tuple hs
  rw [Vals.ref1 r]
  cases rv with
  | cons r1 r2 =>
    cases r2 with
    | cons r2 r3 =>
      cases r3
      refine PySem.W.min_tuple_data (x := .int i) (xs := [.int j]) (I.ok.hd hc) hl (reads2 r1 r2) ⟨fun x hx y hy => ?_, fun x hx => ?_⟩ ?_ fun n v h' tk bs _ hr hk => ?_
      · simp only [List.mem_cons, List.not_mem_nil, or_false] at hx hy
        rcases hx with rfl | rfl <;> rcases hy with rfl | rfl <;> rfl
      · simp only [List.mem_cons, List.not_mem_nil, or_false] at hx
        rcases hx with rfl | rfl <;> exact fun e => nomatch e
      · simp only [PyData.depthAll, PyData.depth]; omega
      · have e : PySem.W.minD (.int i) [.int j] = .int (if j < i then j else i) := by
          unfold PySem.W.minD
          simp only [List.foldl_cons, List.foldl_nil, PySem.W.dataLt_int, decide_eq_true_eq]
          split <;> rfl
        rw [e] at hr
        cases hr
        exact ⟨.int _, H, I.kept hk, ⟨_, rfl⟩, q⟩
theorem rep_pair {K : PySem.W.Frag} {S H : Hp} {i j : Int} {v : V} (sub : Sub S H) (h : Rep K S ((TY.tup2 .int .int).enc (i, j)) v) : ∃ a, v = .ref a ∧ SqT K H a [.int i, .int j] := by
  obtain ⟨a, vs, rfl, e2, v1, r1, rfl, h1, v2, r2, rfl, h2, e3⟩ := h
  cases e3
  cases h1
  cases h2
  exact ⟨a, rfl, ext_seqT sub e2⟩
theorem fn_maxP : Fn1 C (.builtin "max") (.tup2 .int .int) .int (fun x => if x.2 > x.1 then x.2 else x.1) := fun X g => CallR.imp (pair_max g.calm g.room.r.units) fun xs H Q ⟨v, i, S, e, sub, r, k⟩ => by
  obtain ⟨a, e1, e2⟩ := rep_pair sub r
  exact ⟨a, i.1, i.2, by rw [e, e1], by rw [g.K]; exact e2, k _ fun _ => rfl⟩
theorem fn_minP : Fn1 C (.builtin "min") (.tup2 .int .int) .int (fun x => if x.2 < x.1 then x.2 else x.1) := fun X g => CallR.imp (pair_min g.calm g.room.r.units) fun xs H Q ⟨v, i, S, e, sub, r, k⟩ => by
  obtain ⟨a, e1, e2⟩ := rep_pair sub r
  exact ⟨a, i.1, i.2, by rw [e, e1], by rw [g.K]; exact e2, k _ fun _ => rfl⟩
/-! ### tuple(xs) -/
variable {M : Type → Type} [Eff M] {G : Ctx} {x : Str} {e : Expr} {p pos : Pos}
def EJ.tupL (hm : C.T.mg ("tuple" : Str) = none) (y : EJ M C G e (.sh (.list t))) (hg : C.sc.names.lookup ("tuple" : Str) = some .globalImplicit := by rfl) (h1 : ∀ env, starEach [e] env = (false, eval e env) :: starEach [] env := by intro _; rfl) : EJ M C G (.Call (.Name "tuple" p) [e] [] pos) (.sh (.tupl t)) where
  den s := y.den s >>= fun i => pure i
  ok X Wx gx tk := by
    refine PE.imp (pe_bt (.ty bt_tuple) call_tuple_of (gx.gl hg) (by rw [gx.mg]; exact hm) (pa_cons (y.ok X Wx gx tk) pa_nil (h1 _)) (by decide +kernel) (by decide +kernel) (h1 _) rfl) fun σ H Q q => ?_
    obtain ⟨s, w, S, Ow, O, x, k⟩ := q
    refine step_E x k fun i w1 v1 H1 S1 st1 sat1 rp1 k1 => ?_
    rw [Eff.run_pure] at k1
    obtain ⟨a, vs, rfl, e2, e3⟩ := rp1
    exact ⟨a, vs, rfl, .inl ⟨by rw [gx.K]; exact sqL_of sat1.sub e2, fun l hn => k1 _ _ _ [] ((ESt.refl sat1.sub).newS hn) (ws_new sat1.ws hn) ⟨rfl, _, rfl, rep_tup (vs := vs) upd_same (RepL.mono (ext_upd (none_sub sat1.sub hn)) e3)⟩⟩⟩
def EJ.tupT (hm : C.T.mg ("tuple" : Str) = none) (y : EJ M C G e (.sh (.tupl t))) (hg : C.sc.names.lookup ("tuple" : Str) = some .globalImplicit := by rfl) (h1 : ∀ env, starEach [e] env = (false, eval e env) :: starEach [] env := by intro _; rfl) : EJ M C G (.Call (.Name "tuple" p) [e] [] pos) (.sh (.tupl t)) where
  den s := y.den s >>= fun i => pure i
  ok X Wx gx tk := by
    refine PE.imp (pe_bt (.ty bt_tuple) call_tuple_of (gx.gl hg) (by rw [gx.mg]; exact hm) (pa_cons (y.ok X Wx gx tk) pa_nil (h1 _)) (by decide +kernel) (by decide +kernel) (h1 _) rfl) fun σ H Q q => ?_
    obtain ⟨s, w, S, Ow, O, x, k⟩ := q
    refine step_E x k fun i w1 v1 H1 S1 st1 sat1 rp1 k1 => ?_
    rw [Eff.run_pure] at k1
    obtain ⟨a, vs, rfl, e2, e3⟩ := rp1
    exact ⟨a, vs, rfl, .inr ⟨by rw [gx.K]; exact ext_seqT sat1.sub e2, k1 _ _ _ [] (ESt.refl sat1.sub) sat1.ws ⟨rfl, _, rfl, a, vs, rfl, e2, e3⟩⟩⟩
def EP.tupL (hm : C.T.mg ("tuple" : Str) = none) (y : EP M C G e (.list t)) (hg : C.sc.names.lookup ("tuple" : Str) = some .globalImplicit := by rfl) (h1 : ∀ env, starEach [e] env = (false, eval e env) :: starEach [] env := by intro _; rfl) : EP M C G (.Call (.Name "tuple" p) [e] [] pos) (.tupl t) :=
  EP.ofJ (EJ.tupL (p := p) (pos := pos) hm y.toEJ hg h1) (fun s => y.den s) fun s w => by
    show Eff.run (pure (y.den s) >>= fun i => pure i) w = _
    rw [run_ok _ (Eff.run_pure _ _), Eff.run_pure]
def EP.tupT (hm : C.T.mg ("tuple" : Str) = none) (y : EP M C G e (.tupl t)) (hg : C.sc.names.lookup ("tuple" : Str) = some .globalImplicit := by rfl) (h1 : ∀ env, starEach [e] env = (false, eval e env) :: starEach [] env := by intro _; rfl) : EP M C G (.Call (.Name "tuple" p) [e] [] pos) (.tupl t) :=
  EP.ofJ (EJ.tupT (p := p) (pos := pos) hm y.toEJ hg h1) (fun s => y.den s) fun s w => by
    show Eff.run (pure (y.den s) >>= fun i => pure i) w = _
    rw [run_ok _ (Eff.run_pure _ _), Eff.run_pure]
end
end Tp

set_option Elab.async false
set_option linter.all false
set_option maxRecDepth 100000
set_option maxHeartbeats 4000000
/-! Tp39: x[i].append(y) on owned rows; a walk over an owned list lent meanwhile; xs.index(y). -/
namespace Tp
open PySem PySem.Spec L2
open PyProof.Rows hiding St
def rowAt {A : Type} (rows : List (List A)) (i : Int) : Option (List A) := if 0 ≤ i then rows[i.toNat]? else none
section
variable {K : PySem.W.Frag} {S S' H H' : Hp}
theorem Rows.get : ∀ {xs : List (List PV)} {bs : List Addr} {n : Nat} {x : List PV}, Rows K S H xs bs → xs[n]? = some x → ∃ b vs, bs[n]? = some b ∧ H b = some (.lst vs) ∧ RepL K S x vs
  | [], _, _, _, _, e => by simp at e
  | y :: ys, bs, 0, x, h, e => by
    obtain ⟨b, r, vs, rfl, h2, h3, h4⟩ := h
    simp at e; subst e
    exact ⟨b, vs, rfl, h2, h3⟩
  | y :: ys, bs, n + 1, x, h, e => by
    obtain ⟨b, r, vs, rfl, h2, h3, h4⟩ := h
    obtain ⟨b', vs', q1, q2, q3⟩ := Rows.get (n := n) h4 (by simpa using e)
    exact ⟨b', vs', by simpa using q1, q2, q3⟩
theorem Rows.put (e : Ext S S') {b : Addr} {us : List V} {x : List PV} (hb' : H' b = some (.lst us)) (hx : RepL K S' x us) : ∀ {xs : List (List PV)} {bs : List Addr} {n : Nat}, Rows K S H xs bs → bs.Nodup → bs[n]? = some b → (∀ a ∈ bs, a ≠ b → H' a = H a) → Rows K S' H' (xs.set n x) bs
  | [], _, n, h, _, hn, _ => by cases h; simp at hn
  | y :: ys, bs, 0, h, nd, hn, k => by
    obtain ⟨b', r, vs, rfl, h2, h3, h4⟩ := h
    simp at hn; subst hn
    obtain ⟨n1, n2⟩ := List.nodup_cons.mp nd
    exact ⟨_, r, us, rfl, hb', hx, Rows.mono e h4 fun a ha => k a (by simp [ha]) fun z => n1 (z ▸ ha)⟩
  | y :: ys, bs, n + 1, h, nd, hn, k => by
    obtain ⟨b', r, vs, rfl, h2, h3, h4⟩ := h
    obtain ⟨n1, n2⟩ := List.nodup_cons.mp nd
    have hm : b ∈ r := List.mem_of_getElem? (by simpa using hn)
    have hne : b' ≠ b := fun z => n1 (z ▸ hm)
    exact ⟨b', r, vs, rfl, (k b' (by simp) hne).trans h2, h3.mono e, Rows.put e hb' hx h4 n2 (by simpa using hn) fun a ha => k a (by simp [ha])⟩
end
section
variable {M : Type → Type} [Eff M] {C : Cf} {ro rw_ rw' : Ctx} {r : SE}
def EM.appAt {x : Str} {p p1 apos cpos : Pos} {ei e : Expr} {t : TY} (i : Nat) (idx : EP M C (rw_ ++ ro) ei .int) (arg : EJ M C (rw_ ++ ro) e (.sh t)) (h1 : at_ i rw_ = .o2 t := by rfl) (hk : (rw_.map (·.1)).Nodup := by first | decide | exact of_decide_eq_true rfl) (hN : C.N[i]? = some x := by rfl) (hv : Vis C.sc x := by first | exact Or.inl rfl | exact Or.inr (Or.inl rfl) | exact Or.inr (Or.inr rfl))
    (hd : (x == ("__debug__" : Str)) = false := by first | decide | exact of_decide_eq_true rfl) (hcd : (x == ("__classdict__" : Str)) = false := by first | decide | exact of_decide_eq_true rfl) (hi : PlainIx ei := by intro _ _; rfl)
    (hbase : ∀ env, attributeBase (.Subscript (.Name x p) ei p1) ("append" : Str) env (eval (.Subscript (.Name x p) ei p1) env) = eval (.Subscript (.Name x p) ei p1) env := by intro _; rfl) (hfew : ∀ env, ((backTo cpos (starEach [e] env)).all (fun x => !x.1) && (backToKw cpos (keywordEach [] env)).all (fun x => x.1.isSome)
      && decide ([e].length + ([] : List Keyword).length + (if ([] : List Keyword).isEmpty then 0 else 1) < 30)) = true := by intro _; rfl) (hline : (apos.endLine == cpos.line) = true := by rfl) (hs : ∀ env, starEach [e] env = (false, eval e env) :: starEach [] env := by intro _; rfl) :
    EM M C ro rw_ (.Call (.Attribute (.Subscript (.Name x p) ei p1) "append" apos) [e] [] cpos) (put i (.o2 t) rw_) (.sh .non) where
  den c m := optM (rowAt (cast (congrArg SE.T h1) (ST.get i rw_ m) : List (List t.A)) (idx.den (ST.app rw_ ro m c))) >>= fun z => arg.den (ST.app rw_ ro m c) >>= fun y => optM (appO (A := t.A) z y) >>= fun u => pure (ST.put i (.o2 t) (List.set (cast (congrArg SE.T h1) (ST.get i rw_ m) : List (List t.A)) (idx.den (ST.app rw_ ro m c)).toNat u.1) rw_ m, ())
  ok X Wx g tk := by
    refine PE.imp (pe_bm PySem.F.plainAttrs_list PySem.F.slot_list_append PySem.F.type_list_append mt_append (pe_ix ix_list (pe_var (g.name hN) (g.vis hv) hd hcd) (idx.ok X g.toXG) hi) (pa_cons (arg.ok X Wx g.toXG tk) pa_nil (hs _)) (hbase _) (hfew _) hline (hs _) rfl) fun σ H Q q => ?_
    obtain ⟨c, m, w, S, Ow, Oc, O, x, k⟩ := q
    have hn1 : at_ i rw_ ≠ .un := fun z => by rw [h1] at z; cases z
    obtain ⟨Oa, Oi, Ob, q1, q2, q3⟩ := x.es.chg i hn1 hk
    have q2' := satE_cast h1 q2
    obtain ⟨l, bs, a1, a2, a3, a4⟩ := q2'
    subst a1
    refine ⟨.ref l, join_some a2, step_p x.sat fun vi H1 S1 st1 sat1 rp1 => ?_⟩
    rw [run_opt] at k
    cases er : rowAt (cast (congrArg SE.T h1) (ST.get i rw_ m) : List (List t.A)) (idx.den (ST.app rw_ ro m c)) with
    | none => rw [er] at k; exact k.elim
    | some row =>
      rw [er] at k
      dsimp only at k
      unfold rowAt at er
      by_cases hj : 0 ≤ idx.den (ST.app rw_ ro m c)
      · rw [if_pos hj] at er
        obtain ⟨b, vs, b1, b2, b3⟩ := a4.get (n := (idx.den (ST.app rw_ ro m c)).toNat) (x := row.map t.enc) (by rw [List.getElem?_map, er]; rfl)
        have hmO : ∀ a ∈ l :: bs, a ∈ O := fun a ha => by rw [q1]; simp at ha ⊢; rcases ha with h | h <;> simp [h]
        have hbm : b ∈ bs := List.mem_of_getElem? b1
        have hsame : ∀ {O1 : List Addr} {H' S' : Hp}, ESt H S Ow O1 H' S' → ∀ a ∈ O, H' a = H a := fun st a ha => x.sat.same st a (by simp [ha])
        have nO : O.Nodup := (List.nodup_append.mp (List.nodup_append.mp x.nd).2.1).2.1
        have nbs : (l :: bs).Nodup := by
          rw [q1] at nO
          exact (List.nodup_append.mp (List.nodup_append.mp nO).2.1).1
        have hlb : l ≠ b := fun z => (List.nodup_cons.mp nbs).1 (z ▸ hbm)
        refine ⟨l, bs.map V.ref, _, .ref b, rfl, rp1, SqL.of ((hsame st1 l (hmO l (by simp))).trans a3), ?_, .inl ⟨rfl, vs, SqL.of ((hsame st1 b (hmO b (by simp [hbm]))).trans b2)⟩, ?_⟩
        · have e : idx.den (ST.app rw_ ro m c) = ((idx.den (ST.app rw_ ro m c)).toNat : Int) := (Int.toNat_of_nonneg hj).symm
          rw [e]
          exact atI_nat (by rw [List.getElem?_map, b1]; rfl)
        · refine ⟨_, w, S1, Ow, _, sat1, ?_⟩
          cases e : Eff.run (arg.den (ST.app rw_ ro m c)) w with
          | mk o w' =>
            cases o with
            | bad => rw [run_bad' _ e] at k; exact k.elim
            | er z =>
              rw [run_er _ e] at k
              exact fun cls d H2 S2 st2 hw2 er2 => k cls d H2 S2 ((x.sstE (st1.trans st2)).widen (fun a ha => ha) (fun a ha => by cases ha) .nil) hw2 er2
            | ok y =>
              rw [run_ok _ e, run_opt] at k
              intro v2 H2 S2 O2 st2 hw2 se2
              obtain ⟨e2, u, e3, rp2⟩ := se2
              subst e2; cases e3
              have st := st1.trans st2
              unfold appO at k
              by_cases hz : row.length < sizeLine
              · rw [if_pos hz] at k
                dsimp only at k
                rw [Eff.run_pure] at k
                have hb2 : H2 b = some (.lst vs) := (hsame st b (hmO b (by simp [hbm]))).trans b2
                refine ⟨b, vs, v2, rfl, rfl, hb2, by rw [b3.len, List.length_map]; exact hz, ?_⟩
                have sst : SSt H S Ow O (O ++ []) H2 S2 := by rw [List.append_nil]; exact x.sstE st
                have hbO : b ∈ O := hmO b (by simp [hbm])
                refine k .non _ S2 O [] (sst.mut (by simp [hbO])) ?_ ?_ ⟨rfl, _, rfl, rfl⟩
                · refine Eff.ws_mono hw2 fun d hd => upd_ne fun z => ?_
                  subst z
                  exact (List.nodup_append.mp x.nd).2.2 d hd d (by simp [hbO]) rfl
                · have hne : ∀ a ∈ Oa ++ Ob, a ≠ b := fun a ha z => by
                    subst z
                    rw [q1] at nO
                    obtain ⟨n1, n2, n3⟩ := List.nodup_append.mp nO
                    rcases List.mem_append.mp ha with h | h
                    · exact n3 a h a (by simp [hbm]) rfl
                    · exact (List.nodup_append.mp n2).2.2 a (by simp [hbm]) a h rfl
                  have := q3 (.o2 t) (List.set (cast (congrArg SE.T h1) (ST.get i rw_ m) : List (List t.A)) (idx.den (ST.app rw_ ro m c)).toNat (row ++ [y])) (l :: bs) S2 (upd H2 b (.lst (vs ++ [v2]))) ?_ st.ext fun a ha => (upd_ne (hne a ha)).trans (hsame st a (by rw [q1]; rcases List.mem_append.mp ha with h | h <;> simp [h]))
                  · rw [← q1] at this; exact this
                  · refine ⟨l, bs, rfl, a2, by rw [upd_ne hlb]; exact (hsame st l (hmO l (by simp))).trans a3, ?_⟩
                    rw [List.map_set, List.map_append]
                    exact Rows.put st.ext upd_same ((b3.mono st.ext).app (RepL.cons rp2 RepL.nil)) a4 (List.nodup_cons.mp nbs).2 b1 fun a ha hne => (upd_ne hne).trans (hsame st a (hmO a (by simp [ha])))
              · rw [if_neg hz] at k; exact k.elim
      · rw [if_neg hj] at er; cases er
variable {o : OZ rw' r}
/-- for .. in ..: where owned lists are read alone -/
def SJ.forLend {tg iter : Expr} {body sts : List Stmt} {pos : Pos} {t : TY} {A : Ctx} {vs : List Nat} {rwE : Ctx} {r0 : SE} [FlatE r0] {ob : OZ rwE r0} {o0 : OZ rw' r0} (l : List Nat) (I : IJ M C (frz l rw_ ++ ro) tg iter t) (T : TG1 C tg t vs A) (b : SJ M C (frz l rw_ ++ ro) (A ++ []) body ob) (rest : SJ M C ro rw_ sts o0) (mkR : r0.T → o0.Z) (hR : ∀ x, o0.vw (mkR x) = .rt x := by intro _; rfl)
    (hkk : (frz l rw_).map (·.1) = rw_.map (·.1) := by rfl) (hE : pick [] rwE = [] := by rfl) (h2 : ∀ i ∈ vs, i ∉ (frz l rw_ ++ ro).map (·.1) := by first | decide | exact of_decide_eq_true rfl) (hp : C.p ∉ vs := by first | decide | exact of_decide_eq_true rfl) : SJ M C ro rw_ (.For tg iter body [] pos :: sts) o0 where
  den c m := (Eff.noer (I.den (ST.app _ _ (ST.frz l rw_ m) c) >>= fun xs => loopF (fun (y : t.A) (m1 : Unit) => b.den (ST.app _ _ (ST.frz l rw_ m) c) (ST.app A [] (T.f y) m1) >>= fun z => pure (FL.map (fun _ => ()) (ob.vw z))) xs () >>= fun fl => pure (FL.map (fun (_ : Unit) => ()) fl)) >>= fun fl => pure (FL.map (fun _ => m) fl)) >>= fun fl => match fl with
    | .nx m1 => rest.den c m1
    | .rt v => pure (mkR v)
  ok X Wx g tk := by
    refine seqF_ok (d1 := fun c m => Eff.noer (I.den (ST.app _ _ (ST.frz l rw_ m) c) >>= fun xs => loopF (fun (y : t.A) (m1 : Unit) => b.den (ST.app _ _ (ST.frz l rw_ m) c) (ST.app A [] (T.f y) m1) >>= fun z => pure (FL.map (fun _ => ()) (ob.vw z))) xs () >>= fun fl => pure (FL.map (fun (_ : Unit) => ()) fl)) >>= fun fl => pure (FL.map (fun _ => m) fl)) (PS.imp (for_core (rw_ := []) (ro := frz l rw_ ++ ro) g tk [] I T ob b hE (fun _ _ h => nomatch h) h2 hp) fun D σ H q => ?_) (rest.ok X Wx g tk) mkR hR
    obtain ⟨c, m, w, S, Ow, Oc, O, x, k⟩ := q
    have nO : O.Nodup := (List.nodup_append.mp (List.nodup_append.mp x.nd).2.1).2.1
    have dO : ∀ a ∈ O, S a = none := fun a ha => x.dis a (by simp [ha])
    obtain ⟨Of, Or, q1, q2, hl⟩ := x.es.fz l dO nO
    have hm : ∀ a, a ∈ Of ++ Or ↔ a ∈ O := fun a => q1.symm.mem_iff
    have dOf : ∀ a ∈ Of, S a = none := fun a ha => dO a ((hm a).mp (by simp [ha]))
    obtain ⟨m1, m2, m3⟩ := List.nodup_append.mp (q1.nodup nO)
    obtain ⟨n1, n2, n3⟩ := List.nodup_append.mp x.nd
    obtain ⟨n4, n5, n6⟩ := List.nodup_append.mp n2
    refine ⟨ST.app _ _ (ST.frz l rw_ m) c, (), w, own S H Of, Ow, Or ++ Oc, [], ⟨own_sub x.sub, fun a ha => ?_, ?_, x.ws, SatL.app q2 (x.ec.mono (own_ext dOf) fun _ _ => rfl), rfl, x.len⟩, ?_⟩
    · have ha : a ∈ Ow ∨ a ∈ Or ∨ a ∈ Oc := by simpa using ha
      have hn : a ∉ Of := fun h => by
        have hO := (hm a).mp (by simp [h])
        rcases ha with z | z | z
        · exact n3 a z a (by simp [hO]) rfl
        · exact m3 a h a z rfl
        · exact n6 a z a hO rfl
      rw [own_out hn]
      refine x.dis a ?_
      rcases ha with z | z | z
      · simp [z]
      · have := (hm a).mp (by simp [z]); simp [this]
      · simp [z]
    · rw [List.append_nil]
      refine List.nodup_append.mpr ⟨n1, List.nodup_append.mpr ⟨m2, n4, fun a ha b hb e => n6 b hb a ((hm a).mp (by simp [ha])) e.symm⟩, fun a ha b hb => n3 a ha b ?_⟩
      rcases List.mem_append.mp hb with z | z
      · have := (hm b).mp (by simp [z]); simp [this]
      · simp [z]
    · dsimp only at k
      generalize hd : (I.den (ST.app _ _ (ST.frz l rw_ m) c) >>= fun xs => loopF (fun (y : t.A) (m1 : Unit) => b.den (ST.app _ _ (ST.frz l rw_ m) c) (ST.app A [] (T.f y) m1) >>= fun z => pure (FL.map (fun _ => ()) (ob.vw z))) xs () >>= fun fl => pure (FL.map (fun (_ : Unit) => ()) fl)) = d0 at k
      show PostS M C.T.K C.p _ σ H _ Ow [] [] r0 Wx D (R.map id (Eff.run (I.den (ST.app _ _ (ST.frz l rw_ m) c) >>= fun xs => loopF (fun (y : t.A) (m1 : Unit) => b.den (ST.app _ _ (ST.frz l rw_ m) c) (ST.app A [] (T.f y) m1) >>= fun z => pure (FL.map (fun _ => ()) (ob.vw z))) xs () >>= fun fl => pure (FL.map (fun (_ : Unit) => ()) fl)) w).1, (Eff.run (I.den (ST.app _ _ (ST.frz l rw_ m) c) >>= fun xs => loopF (fun (y : t.A) (m1 : Unit) => b.den (ST.app _ _ (ST.frz l rw_ m) c) (ST.app A [] (T.f y) m1) >>= fun z => pure (FL.map (fun _ => ()) (ob.vw z))) xs () >>= fun fl => pure (FL.map (fun (_ : Unit) => ()) fl)) w).2)
      rw [hd]
      cases e : Eff.run d0 w with
      | mk fl w' =>
        have e' : Eff.run (Eff.noer d0) w = match (fl, w') with
          | (.er _, w') => (.bad, w')
          | o => o := by rw [Eff.run_noer, e]; cases fl <;> rfl
        cases fl with
        | bad => rw [run_bad' _ e'] at k; exact k.elim
        | er b => rw [run_bad' _ e'] at k; exact k.elim
        | ok fl =>
          rw [run_ok _ e', Eff.run_pure] at k
          cases fl with
          | rt v0 =>
            intro v H' S' O1 st hw se
            have st1 := ESt.back dOf st.toE
            exact k v H' _ O1 (st1.toS (fun a ha => x.est st1 a (by simp [ha])) (fun a ha => .inr ha) st1.n1) hw (se.flat (tupIn_back hl st.toE))
          | nx u =>
            intro σ' H' S' O' st hw es hsl hlen
            have eO : O' = [] := es
            subst eO
            have st1 := ESt.back dOf st.toE
            refine k σ' H' _ O (x.sstE st1) hw ((x.es' st1).slots fun i hi => ?_) (fun i hi => hsl i (hi.imp id fun h => by rw [List.map_append]; exact List.mem_append_right _ h)) hlen
            rw [hsl i (.inr (by rw [List.map_append, hkk]; exact List.mem_append_left _ hi))]
end
end Tp

set_option Elab.async false
set_option linter.all false
set_option maxRecDepth 100000
set_option maxHeartbeats 4000000
/-! Tp40: xs.index(y); repr of own instances; f-strings. -/
namespace Tp
open PySem PySem.Spec L2
open PyProof.Rows hiding St
def idxO (xs : List Int) (y : Int) : Option Int := if y ∈ xs then some (xs.idxOf y : Int) else none
theorem idxOf_first : ∀ {xs : List Int} {y : Int} {m : Nat} {z : Int}, m < xs.idxOf y → xs[m]? = some z → z ≠ y
  | [], _, _, _, h, _ => by simp at h
  | a :: r, y, m, z, h, e => by
    rw [List.idxOf_cons] at h
    by_cases q : a = y
    · subst q; simp at h
    · have q' : (a == y) = false := by simpa using q
      rw [q'] at h
      cases m with
      | zero => simp at e; subst e; exact q
      | succ m =>
        simp only [cond_false] at h
        exact idxOf_first (xs := r) (m := m) (by omega) (by simpa using e)
section
variable {M : Type → Type} [Eff M] {C : Cf} {G : Ctx}
def EJ.index {e1 e2 : Expr} {apos cpos : Pos} (x : EJ M C G e1 (.sh (.list .int))) (y : EJ M C G e2 (.sh .int))
    (hbase : ∀ env, attributeBase e1 ("index" : Str) env (eval e1 env) = eval e1 env := by intro _; rfl) (hfew : ∀ env, ((backTo cpos (starEach [e2] env)).all (fun x => !x.1) && (backToKw cpos (keywordEach [] env)).all (fun x => x.1.isSome)
      && decide ([e2].length + ([] : List Keyword).length + (if ([] : List Keyword).isEmpty then 0 else 1) < 30)) = true := by intro _; rfl) (hline : (apos.endLine == cpos.line) = true := by rfl) (hs : ∀ env, starEach [e2] env = (false, eval e2 env) :: starEach [] env := by intro _; rfl) :
    EJ M C G (.Call (.Attribute e1 "index" apos) [e2] [] cpos) (.sh .int) where
  den s := x.den s >>= fun xs => y.den s >>= fun j => optM (idxO xs j)
  ok X Wx g tk := by
    refine PE.imp (pe_bm PySem.F.plainAttrs_list PySem.F.slot_list_index PySem.F.type_list_index mt_index (x.ok X Wx g tk) (pa_cons (y.ok X Wx g tk) pa_nil (hs _)) (hbase _) (hfew _) hline (hs _) rfl) fun σ H Q q => ?_
    obtain ⟨s, w, S, Ow, O, sat, k⟩ := q
    refine step_E sat k fun xs w1 v1 H1 S1 st1 sat1 rp1 k1 => ?_
    obtain ⟨a, vs, rfl, e2, e3⟩ := rp1
    rw [repL_ints e3] at e2
    refine ⟨.inl ⟨rfl, _, sqL_of sat1.sub e2⟩, step_E sat1 k1 fun j w2 v2 H2 S2 st2 sat2 rp2 k2 => ?_⟩
    rw [run_optM] at k2
    unfold idxO at k2
    by_cases h : j ∈ xs
    · rw [if_pos h] at k2
      have hl := List.idxOf_lt_length_of_mem h
      refine ⟨a, xs.map V.int, v2, xs.idxOf j, .int j, rfl, rfl, by rw [g.K]; exact sqL_of sat2.sub (st2.ext _ _ e2), by rw [show v2 = V.int j from rp2]; rfl, by simp [flatV], ?_, ?_, ?_, ?_⟩
      · rw [List.getElem?_map, List.getElem?_eq_getElem hl, List.getElem_idxOf hl]; rfl
      · rw [show v2 = V.int j from rp2]; simp [eqV]
      · intro m z' hm hz
        rw [List.getElem?_map] at hz
        cases e : xs[m]? with
        | none => rw [e] at hz; cases hz
        | some z =>
          rw [e] at hz; cases hz
          rw [show v2 = V.int j from rp2]
          have := idxOf_first hm e
          simp [eqV, this]
      · exact k2 _ H2 S2 [] (ESt.refl sat2.sub) sat2.ws ⟨rfl, _, rfl, rfl⟩
    · rw [if_neg h] at k2; exact k2.elim
end
/-! ### repr of own instances -/
section
variable {prog : Program} {w : World} {A : Around} {E : Value → Shared → Prop} {s : Shared} {K : PySem.W.Frag} {x D fe : Addr} {ox : Obj} {od : Option Obj}
theorem repr_K {Q : Value → Shared → Prop} (hu : A.in1.units < cLine) (X : K.In s.heap) (I : PySem.W.InstAt s.heap x ox D od) (hs : PySem.W.findIn K (.ref D) "__repr__" = some (some (.ref fe))) (hf : PySem.W.isFn K (.ref fe) = true)
    (hcall : wpAny (model prog w) A.in1 (call (.ref fe) [.ref x]) (fun r s' => ∃ m tk, r = .str m tk ∧ Q (.str m tk) s') E s) : wpAny (model prog w) A (call (.builtin "repr") [.ref x]) Q E s := by
  refine Calls.call_function_entry PySem.F.kind_repr PySem.F.plain_repr PySem.F.entry_repr (PySem.F.args_repr1 _) ?_
  unfold Builtin.«repr»
  refine wpAny_bind (m := oneArg "repr" _) (wpAny_pure ?_)
  refine wpAny_bind (wpAny_cRoomFor hu ?_)
  refine wpAny_bind (m := specialOf (.ref x) _) ?_
  · unfold specialOf
    refine wpAny_bind (I.type.here ?_)
    refine (PySem.W.looks_findIn X hs).here ?_
    show wpAny _ _ (if (some (Value.ref fe)).isNone = true then _ else _) _ _ _
    rw [if_neg (by simp)]
    refine wpAny_bind (m := callSpecialIfBound? (.ref x) (Str.ofString "__repr__") _) (PySem.W.ifBound_K X I hs hf (wpAny_mono hcall (fun r s' hr => ?_) fun _ _ y => y))
    obtain ⟨m, tk, rfl, hq⟩ := hr
    refine wpAny_bind (wpAny_isInstance (typeIs_str _ _ _) isSubtype_str_str ?_)
    first
      | exact wpAny_pure ⟨_, rfl, hq⟩
      | (rw [if_pos rfl]; exact wpAny_pure ⟨_, rfl, hq⟩)
      | (simp only [if_true]; exact wpAny_pure ⟨_, rfl, hq⟩)
end
section
variable {M : Type → Type} [Eff M] {C : Cf} {G : Ctx}
/-- a built-in function that calls the code, an answer that is no object -/
def FnW (C : Cf) (f : Value) (a b : TY) (g : a.A → Option b.A) : Prop := ∀ X, XG C X → CallR X f (fun xs H Q => ∃ v, ∃ i : a.A, ∃ y : b.A, ∃ S, xs = [v] ∧ Sub S H ∧ Rep C.T.K S (a.enc i) v ∧ g i = some y ∧ ∀ v' H' S', ESt H S [] [] H' S' → (∀ S, Rep C.T.K S (b.enc y) v') → Q v' H')
theorem fw_repr {c : Str} {k : Nat} {ps : List Str} {fs : List (Str × TY)} {p' : Nat} {f : ST [] → ST [(0, .sh (TY.ins c fs))] → R Str} (F : Mth C.T k c "__repr__" ps (spF R C.T.K ps.length p' [] [(0, .sh (TY.ins c fs))] (.sh .str) f)) (hn : ps.length = 1 := by rfl) (hk : k + 1 ≤ C.k := by first | decide | exact of_decide_eq_true rfl) :
    FnW C (.builtin "repr") (TY.ins c fs) .str fun i => R.opt (f () (i, ())) := fun X g => by
  intro pins s σ H xs us Q I r h
  obtain ⟨v, i, z, S, rfl, sub, r1, e, q⟩ := h
  obtain ⟨fa, fd, h1, h2, h3, h4⟩ := F.ex
  have r1' := r1
  obtain ⟨a, dx, gs, rfl, e1, _⟩ := r1'
  obtain ⟨u, rfl, rx⟩ := vals1 r
  cases rx
  have e1' := sub _ _ e1
  rw [← g.K] at e1'
  obtain ⟨mA, J, _⟩ := ins_get I.hok e1'
  obtain ⟨od, J, _⟩ := J.look
  have ez : f () (i, ()) = .ok z := by
    dsimp only at e
    cases e3 : f () (i, ()) with
    | ok a => rw [e3] at e; cases e; rfl
    | er a => rw [e3] at e; cases e
    | bad => rw [e3] at e; cases e
  have hr : RG (k + 1) X.A := g.room.mono hk
  refine repr_K (hr.in1).r.units0 I.kIn J (by rw [g.K]; exact h2.at_) (by rw [g.K]; exact h2.fn) ?_
  have hsp : spF R C.T.K ps.length p' [] [(0, .sh (TY.ins c fs))] (.sh .str) f [.ref a] H (fun v H' => v = .str z ∧ Q (.str z) H') fun _ _ _ => False := by
    refine ⟨hn.symm ▸ rfl, (), (i, ()), (), S, [], [], ⟨sub, fun b hb => by simp at hb, by simp, rfl, rfl, ?_, hn.symm ▸ rfl⟩, ?_⟩
    · exact ⟨[], [], rfl, ⟨rfl, _, rfl, r1⟩, rfl⟩
    · show PostE R C.T.K p' _ H S [] (.sh .str) _ _ (f () (i, ()), ())
      rw [ez]
      intro v H' S' O1 st hw se
      obtain ⟨rfl, u, eu, ru⟩ := se
      cases eu
      exact ⟨ru, q _ H' S' st fun _ => rfl⟩
  have e0 : Env0 X.prog X.w X.K X.mg X.base X.A.in1 X.stack s H := by
    have e := I.env0
    exact ⟨e.frames, e.mod, e.bs, e.bsz, e.funs, e.frf, e.hok, e.bare⟩
  have rv : Vals [V.ref a] [Value.ref a] := .cons rfl .nil
  have F' := g.fnok h3
  refine wpAny_call (codeAny_mono (F'.run X.A.in1 X.stack s H ⟨[.ref a], []⟩ [.ref a] [.ref a] _ (fun _ _ _ => False) hr.in1 e0 (by
    have h4' : Binds X.K fd ps [] := by rw [g.K]; exact h4
    have := h4' s [.ref a] I.kIn (by simp [hn])
    simpa using this) rv hsp) fun out s' hq' => ?_)
  cases out with
  | error e =>
    obtain ⟨_, _, _, _, _, _, _, _, _, _, _, _, z⟩ := hq'
    exact z.elim
  | ok fl =>
    cases fl with
    | ret u =>
      obtain ⟨v, H', I', rv, ev, qz⟩ := I.after hq'
      subst ev
      obtain ⟨tk, rfl⟩ := rv
      exact ⟨z, tk, rfl, .str z, H', I', ⟨_, rfl⟩, qz⟩
    | next => exact hq'.elim
    | brk => exact hq'.elim
    | cont => exact hq'.elim
def EJ.fnW {x : Str} {p pos : Pos} {e : Expr} {f : Value} {a b : TY} {g : a.A → Option b.A} (F : FnW C f a b g) (bt : Bt x f) (hm : C.T.mg x = none) (y : EJ M C G e (.sh a)) (hg : C.sc.names.lookup x = some .globalImplicit := by rfl) (hn : x ≠ "__name__" := by first | decide | exact of_decide_eq_true rfl) (hdb : (x == ("__debug__" : Str)) = false := by first | decide | exact of_decide_eq_true rfl)
    (h1 : ∀ env, starEach [e] env = (false, eval e env) :: starEach [] env := by intro _; rfl) : EJ M C G (.Call (.Name x p) [e] [] pos) (.sh b) where
  den s := y.den s >>= fun i => optM (g i)
  ok X Wx gx tk := by
    refine PE.imp (pe_bt bt (F X gx) (gx.gl hg) (by rw [gx.mg]; exact hm) (pa_cons (y.ok X Wx gx tk) pa_nil (h1 _)) hn hdb (h1 _) rfl) fun σ H Q q => ?_
    obtain ⟨s, w, S, Ow, O, x, k⟩ := q
    refine step_E x k fun i w1 v1 H1 S1 st1 sat1 rp1 k1 => ?_
    rw [run_optM] at k1
    cases e : g i with
    | none => rw [e] at k1; exact k1.elim
    | some z =>
      rw [e] at k1
      exact ⟨v1, i, z, S1, rfl, sat1.sub, rp1, e, fun v' H2 S2 st2 h => k1 v' H2 S2 [] st2.wide (ws_thru sat1.ws st2) ⟨rfl, v', rfl, h S2⟩⟩
/-! ### f-strings -/
def joinO (x y : Str) : Option Str := if (x ++ y).length ≤ sizeLine then some (x ++ y) else none
def intText (i : Int) : Option Str := if i.natAbs.log2 < 1920 then some (toString i) else none
def strText (x : Str) : Option Str := if x.length ≤ sizeLine then some x else none
def PostF (M : Type → Type) [Eff M] (K : PySem.W.Frag) (p : Nat) (σ : St) (H S : Hp) (Ow : List Addr) (Wx : Value → Option Addr → Hp → Prop) (Q : Str → Hp → Prop) : R Str × Eff.W M → Prop
  | (.ok x, w') => ∀ H' S', ESt H S Ow [] H' S' → Eff.ws (M := M) w' (σ[p]?.join) H' Ow → Q x H'
  | (.er x, w') => ∀ cls d H' S', ESt H S Ow [] H' S' → Eff.ws (M := M) w' (σ[p]?.join) H' Ow → ErrR K S' x cls d → Wx cls d H'
  | (.bad, _) => False
theorem PostF.pre {K : PySem.W.Frag} {p : Nat} {σ : St} {H S H1 S1 : Hp} {Ow : List Addr} {Wx : Value → Option Addr → Hp → Prop} {Q : Str → Hp → Prop} (st : ESt H S Ow [] H1 S1) : ∀ {o : R Str × Eff.W M}, PostF M K p σ H S Ow Wx Q o → PostF M K p σ H1 S1 Ow Wx Q o
  | (.ok x, w'), h => fun H' S' a b => h H' S' (st.trans a) b
  | (.er x, w'), h => fun cls d H' S' a b c => h cls d H' S' (st.trans a) b c
  | (.bad, _), h => h
variable (M) in
structure FJ (C : Cf) (G : Ctx) (es : List Expr) where
  den : ST G → Str → M Str
  ok : ∀ X Wx, XG C X → Takes X Wx → ∃ ts, PJ X es ts ∧ ∀ acc σ H Q, (∃ s w S Ow O, Sat M C.T.K C.p G s w σ H S Ow O ∧ PostF M C.T.K C.p σ H S Ow (fun cls d H' => Wx cls d σ H') Q (Eff.run (den s acc) w)) → tJs ts acc σ H Q
def FJ.nil : FJ M C G [] where
  den _ acc := pure acc
  ok X Wx g tk := ⟨[], .nil, fun acc σ H Q q => by
    obtain ⟨s, w, S, Ow, O, x, k⟩ := q
    rw [Eff.run_pure] at k
    exact k H S (ESt.refl x.sub) x.ws⟩
def FJ.str {c : Str} {k : Nat} {pos : Pos} {es : List Expr} (b : FJ M C G es) : FJ M C G (.Constant (.str c) k pos :: es) where
  den s acc := optM (joinO acc c) >>= fun a => b.den s a
  ok X Wx g tk := by
    obtain ⟨ts, h1, h2⟩ := b.ok X Wx g tk
    refine ⟨_, .cons pe_str h1, fun acc σ H Q q => ?_⟩
    obtain ⟨s, w, S, Ow, O, x, k⟩ := q
    rw [run_opt] at k
    unfold joinO at k
    by_cases hz : (acc ++ c).length ≤ sizeLine
    · rw [if_pos hz] at k
      exact ⟨c, rfl, hz, h2 _ σ H Q ⟨s, w, S, Ow, O, x, k⟩⟩
    · rw [if_neg hz] at k; exact k.elim
def FJ.int {e : Expr} {pos : Pos} {es : List Expr} (x : EJ M C G e (.sh .int)) (b : FJ M C G es) : FJ M C G (.FormattedValue e (-1) none pos :: es) where
  den s acc := x.den s >>= fun i => optM (intText i) >>= fun y => optM (joinO acc y) >>= fun a => b.den s a
  ok X Wx g tk := by
    obtain ⟨ts, h1, h2⟩ := b.ok X Wx g tk
    refine ⟨_, .cons (pe_fmt (x.ok X Wx g tk)) h1, fun acc σ H Q q => ?_⟩
    obtain ⟨s, w, S, Ow, O, sat, k⟩ := q
    refine step_gen (fun H S o => PostF M C.T.K C.p σ H S Ow (fun cls d H' => Wx cls d σ H') Q o) sat k (fun _ _ _ st z => z.pre st) (fun b w' z => z) (fun _ z => z) fun i w1 v1 H1 S1 _ st1 sat1 rp1 k1 => ?_
    rw [run_opt] at k1
    unfold intText at k1
    by_cases hb : i.natAbs.log2 < 1920
    · rw [if_pos hb] at k1
      dsimp only at k1
      rw [run_opt] at k1
      unfold joinO at k1
      by_cases hz : (acc ++ (toString i : Str)).length ≤ sizeLine
      · rw [if_pos hz] at k1
        exact .inr ⟨i, rp1, hb, _, rfl, hz, h2 _ σ H1 Q ⟨s, w1, S1, Ow, O, sat1, k1⟩⟩
      · rw [if_neg hz] at k1; exact k1.elim
    · rw [if_neg hb] at k1; exact k1.elim
def FJ.text {e : Expr} {pos : Pos} {es : List Expr} (x : EJ M C G e (.sh .str)) (b : FJ M C G es) : FJ M C G (.FormattedValue e (-1) none pos :: es) where
  den s acc := x.den s >>= fun i => optM (strText i) >>= fun y => optM (joinO acc y) >>= fun a => b.den s a
  ok X Wx g tk := by
    obtain ⟨ts, h1, h2⟩ := b.ok X Wx g tk
    refine ⟨_, .cons (pe_fmt (x.ok X Wx g tk)) h1, fun acc σ H Q q => ?_⟩
    obtain ⟨s, w, S, Ow, O, sat, k⟩ := q
    refine step_gen (fun H S o => PostF M C.T.K C.p σ H S Ow (fun cls d H' => Wx cls d σ H') Q o) sat k (fun _ _ _ st z => z.pre st) (fun b w' z => z) (fun _ z => z) fun i w1 v1 H1 S1 _ st1 sat1 rp1 k1 => ?_
    rw [run_opt] at k1
    unfold strText at k1
    by_cases hb : i.length ≤ sizeLine
    · rw [if_pos hb] at k1
      dsimp only at k1
      rw [run_opt] at k1
      unfold joinO at k1
      by_cases hz : (acc ++ i).length ≤ sizeLine
      · rw [if_pos hz] at k1
        exact .inl ⟨i, rp1, hb, _, rfl, hz, h2 _ σ H1 Q ⟨s, w1, S1, Ow, O, sat1, k1⟩⟩
      · rw [if_neg hz] at k1; exact k1.elim
    · rw [if_neg hb] at k1; exact k1.elim
def EJ.fstr {v1 v2 : Expr} {rest : List Expr} {pos : Pos} (a : FJ M C G (v1 :: v2 :: rest)) : EJ M C G (.JoinedStr (v1 :: v2 :: rest) pos) (.sh .str) where
  den s := a.den s Str.empty
  ok X Wx g tk := by
    obtain ⟨ts, h1, h2⟩ := a.ok X Wx g tk
    refine PE.imp (pe_joined h1) fun σ H Q q => ?_
    obtain ⟨s, w, S, Ow, O, sat, k⟩ := q
    refine h2 _ σ H _ ⟨s, w, S, Ow, O, sat, ?_⟩
    cases e : Eff.run (a.den s Str.empty) w with
    | mk o w' =>
      rw [e] at k
      cases o with
      | ok z => exact fun H' S' st hw => k (.str z) H' S' [] st hw ⟨rfl, _, rfl, rfl⟩
      | er b => exact k
      | bad => exact k
end
end Tp

set_option Elab.async false
set_option linter.all false
set_option maxRecDepth 100000
set_option maxHeartbeats 4000000
/-! Tp41: comprehensions whose items are new lists of one's own. -/
namespace Tp
open PySem PySem.Spec L2
open PyProof.Rows hiding St
theorem Rows.app {K : PySem.W.Frag} {S H : Hp} : ∀ {xs ys : List (List PV)} {bs cs : List Addr}, Rows K S H xs bs → Rows K S H ys cs → Rows K S H (xs ++ ys) (bs ++ cs)
  | [], _, _, _, h, q => by cases h; exact q
  | x :: xs, ys, bs, cs, h, q => by
    obtain ⟨b, r, vs, rfl, h2, h3, h4⟩ := h
    exact ⟨b, r ++ cs, vs, rfl, h2, h3, Rows.app h4 q⟩
theorem ESt.bump2 {H1 S1 H S H' S' : Hp} {Ow bs O2 : List Addr} {D : Addr} {o2 : HO} (a : ESt H1 S1 Ow (D :: bs) H S) (hth : ∀ x ∈ D :: bs, ∃ o, H x = some o) (b : ESt H S Ow O2 H' S') : ESt H1 S1 Ow (D :: (bs ++ O2)) (upd H' D o2) S' := by
  have c : ESt H1 S1 Ow ((D :: bs) ++ O2) H' S' := a.trans2 b hth
  have hn := (a.o1 D (by simp)).1
  have hs := (c.o1 D (by simp)).2
  refine ⟨c.ext, fun x u h e => ?_, fun x u e => ?_, c.new, fun x u e => ?_, fun x hx => c.o1 x (by simpa using hx), c.n1⟩
  · rw [upd_ne (fun z => by subst z; rw [hn] at e; cases e)]; exact c.fr x u h e
  · obtain ⟨u', e'⟩ := c.th x u e
    exact ⟨u', by rw [upd_ne (fun z => by subst z; rw [hn] at e; cases e)]; exact e'⟩
  · rw [upd_ne (fun z => by subst z; rw [hs] at e; cases e)]; exact c.sub x u e
section
variable {M : Type → Type} [Eff M] {C : Cf} {G : Ctx}
def lcT2 {elt tg iter : Expr} {ifs : List Expr} {scope : Scope} {t u : TY} {A : Ctx} {vs : List Nat} (own : List (Str × Nat)) (I : IJ M C G tg iter t) (T : TG1 (C.blk scope) tg t vs A) (c : CJ M (C.blk scope) (A ++ G) ifs) (e : EJ M (C.blk scope) (A ++ G) elt (.o1 u)) (Wx : WX) : TE :=
  tLc (fun σ H R => ∃ s w S Ow O, Sat M C.T.K C.p G s w σ H S Ow O ∧ PostI M C.T.K C.p σ H S Ow t (fun cls d H' => Wx cls d σ H') R (Eff.run (I.den s) w)) T.g (tT M C.T.K C.p (A ++ G) c.den (fun _ _ _ _ => False)) (tE M C.T.K C.p (A ++ G) (.o1 u) e.den (fun _ _ _ _ => False)) (own.map (·.2))
theorem lc2_imp {elt tg iter : Expr} {ifs : List Expr} {scope : Scope} {t u : TY} {A : Ctx} {vs : List Nat} {own : List (Str × Nat)} {I : IJ M C G tg iter t} {T : TG1 (C.blk scope) tg t vs A} {c : CJ M (C.blk scope) (A ++ G) ifs} {e : EJ M (C.blk scope) (A ++ G) elt (.o1 u)}
    (hv : own.map (·.2) = vs) (hd : ∀ i ∈ vs, i ∉ G.map (·.1)) (hp : C.p ∉ vs) {Wx : WX} {σ : St} {H : Hp} {Q : VK} (hlen : σ.length = C.N.length)
    (q : tE M C.T.K C.p G (.o2 u) (fun s => I.den s >>= fun xs => Eff.noer (compM (compF (fun y => c.den (ST.app A G (T.f y) s)) fun y => e.den (ST.app A G (T.f y) s)) xs)) Wx σ H Q) : lcT2 own I T c e Wx σ H Q := by
  obtain ⟨s, w, S, Ow, O, sat, k⟩ := q
  refine ⟨s, w, S, Ow, O, sat, ?_⟩
  rw [hv]
  cases e1 : Eff.run (I.den s) w with
  | mk o w1 =>
    cases o with
    | er b => rw [run_er _ e1] at k; exact k
    | bad => rw [run_bad' _ e1] at k; exact k
    | ok xs =>
      rw [run_ok _ e1, Eff.run_noer] at k
      intro J H1 S1 st1 hw1 hlen1 W D hD
      cases e2 : Eff.run (compM (compF (fun y => c.den (ST.app A G (T.f y) s)) fun y => e.den (ST.app A G (T.f y) s)) xs) w1 with
      | mk o wN =>
        rw [e2] at k
        cases o with
        | er b => exact k.elim
        | bad => exact k.elim
        | ok ys =>
          let Pv : Nat → Hp → Prop := fun i Hh => ∃ Sh wh, ∃ (accY : List (List u.A)), ∃ accB : List Addr, ∃ (rest : List (List u.A)), ESt H S Ow (D :: accB) Hh Sh ∧ Ext S1 Sh ∧ Eff.ws (M := M) wh (σ[C.p]?.join) Hh Ow ∧ Hh D = Option.some (HO.lst (accB.map V.ref)) ∧ Rows C.T.K Sh Hh (accY.map (·.map u.enc)) accB ∧ accY.length ≤ i ∧
            Eff.run (compM (compF (fun y => c.den (ST.app A G (T.f y) s)) fun y => e.den (ST.app A G (T.f y) s)) (xs.drop i)) wh = (.ok rest, wN) ∧ ys = accY ++ rest
          refine ⟨fun i m Hh => m = xs.length - i ∧ i ≤ xs.length ∧ Pv i Hh, ⟨xs.length, by simp, Nat.zero_le _, S1, w1, [], [], ys, st1.new1 hD, fun _ _ h => h, ws_new hw1 hD, upd_same, rfl, Nat.le_refl _, e2, rfl⟩, ?_⟩
          rintro i m Hh ⟨rfl, hi, Sh, wh, accY, accB, rest, st, ex, hws, hDl, rl, hal, hr, hy⟩
          have sub0 : Sub S1 Hh := ex.sub st.sub
          by_cases hlt : i < xs.length
          · refine .inr ⟨W.go i Hh hlt sub0, Pv (i + 1), fun H' p' => ⟨xs.length - (i + 1), by omega, rfl, hlt, p'⟩, fun v H' hyl => ?_⟩
            have hxi : xs[i]? = Option.some xs[i] := by simp [hlt]
            obtain ⟨S2, st2, rp⟩ := W.yld i xs[i] Hh Sh v H' hxi ex st.sub hyl
            rw [List.drop_eq_getElem_cons hlt] at hr
            obtain ⟨oy, w3, r3, hf, hr3, hrest⟩ := run_compM hr
            have hth : ∀ a ∈ D :: accB, ∃ o, Hh a = some o := fun a ha => by
              rcases List.mem_cons.mp ha with rfl | ha
              · exact ⟨_, hDl⟩
              · obtain ⟨vs, q⟩ := Rows.there rl a ha; exact ⟨_, q⟩
            have stD := st.trans2 (st2.wide (Ow := Ow)) hth
            have hD2 : H' D = Option.some (HO.lst (accB.map V.ref)) := st2.fr _ _ (by simp) hDl
            have hDa : ∀ a ∈ Ow, a ∉ D :: accB := fun a ha z => by
              obtain ⟨o, eo⟩ := Eff.ws_there sat.ws _ ha
              rw [(st.o1 a z).1] at eo; cases eo
            have hDs : ∀ a ∈ Ow, a ≠ D := fun a ha z => hDa a ha (by simp [z])
            have rw2 : ∀ a ∈ accB, H' a = Hh a := fun a ha => by
              obtain ⟨o, eo⟩ := hth a (by simp [ha])
              rw [eo]; exact st2.fr _ _ (by simp) eo
            have hws2 : Eff.ws (M := M) wh (σ[C.p]?.join) H' Ow := Eff.ws_mono hws fun a ha => by
              obtain ⟨o, eo⟩ := Eff.ws_there hws a ha
              rw [eo]; exact st2.fr _ _ (by simp) eo
            refine T.run v xs[i] S2 (wipe σ vs) H' _ st2.sub rp (by rw [wipe_length, hlen]; rfl) fun σ2 l2 o2 s2 => ⟨?_, ?_⟩
            · exact wipe_eq (l2.trans (wipe_length ..)) fun j hj => (o2 j hj).trans (wipe_get hj)
            have sat2 : Sat M C.T.K C.p (A ++ G) (ST.app A G (T.f xs[i]) s) wh σ2 H' S2 Ow O := by
              have z := sat.after (S' := S2) (H' := H') (O1 := D :: accB) (by simpa using stD) hws2
              exact z.blk (fun j hj => (o2 j hj).trans (wipe_get hj)) (s2 H' S2 fun _ _ h => h) hd hp
            obtain ⟨b, w4, hc, hf2⟩ := bind_ok hf
            refine ⟨_, wh, S2, Ow, O, sat2, ?_⟩
            show PostT M C.T.K C.p σ2 H' S2 Ow _ _ _
            rw [hc]
            intro H3 S3 st3 hws3
            have hD3 : H3 D = Option.some (HO.lst (accB.map V.ref)) := st3.fr _ _ (fun z => hDs D z rfl) hD2
            have stD3 := stD
            have rw3 : ∀ a ∈ accB, H3 a = Hh a := fun a ha => by
              obtain ⟨o, eo⟩ := hth a (by simp [ha])
              rw [eo]; exact st3.fr _ _ (fun z => hDa a z (by simp [ha])) ((rw2 a ha).trans eo)
            have pj : (σ2[C.p]?.join) = (σ[C.p]?.join) := by rw [o2 _ hp, wipe_get hp]
            rw [pj] at hws3
            have ex3 : Ext Sh S3 := st2.ext.trans st3.ext
            cases b with
            | false =>
              rw [if_neg Bool.false_ne_true] at hf2 ⊢
              rw [Eff.run_pure] at hf2
              cases hf2
              refine ⟨S3, w3, accY, accB, rest, ?_, ex.trans ex3, hws3, hD3, Rows.mono ex3 rl rw3, Nat.le_succ_of_le hal, ?_, hy⟩
              · have := stD3.trans2 st3 fun a ha => by
                  obtain ⟨o, eo⟩ := hth a (by simpa using ha)
                  exact ⟨o, st2.fr _ _ (by simp) eo⟩
                simpa using this
              · rw [hr3, hrest]
            | true =>
              rw [if_pos rfl] at hf2 ⊢
              obtain ⟨z, w5, he, hp5⟩ := bind_ok hf2
              rw [Eff.run_pure] at hp5
              cases hp5
              have sat3 : Sat M C.T.K C.p (A ++ G) (ST.app A G (T.f xs[i]) s) w4 σ2 H3 S3 Ow O := sat2.after st3 (by rw [pj]; exact hws3)
              refine ⟨_, w4, S3, Ow, O, sat3, ?_⟩
              show PostE M C.T.K C.p σ2 H3 S3 Ow (.o1 u) _ _ _
              rw [he]
              intro v4 H4 S4 O4 st4 hws4 se
              obtain ⟨b4, vs4, q1, q2, q3, rp4⟩ := se
              subst q1; cases q2
              rw [pj] at hws4
              have hD4 : H4 D = Option.some (HO.lst (accB.map V.ref)) := st4.fr _ _ (fun z => hDs D z rfl) hD3
              have rw4 : ∀ a ∈ accB, H4 a = Hh a := fun a ha => by
                obtain ⟨o, eo⟩ := hth a (by simp [ha])
                rw [eo]; exact st4.fr _ _ (fun z => hDa a z (by simp [ha])) ((rw3 a ha).trans eo)
              have rlen : ∀ {xs : List (List PV)} {bs : List Addr}, Rows C.T.K Sh Hh xs bs → bs.length = xs.length := fun {xs} => by
                induction xs with
                | nil => intro bs h; cases h; rfl
                | cons x xs ih => intro bs h; obtain ⟨b, r, vs, rfl, _, _, h⟩ := h; simp [ih h]
              have s23 : ESt Hh Sh Ow [b4] H4 S4 := (st2.wide (Ow := Ow)).trans (st3.trans st4)
              have hbn : ∀ a ∈ D :: accB, a ≠ b4 := fun a ha z => by
                obtain ⟨o, eo⟩ := hth a ha
                rw [z, (s23.o1 b4 (by simp)).1] at eo; cases eo
              refine ⟨accB.map V.ref, hD4, ?_, S4, w3, accY ++ [z], accB ++ [b4], r3, ?_, ex.trans (ex3.trans st4.ext), ?_, by rw [upd_same, List.map_append]; rfl, ?_, by simp; omega, hr3, ?_⟩
              · have := rlen rl
                rw [List.length_map] at this
                rw [List.length_map]
                omega
              · exact st.bump2 hth s23
              · exact Eff.ws_mono hws4 fun a ha => upd_ne (hDs a ha)
              · rw [List.map_append]
                have nD : D ∉ accB := (List.nodup_cons.mp st.n1).1
                refine Rows.app (Rows.mono (ex3.trans st4.ext) rl fun a ha => ?_) ?_
                · rw [upd_ne (fun z : a = D => nD (by rw [← z]; exact ha))]; exact rw4 a ha
                · exact ⟨b4, [], vs4, rfl, by rw [upd_ne (Ne.symm (hbn D (by simp)))]; exact q3, rp4, rfl⟩
              · rw [hy, hrest]; simp
          · have e : i = xs.length := by omega
            subst e
            refine .inl ⟨W.stop Hh sub0, ?_⟩
            rw [List.drop_length] at hr
            have hr' : Eff.run (pure [] : M (List (List u.A))) wh = (.ok rest, wN) := hr
            rw [Eff.run_pure] at hr'
            cases hr'
            rw [List.append_nil] at hy
            subst hy
            exact k _ Hh Sh (D :: accB) st hws ⟨D, accB, rfl, rfl, hDl, rl⟩
def EJ.lc2 {elt tg iter : Expr} {ifs : List Expr} {scope : Scope} {pos : Pos} {t u : TY} {A : Ctx} {vs : List Nat} (own : List (Str × Nat)) (I : IJ M C G tg iter t) (T : TG1 (C.blk scope) tg t vs A) (c : CJ M (C.blk scope) (A ++ G) ifs) (e : EJ M (C.blk scope) (A ++ G) elt (.o1 u))
    (hv : own.map (·.2) = vs := by rfl) (hb : blkC C.N C.sc scope own = true := by first | decide +kernel | (dsimp only [Cf.blk]; decide +kernel) | rfl) (hd : ∀ i ∈ vs, i ∉ G.map (·.1) := by first | decide | exact of_decide_eq_true rfl) (hp : C.p ∉ vs := by first | decide | exact of_decide_eq_true rfl) : EJ M C G (.ListComp elt [⟨tg, iter, ifs, 0⟩] scope pos) (.o2 u) where
  den s := I.den s >>= fun xs => Eff.noer (compM (compF (fun y => c.den (ST.app A G (T.f y) s)) fun y => e.den (ST.app A G (T.f y) s)) xs)
  ok X Wx g tk := PE.imp (PE.len0 (pe_lc (own := own) g.calm (by rw [g.n]; exact g.nd) (I.ok X Wx g tk) (by rw [g.n, g.sc]; exact blkOk_by hb) (fun s H L cl fp => T.ok _ (g.blk s H L cl fp)) (fun s H L cl fp => c.ok _ (fun _ _ _ _ => False) (g.blk s H L cl fp) takes0)
      (fun s H L cl fp => e.ok _ (fun _ _ _ _ => False) (g.blk s H L cl fp) takes0) (I.nf _))) fun σ H Q q hlen => lc2_imp hv hd hp (hlen.trans (congrArg List.length g.n)) q
def EC.lc2 {elt tg iter : Expr} {ifs : List Expr} {scope : Scope} {pos : Pos} {t u : TY} {A : Ctx} {vs : List Nat} (own : List (Str × Nat)) (I : IJ M C G tg iter t) (T : TG1 (C.blk scope) tg t vs A) (c : CJ M (C.blk scope) (A ++ G) ifs) (e : EJ M (C.blk scope) (A ++ G) elt (.o1 u))
    (hv : own.map (·.2) = vs := by rfl) (hb : blkC C.N C.sc scope own = true := by first | decide +kernel | (dsimp only [Cf.blk]; decide +kernel) | rfl) (hd : ∀ i ∈ vs, i ∉ G.map (·.1) := by first | decide | exact of_decide_eq_true rfl) (hp : C.p ∉ vs := by first | decide | exact of_decide_eq_true rfl) : EC M C G (.ListComp elt [⟨tg, iter, ifs, 0⟩] scope pos) (.o2 u) where
  j := EJ.lc2 own I T c e hv hb hd hp
  tl Wx := lcT2 own I T c e Wx
  imp Wx σ H Q hl q := lc2_imp hv hd hp hl q
  ps X Wx g tk i y py spos hy hyl hsw := ps_setLc (own := own) g.calm (by rw [g.n]; exact g.nd) hy hyl hsw (I.ok X Wx g tk) (by rw [g.n, g.sc]; exact blkOk_by hb) (fun s H L cl fp => T.ok _ (g.blk s H L cl fp)) (fun s H L cl fp => c.ok _ (fun _ _ _ _ => False) (g.blk s H L cl fp) takes0)
      (fun s H L cl fp => e.ok _ (fun _ _ _ _ => False) (g.blk s H L cl fp) takes0) (I.nf _)
/-- rows read -/
def EJ.share1 {e : Expr} {t : TY} (a : EJ M C G e (.o2 t)) : EJ M C G e (.sh (.list (.list t))) := a.share2
end
end Tp

set_option Elab.async false
set_option linter.all false
set_option maxRecDepth 100000
set_option maxHeartbeats 4000000
/-! Tp42: defs that fall off their end. -/
namespace Tp
open PySem PySem.Spec L2
open PyProof.Rows hiding St
section
variable {M : Type → Type} [Eff M]
theorem fn_okN {T : Wd} {x qual : Str} {params : Arguments} {body : List Stmt} {scope : Scope} {dvs : List V} {kws : List (Str × V)} {fa : Addr} {fd : FuncData} {N ps : List Str} {k p : Nat} {ro rw_ rw' : Ctx}
    (F : FunD T.K x qual params body scope dvs kws fa fd) (S : FnScope N ps scope) (b : SJ M ⟨T, N, scope, k, p, fun _ => true⟩ ro rw_ body (OZ.n rw' (.sh .non))) :
    FnG T.P T.w T.K T.mg T.base (k + 1) fa fd ps (spF M T.K ps.length p ro rw_ (.sh .non) (fun c s => b.den c s >>= fun _ => pure ())) := by
  refine fnG_of F S (fun vs H Q E h => h.1) fun cdv A outer s H vs Q E hr h => ⟨_, b.ok _ (fun cls d _ H => E cls d H) (sg_of hr S.nd) (takes_of rfl rfl rfl rfl), ?_⟩
  obtain ⟨hl, c, m, w, Sh, Ow, Oc, x, k⟩ := h
  have hpl : ps.length ≤ N.length := by have := congrArg List.length S.pre; rw [List.length_take] at this; omega
  refine ⟨c, m, w, Sh, Ow, Oc, [], ⟨x.sub, x.dis, x.nd, by rw [join_start]; exact x.ws, x.ec.slots fun i _ => join_start _ _ _, x.es.slots fun i _ => join_start _ _ _, ?_⟩, ?_⟩
  · unfold L2.start
    rw [List.length_append, List.length_map, List.length_replicate]
    show _ = N.length
    omega
  · dsimp only at k
    cases e : Eff.run (b.den c m) w with
    | mk o w' =>
      cases o with
      | ok y =>
        rw [run_ok _ e, Eff.run_pure] at k
        intro σ' H' S' O' st hw es hs _
        rw [join_start] at hw
        have st2 : SSt H Sh Ow [] [] H' S' := ⟨st.ext, st.fr, st.th, st.new, st.sub, fun _ h => (nomatch h), .nil⟩
        exact k .non H' S' [] st2.toE hw ⟨rfl, _, rfl, rfl⟩
      | er y =>
        rw [run_er _ e] at k
        intro cls d σ' H' S' O' st hw er _ _
        rw [join_start] at hw
        have st2 : SSt H Sh Ow [] [] H' S' := ⟨st.ext, st.fr, st.th, st.new, st.sub, fun _ h => (nomatch h), .nil⟩
        exact k cls d H' S' st2.toE hw er
      | bad => rw [run_bad' _ e] at k; exact k
end
end Tp

set_option Elab.async false
set_option linter.all false
set_option maxRecDepth 100000
set_option maxHeartbeats 4000000
/-! Tp43: xs[::-1]; isinstance of what may fail; branches with a rest of their own. -/
namespace Tp
open PySem PySem.Spec L2
open PyProof.Rows hiding St
section
variable {M : Type → Type} [Eff M] {C : Cf} {G : Ctx}
def EJ.revL {t : TY} {e : Expr} {k : Nat} {p1 p2 p3 pos : Pos} (x : EJ M C G e (.sh (.list t))) : EJ M C G (.Subscript e (.Slice none none (some (.UnaryOp .USub (.Constant (.int 1) k p1) p2)) p3) pos) (.o1 t) where
  den s := x.den s >>= fun i => pure (List.reverse i)
  ok X Wx g tk := by
    refine PE.imp (pe_revL (x.ok X Wx g tk)) fun σ H Q q => ?_
    obtain ⟨s, w, S, Ow, O, x, k⟩ := q
    refine step_E x k fun i w1 v1 H1 S1 st1 sat1 rp1 k1 => ?_
    rw [Eff.run_pure] at k1
    obtain ⟨a, vs, rfl, e2, e3⟩ := rp1
    refine ⟨a, vs, rfl, by rw [g.K]; exact sqL_of sat1.sub e2, fun p hp => k1 _ _ S1 [p] ((ESt.refl sat1.sub).new1 hp) (ws_new sat1.ws hp) ⟨p, _, rfl, rfl, upd_same, ?_⟩⟩
    have rv : ∀ {xs : List PV} {vs : List V}, RepL C.T.K S1 xs vs → RepL C.T.K S1 xs.reverse vs.reverse := fun {xs} => by
      induction xs with
      | nil => intro vs h; cases h; exact rfl
      | cons x xs ih =>
        intro vs h
        obtain ⟨v, r, rfl, h1, h2⟩ := h
        rw [List.reverse_cons, List.reverse_cons]
        exact (ih h2).app (RepL.cons h1 RepL.nil)
    rw [List.map_reverse]
    exact rv e3
def EP.revL {t : TY} {e : Expr} {k : Nat} {p1 p2 p3 pos : Pos} (x : EP M C G e (.list t)) : EP M C G (.Subscript e (.Slice none none (some (.UnaryOp .USub (.Constant (.int 1) k p1) p2)) p3) pos) (.list t) :=
  EP.ofJ (EJ.share (EJ.revL (k := k) (p1 := p1) (p2 := p2) (p3 := p3) (pos := pos) x.toEJ)) (fun s => (x.den s).reverse) fun s w => by
    show Eff.run (pure (x.den s) >>= fun i => pure (List.reverse i)) w = _
    rw [run_ok _ (Eff.run_pure _ _), Eff.run_pure]
def EJ.isi {x : Str} {p pos : Pos} {e c : Expr} {t : TY} (y : EJ M C G e (.sh t)) (k : TagT C.T t) (ce : CE C c) (b : Bool) (hb : PySem.W.kitOne C.T.K k.tg ce.u = some b) (hm : C.T.mg x = none) (hv : bootBuiltins x = some (.builtin "isinstance"))
    (hg : C.sc.names.lookup x = some .globalImplicit := by rfl) (hn : x ≠ "__name__" := by first | decide | exact of_decide_eq_true rfl) (hdb : (x == ("__debug__" : Str)) = false := by first | decide | exact of_decide_eq_true rfl)
    (h1 : ∀ env, starEach [e, c] env = (false, eval e env) :: starEach [c] env := by intro _; rfl) (h2 : ∀ env, starEach [c] env = (false, eval c env) :: starEach [] env := by intro _; rfl) (hpl : ∀ env, (backTo pos (starEach [c] env)).any (·.1) = false := by intro _; rfl) : EJ M C G (.Call (.Name x p) [e, c] [] pos) (.sh .bool) where
  den s := y.den s >>= fun _ => pure b
  ok X Wx g tk := by
    refine PE.imp (pe_callB call_isi (g.gl hg) (by rw [g.mg]; exact hm) hv (pa_cons (y.ok X Wx g tk) (pa_cons (ce.ok X g) pa_nil (h2 _)) (h1 _)) hn hdb (h1 _) (hpl _)) fun σ H Q q => ?_
    obtain ⟨s, w, S, Ow, O, sat, k'⟩ := q
    refine step_E sat k' fun i w1 v1 H1 S1 st1 sat1 rp1 k1 => ?_
    rw [Eff.run_pure] at k1
    exact ⟨v1, ce.v, k.tg, ce.u, b, rfl, ce.cv, by rw [g.K]; exact k.ok S1 H1 _ v1 sat1.sub rp1, by rw [g.K]; exact hb, k1 _ H1 S1 [] (ESt.refl sat1.sub) sat1.ws ⟨rfl, _, rfl, rfl⟩⟩
variable {ro rw_ rw' rw1 : Ctx} {r r0 : SE} {o : OZ rw' r}
theorem PSs.or {X : Cx} {sts : List Stmt} {t t' : TS} (h : PSs X sts t) (h' : PSs X sts t') : PSs X sts (fun D σ H => t D σ H ∨ t' D σ H) :=
  ⟨fun pins s σ H D I q => q.elim (fun q => h.run pins s σ H D I q) fun q => h'.run pins s σ H D I q⟩
/-- if c: a block, each way with a rest of its own -/
def SJ.ifS {e : Expr} {a sts : List Stmt} {pos : Pos} (tc : TJ M C (rw_ ++ ro) e) (x : SJ M C ro rw_ a (OZ.n rw1 r)) (rest1 : SJ M C ro rw1 sts o) (rest0 : SJ M C ro rw_ sts o) : SJ M C ro rw_ (.If e a [] pos :: sts) o where
  den c m := tc.den (ST.app rw_ ro m c) >>= fun b => if b = true then x.den c m >>= fun m1 => rest1.den c m1 else rest0.den c m
  ok X Wx g tk := by
    refine PSs.imp (pss_cons (ps_if (tc.ok X Wx g.toXG tk) (x.ok X Wx g tk) pss_nil) (PSs.or (rest1.ok X Wx g tk) (rest0.ok X Wx g tk))) fun D σ H q => ?_
    obtain ⟨c, m, w, S, Ow, Oc, O, y, k⟩ := q
    refine stepS_T y k fun b w1 H1 S1 st1 y1 k1 => ?_
    cases b with
    | true =>
      rw [if_pos rfl] at k1
      refine ⟨c, m, w1, S1, Ow, Oc, O, y1, ?_⟩
      cases e2 : Eff.run (x.den c m) w1 with
      | mk q2 w2 =>
        cases q2 with
        | er b => rw [run_er _ e2] at k1; exact k1
        | bad => rw [run_bad' _ e2] at k1; exact k1
        | ok m1 =>
          rw [run_ok _ e2] at k1
          intro σ' H' S' O' st hw es hs hl
          exact .inl ⟨c, m1, w2, S', Ow, Oc, O', y1.after st hw es hs hl, k1.pre st hs hl⟩
    | false =>
      rw [if_neg Bool.false_ne_true] at k1
      exact .inr ⟨c, m, w1, S1, Ow, Oc, O, y1, k1⟩
/-! ### repr of what is no display -/
def reprBl (b : Bool) : Option Str := some (if b then "True" else "False")
def reprSt (x : Str) : Option Str := if (reprText x).length ≤ sizeLine then some (reprText x) else none
def reprOp {A : Type} (g : A → Option Str) : Option A → Option Str
  | none => some "None"
  | some x => g x
theorem fr_reprB : Fn1R C (.builtin "repr") .bool .str reprBl := fun X g pins s σ H xs us Q I r ⟨v, i, y, S, e, sub, rp, hy, k⟩ => by
  subst e
  obtain ⟨u, rfl, rx⟩ := vals1 r
  cases (show v = V.bl i from rp)
  cases hy
  cases rx
  exact PySem.P.repr_of_bool ⟨.str _, H, I.tok _, ⟨_, rfl⟩, k _ fun _ => rfl⟩
theorem fr_reprI : Fn1R C (.builtin "repr") .int .str intText := fun X g pins s σ H xs us Q I r ⟨v, i, y, S, e, sub, rp, hy, k⟩ => by
  subst e
  obtain ⟨u, rfl, rx⟩ := vals1 r
  cases (show v = V.int i from rp)
  unfold intText at hy
  by_cases h : i.natAbs.log2 < 1920
  · rw [if_pos h] at hy
    cases hy
    obtain ⟨t, rfl⟩ := rx
    exact PySem.P.repr_of_int h ⟨.str _, H, I.tok _, ⟨_, rfl⟩, k _ fun _ => rfl⟩
  · rw [if_neg h] at hy; cases hy
theorem fr_reprS : Fn1R C (.builtin "repr") .str .str reprSt := fun X g pins s σ H xs us Q I r ⟨v, i, y, S, e, sub, rp, hy, k⟩ => by
  subst e
  obtain ⟨u, rfl, rx⟩ := vals1 r
  cases (show v = V.str i from rp)
  unfold reprSt at hy
  by_cases h : (reprText i).length ≤ sizeLine
  · rw [if_pos h] at hy
    cases hy
    obtain ⟨t, rfl⟩ := rx
    exact PySem.P.repr_of_str ⟨.str _, H, I.tok _, ⟨_, rfl⟩, k _ fun _ => rfl⟩ h
  · rw [if_neg h] at hy; cases hy
theorem fr_reprO {t : TY} {g : t.A → Option Str} (F : Fn1R C (.builtin "repr") t .str g) : Fn1R C (.builtin "repr") (.opt t) .str (reprOp g) := fun X gx pins s σ H xs us Q I r ⟨v, i, y, S, e, sub, rp, hy, k⟩ => by
  cases i with
  | some x => exact F X gx pins s σ H xs us Q I r ⟨v, x, y, S, e, sub, rp, hy, k⟩
  | none =>
    subst e
    obtain ⟨u, rfl, rx⟩ := vals1 r
    cases (show v = V.non from rp)
    cases hy
    cases rx
    exact PySem.P.repr_of_none ⟨.str _, H, I.tok _, ⟨_, rfl⟩, k _ fun _ => rfl⟩
end
end Tp

set_option linter.all false
/-! Mb0: lists of whole numbers and of pairs, sorted. -/
namespace Mb
abbrev P2 := Int × Int
abbrev Up (l : List Int) : Prop := l.Pairwise (· < ·)
theorem Up.nodup {l : List Int} (h : Up l) : l.Nodup := List.Pairwise.imp (fun {a b} (q : a < b) => by omega) h
theorem up_ext {a b : List Int} (ha : Up a) (hb : Up b) (h : ∀ x, x ∈ a ↔ x ∈ b) : a = b :=
  List.Perm.eq_of_pairwise (le := (· < ·)) (fun x y _ _ q r => by omega) ha hb ((List.perm_ext_iff_of_nodup ha.nodup hb.nodup).mpr h)
abbrev leI : Int → Int → Bool := fun a b => decide (a ≤ b)
abbrev srt (l : List Int) : List Int := l.mergeSort leI
theorem mem_srt {l : List Int} {x : Int} : x ∈ srt l ↔ x ∈ l := (List.mergeSort_perm l leI).mem_iff
theorem srt_le (l : List Int) : (srt l).Pairwise (· ≤ ·) := (List.pairwise_mergeSort (le := leI) (fun a b c => by simp [leI]; omega) (fun a b => by simp [leI]; omega) l).imp fun {a b} h => of_decide_eq_true h
theorem srt_up {l : List Int} (h : l.Nodup) : Up (srt l) := by
  have h2 : (srt l).Nodup := (List.mergeSort_perm l leI).nodup_iff.mpr h
  have h1 := srt_le l
  exact (h1.and h2).imp fun {a b} q => by have := q.1; have := q.2; omega
theorem srt_eq {l b : List Int} (h : l.Nodup) (hb : Up b) (hm : ∀ x, x ∈ l ↔ x ∈ b) : srt l = b := up_ext (srt_up h) hb fun x => mem_srt.trans (hm x)
theorem srt_of_up {l : List Int} (h : Up l) : srt l = l := srt_eq h.nodup h fun _ => Iff.rfl
theorem srt_perm {a b : List Int} (h : a.Perm b) : srt a = srt b := List.Perm.eq_of_pairwise (le := (· ≤ ·)) (fun x y _ _ q r => by omega) (srt_le a) (srt_le b) (((List.mergeSort_perm a leI).trans h).trans (List.mergeSort_perm b leI).symm)
theorem up_filter {l : List Int} (p : Int → Bool) (h : Up l) : Up (l.filter p) := List.Pairwise.filter p h
/-! pairs -/
abbrev le2 : P2 → P2 → Bool := fun a b => decide (a.1 < b.1 ∨ (a.1 = b.1 ∧ a.2 ≤ b.2))
def lt2 (a b : P2) : Prop := a.1 < b.1 ∨ (a.1 = b.1 ∧ a.2 < b.2)
abbrev Up2 (l : List P2) : Prop := l.Pairwise lt2
abbrev srt2 (l : List P2) : List P2 := l.mergeSort le2
theorem lt2_irr {a b : P2} (h : lt2 a b) : a ≠ b := fun e => by subst e; unfold lt2 at h; omega
theorem lt2_asymm {a b : P2} (h : lt2 a b) (k : lt2 b a) : a = b := by unfold lt2 at h k; omega
theorem le2_anti {a b : P2} (h : le2 a b = true) (k : le2 b a = true) : a = b := by
  have h := of_decide_eq_true h; have k := of_decide_eq_true k
  exact Prod.ext (by omega) (by omega)
theorem Up2.nodup {l : List P2} (h : Up2 l) : l.Nodup := List.Pairwise.imp (fun {a b} q => lt2_irr q) h
theorem up2_ext {a b : List P2} (ha : Up2 a) (hb : Up2 b) (h : ∀ x, x ∈ a ↔ x ∈ b) : a = b :=
  List.Perm.eq_of_pairwise (le := lt2) (fun x y _ _ q r => lt2_asymm q r) ha hb ((List.perm_ext_iff_of_nodup (Up2.nodup ha) (Up2.nodup hb)).mpr h)
theorem mem_srt2 {l : List P2} {x : P2} : x ∈ srt2 l ↔ x ∈ l := (List.mergeSort_perm l le2).mem_iff
theorem srt2_le (l : List P2) : (srt2 l).Pairwise (fun a b => le2 a b = true) := List.pairwise_mergeSort (le := le2) (fun a b c => by simp [le2]; omega) (fun a b => by simp [le2]; omega) l
theorem srt2_perm {a b : List P2} (h : a.Perm b) : srt2 a = srt2 b := List.Perm.eq_of_pairwise (le := fun a b => le2 a b = true) (fun x y _ _ q r => le2_anti q r) (srt2_le a) (srt2_le b) (((List.mergeSort_perm a le2).trans h).trans (List.mergeSort_perm b le2).symm)
theorem srt2_nodup {l : List P2} : (srt2 l).Nodup ↔ l.Nodup := (List.mergeSort_perm l le2).nodup_iff
theorem srt2_up {l : List P2} (h : l.Nodup) : Up2 (srt2 l) := ((srt2_le l).and (srt2_nodup.mpr h)).imp fun {a b} q => by
  have h1 := of_decide_eq_true q.1
  have h2 := q.2
  unfold lt2
  rcases h1 with h1 | ⟨h1, h3⟩
  · exact .inl h1
  · refine .inr ⟨h1, ?_⟩
    have : a.2 ≠ b.2 := fun e => h2 (Prod.ext h1 e)
    omega
theorem srt2_of_up {l : List P2} (h : Up2 l) : srt2 l = l := up2_ext (srt2_up (Up2.nodup h)) h fun _ => mem_srt2
theorem srt2_idem (l : List P2) : srt2 (srt2 l) = srt2 l := srt2_perm (List.mergeSort_perm l le2)
/-! adjacent places -/
def adj (l : List P2) : List (P2 × P2) := List.zip l (l.drop 1)
theorem adj_nodup : ∀ {l : List P2}, l.Nodup → ∀ p ∈ adj l, p.1 ≠ p.2
  | [], _, p, h => by simp [adj] at h
  | [a], _, p, h => by simp [adj] at h
  | a :: b :: r, hn, p, h => by
    have e : adj (a :: b :: r) = (a, b) :: adj (b :: r) := rfl
    rw [e] at h
    have hn' := List.nodup_cons.mp hn
    rcases List.mem_cons.mp h with rfl | h
    · intro e; dsimp only at e; exact hn'.1 (by simp [e])
    · exact adj_nodup hn'.2 p h
theorem adj_srt {l : List P2} (h : (adj (srt2 l)).all (fun p => !decide (p.1 = p.2)) = true) : l.Nodup := by
  have key : ∀ l : List P2, l.Pairwise (fun a b => le2 a b = true) → (adj l).all (fun p => !decide (p.1 = p.2)) = true → l.Nodup := by
    intro l
    induction l with
    | nil => intro _ _; exact List.nodup_nil
    | cons a r ih =>
      intro hp ha
      cases r with
      | nil => simp
      | cons b r =>
        have e : adj (a :: b :: r) = (a, b) :: adj (b :: r) := rfl
        rw [e, List.all_cons, Bool.and_eq_true] at ha
        have hp2 := List.pairwise_cons.mp hp
        have h3 := ih hp2.2 ha.2
        refine List.nodup_cons.mpr ⟨fun hm => ?_, h3⟩
        have h4 : a ≠ b := by simpa using ha.1
        rcases List.mem_cons.mp hm with rfl | hm
        · exact h4 rfl
        · have h5 := (List.pairwise_cons.mp hp2.2).1 a hm
          have h6 := hp2.1 b (by simp)
          exact h4 (le2_anti h6 h5)
  exact srt2_nodup.mp (key _ (srt2_le l) h)
/-! ranges -/
def rg (n : Int) : List Int := (List.range n.toNat).map fun (i : Nat) => (i : Int)
theorem mem_rg {n x : Int} : x ∈ rg n ↔ 0 ≤ x ∧ x < n := by
  unfold rg
  simp only [List.mem_map, List.mem_range]
  constructor
  · rintro ⟨i, h, rfl⟩; omega
  · intro ⟨h1, h2⟩; exact ⟨x.toNat, by omega, by omega⟩
theorem rg_up (n : Int) : Up (rg n) := by
  unfold rg
  rw [Up, List.pairwise_map]
  exact List.pairwise_lt_range.imp fun h => by omega
theorem rg_len (n : Int) : (rg n).length = n.toNat := by simp [rg]
theorem rg_nodup (n : Int) : (rg n).Nodup := (rg_up n).nodup
/-! who leads to t, along A within L -/
inductive Ld (A : List P2) (L : List Int) (t : Int) : Int → Prop
  | here : Ld A L t t
  | step {x y : Int} : Ld A L t y → (x, y) ∈ A → x ∈ L → Ld A L t x
theorem Ld.trans {A : List P2} {L : List Int} {t x y : Int} (h : Ld A L x y) (k : Ld A L t x) : Ld A L t y := by
  induction h with
  | here => exact k
  | step h1 h2 h3 ih => exact .step ih h2 h3
theorem Ld.mono {A B : List P2} {L M : List Int} {t x : Int} (h : Ld A L t x) (ha : ∀ p ∈ A, p ∈ B) (hl : ∀ x ∈ L, x ∈ M) : Ld B M t x := by
  induction h with
  | here => exact .here
  | step h1 h2 h3 ih => exact .step ih (ha _ h2) (hl _ h3)
theorem Ld.mem {A : List P2} {L : List Int} {t x : Int} (h : Ld A L t x) : x = t ∨ x ∈ L := by
  cases h with
  | here => exact .inl rfl
  | step h1 h2 h3 => exact .inr h3
/-- both ways -/
def both (A : List P2) : List P2 := A ++ A.map fun p => (p.2, p.1)
theorem mem_both {A : List P2} {x y : Int} : (x, y) ∈ both A ↔ (x, y) ∈ A ∨ (y, x) ∈ A := by
  unfold both
  rw [List.mem_append, List.mem_map]
  constructor
  · rintro (h | ⟨⟨a, b⟩, h, e⟩)
    · exact .inl h
    · cases e; exact .inr h
  · rintro (h | h)
    · exact .inl h
    · exact .inr ⟨_, h, rfl⟩
theorem Ld.symm {A : List P2} {L : List Int} {t x : Int} (h : Ld (both A) L t x) (ht : t ∈ L) : Ld (both A) L x t := by
  induction h with
  | here => exact .here
  | step h1 h2 h3 ih =>
    rename_i x y
    refine Ld.trans ih (.step .here (mem_both.mpr (mem_both.mp h2).symm) ?_)
    rcases h1.mem with e | e
    · rw [e]; exact ht
    · exact e
theorem erase_perm {A : Type} : ∀ {l : List A} {i : Nat} (h : i < l.length), (l[i] :: l.eraseIdx i).Perm l
  | a :: l, 0, _ => List.Perm.refl _
  | a :: l, i + 1, h => by
    have h' : i < l.length := by simpa using h
    exact (List.Perm.swap a l[i] (l.eraseIdx i)).trans ((erase_perm h').cons a)
end Mb

set_option Elab.async false
set_option linter.all false
set_option maxRecDepth 100000
set_option maxHeartbeats 1000000
/-! Mb1: rules for the two monads. -/
namespace Mb
open Tp PySem
open L2 (atI)
/-! ### R -/
@[simp] theorem R.bind_ok {A B : Type} (a : A) (f : A → R B) : ((R.ok a : R A) >>= f) = f a := rfl
@[simp] theorem R.pure_eq {A : Type} (a : A) : (pure a : R A) = R.ok a := rfl
@[simp] theorem R.noer_ok {A : Type} (a : A) : (Eff.noer (R.ok a) : R A) = R.ok a := rfl
@[simp] theorem R.optM_some {A : Type} (a : A) : (optM (some a) : R A) = R.ok a := rfl
theorem R.assoc {A B C : Type} (m : R A) (f : A → R B) (g : B → R C) : (m >>= f) >>= g = m >>= fun a => f a >>= g := by cases m <;> rfl
theorem R.map_ok {A B : Type} (f : A → B) (a : A) : R.map f (.ok a) = .ok (f a) := rfl
def Ok {A : Type} (m : R A) (P : A → Prop) : Prop := ∃ a, m = .ok a ∧ P a
section
variable {A B X : Type} {P : A → Prop} {Q : B → Prop}
theorem Ok.ret {a : A} (h : P a) : Ok (pure a) P := ⟨a, rfl, h⟩
theorem Ok.ok {a : A} (h : P a) : Ok (.ok a) P := ⟨a, rfl, h⟩
theorem Ok.eq {m : R A} {a : A} (h : m = .ok a) (p : P a) : Ok m P := ⟨a, h, p⟩
theorem Ok.bind {m : R A} {f : A → R B} (h : Ok m P) (k : ∀ a, P a → Ok (f a) Q) : Ok (m >>= f) Q := by
  obtain ⟨a, e, p⟩ := h
  subst e
  exact k a p
theorem Ok.mono {m : R A} {P' : A → Prop} (h : Ok m P) (k : ∀ a, P a → P' a) : Ok m P' := let ⟨a, e, p⟩ := h; ⟨a, e, k a p⟩
theorem Ok.to {m : R A} {a : A} (h : Ok m (· = a)) : m = .ok a := by obtain ⟨b, e, p⟩ := h; rw [e, p]
theorem Ok.opt {o : Option A} {a : A} (h : o = some a) (p : P a) : Ok (optM o) P := ⟨a, by rw [h]; rfl, p⟩
theorem Ok.noer {m : R A} (h : Ok m P) : Ok (Eff.noer m) P := by obtain ⟨a, e, p⟩ := h; subst e; exact ⟨a, rfl, p⟩
theorem Ok.loopN {f : X → A → R A} (Inv : List X → A → Prop) : ∀ {xs : List X} {a : A}, Inv xs a → (∀ x r a, Inv (x :: r) a → Ok (f x a) (Inv r)) → Ok (Tp.loopN f xs a) (Inv [])
  | [], a, h, _ => ⟨a, rfl, h⟩
  | x :: r, a, h, k => Ok.bind (k x r a h) fun b hb => Ok.loopN Inv hb k
/-- over a list, what is done told -/
theorem Ok.loopP {f : X → A → R A} (Inv : List X → A → Prop) {xs : List X} {a : A} (h0 : Inv [] a) (k : ∀ p x a, (∃ r, xs = p ++ x :: r) → Inv p a → Ok (f x a) (Inv (p ++ [x]))) : Ok (Tp.loopN f xs a) (Inv xs) := by
  have key : ∀ (r : List X) (p : List X) (a : A), xs = p ++ r → Inv p a → Ok (Tp.loopN f r a) (Inv xs) := by
    intro r
    induction r with
    | nil => intro p a e h; rw [List.append_nil] at e; subst e; exact ⟨a, rfl, h⟩
    | cons x r ih =>
      intro p a e h
      exact Ok.bind (k p x a ⟨r, e⟩ h) fun b hb => ih (p ++ [x]) b (by rw [e, List.append_assoc]; rfl) hb
  exact key xs [] a rfl h0
theorem loopN_pure {f : X → A → R A} {g : A → X → A} (h : ∀ x a, f x a = .ok (g a x)) : ∀ (xs : List X) (a : A), Tp.loopN f xs a = .ok (xs.foldl g a)
  | [], a => rfl
  | x :: r, a => by
    show f x a >>= _ = _
    rw [h]
    exact loopN_pure h r (g a x)
theorem loopN_mem {f : X → A → R A} {g : A → X → A} : ∀ (xs : List X) (a : A), (∀ x ∈ xs, ∀ a, f x a = .ok (g a x)) → Tp.loopN f xs a = .ok (xs.foldl g a)
  | [], a, _ => rfl
  | x :: r, a, h => by
    show f x a >>= _ = _
    rw [h x (by simp)]
    exact loopN_mem r (g a x) fun y hy => h y (by simp [hy])
theorem Ok.whileN {c : A → R Bool} {b : A → R A} (Inv : A → Prop) (μ : A → Nat) (t : A → Bool) (hc : ∀ a, Inv a → c a = .ok (t a)) (hb : ∀ a, Inv a → t a = true → Ok (b a) fun a' => Inv a' ∧ μ a' < μ a) :
    ∀ (n : Nat) (a : A), Inv a → μ a < n → Ok (Tp.whileN c b n a) fun a' => Inv a' ∧ t a' = false
  | 0, _, _, h => absurd h (Nat.not_lt_zero _)
  | n + 1, a, hi, hm => by
    show Ok (c a >>= _) _
    rw [hc a hi, R.bind_ok]
    cases e : t a with
    | true =>
      rw [if_pos rfl]
      refine Ok.bind (hb a hi e) fun a' h => ?_
      exact Ok.whileN Inv μ t hc hb n a' h.1 (by omega)
    | false =>
      rw [if_neg (by simp)]
      exact ⟨a, rfl, hi, e⟩
/-- with a way out: P of what is handed back -/
theorem Ok.whileF {c : A → R Bool} {b : A → R (FL A B)} (Inv : A → Prop) (μ : A → Nat) (t : A → Bool) (Q : B → Prop) (hc : ∀ a, Inv a → c a = .ok (t a)) (hb : ∀ a, Inv a → t a = true → Ok (b a) fun o => match o with
      | .nx a' => Inv a' ∧ μ a' < μ a
      | .rt v => Q v) :
    ∀ (n : Nat) (a : A), Inv a → μ a < n → Ok (Tp.whileF c b n a) fun o => match o with
      | .nx a' => Inv a' ∧ t a' = false
      | .rt v => Q v
  | 0, _, _, h => absurd h (Nat.not_lt_zero _)
  | n + 1, a, hi, hm => by
    show Ok (c a >>= _) _
    rw [hc a hi, R.bind_ok]
    cases e : t a with
    | true =>
      rw [if_pos rfl]
      refine Ok.bind (hb a hi e) fun o h => ?_
      cases o with
      | nx a' => exact Ok.whileF Inv μ t Q hc hb n a' h.1 (by omega)
      | rt v => exact ⟨_, rfl, h⟩
    | false =>
      rw [if_neg (by simp)]
      exact ⟨_, rfl, hi, e⟩
theorem compM_pure {f : X → R (Option B)} {g : X → Option B} (h : ∀ x, f x = .ok (g x)) : ∀ xs : List X, compM f xs = .ok (xs.filterMap g)
  | [] => rfl
  | x :: r => by
    show f x >>= _ = _
    rw [h, R.bind_ok, compM_pure h r, R.bind_ok]
    cases e : g x with
    | none => rw [List.filterMap_cons_none e]; rfl
    | some y => rw [List.filterMap_cons_some e]; rfl
theorem compM_mem {f : X → R (Option B)} {g : X → Option B} : ∀ xs : List X, (∀ x ∈ xs, f x = .ok (g x)) → compM f xs = .ok (xs.filterMap g)
  | [], _ => rfl
  | x :: r, h => by
    show f x >>= _ = _
    rw [h x (by simp), R.bind_ok, compM_mem r (fun y hy => h y (by simp [hy])), R.bind_ok]
    cases e : g x with
    | none => rw [List.filterMap_cons_none e]; rfl
    | some y => rw [List.filterMap_cons_some e]; rfl
/-- a comprehension: test and element that end well -/
theorem comp_mem {c : X → R Bool} {e : X → R B} {p : X → Bool} {g : X → B} (xs : List X) (hc : ∀ x ∈ xs, c x = .ok (p x)) (he : ∀ x ∈ xs, p x = true → e x = .ok (g x)) : compM (compF c e) xs = .ok ((xs.filter p).map g) := by
  rw [compM_mem (g := fun x => if p x = true then some (g x) else none) xs]
  · congr 1
    induction xs with
    | nil => rfl
    | cons x r ih =>
      have ih := ih (fun y hy => hc y (by simp [hy])) (fun y hy => he y (by simp [hy]))
      cases h : p x with
      | true => rw [List.filterMap_cons_some (b := g x) (by simp [h]), List.filter_cons_of_pos h, List.map_cons, ih]
      | false => rw [List.filterMap_cons_none (by simp [h]), List.filter_cons_of_neg (by simp [h]), ih]
  · intro x hx
    show c x >>= _ = _
    rw [hc x hx, R.bind_ok]
    cases h : p x with
    | true => rw [if_pos rfl, if_pos rfl, he x hx h]; rfl
    | false => rw [if_neg (by simp), if_neg (by simp)]; rfl
end
/-! ### PM -/
theorem PM.assoc {A B C : Type} (m : PM A) (f : A → PM B) (g : B → PM C) : (m >>= f) >>= g = m >>= fun a => f a >>= g := by
  funext w
  show PM.bind (PM.bind m f) g w = PM.bind m (fun a => PM.bind (f a) g) w
  unfold PM.bind
  cases m w with
  | mk o w' => cases o <;> rfl
theorem PM.pure_bind {A B : Type} (a : A) (f : A → PM B) : ((pure a : PM A) >>= f) = f a := rfl
theorem PM.lift_ok {A : Type} (a : A) : PM.lift (.ok a) = pure a := rfl
theorem PM.noer_pure {A : Type} (a : A) : (Eff.noer (pure a : PM A) : PM A) = pure a := rfl
theorem PM.optM_some {A : Type} (a : A) : (optM (some a) : PM A) = pure a := rfl
def Pot (w : Int × Int) : Prop := 0 ≤ w.1 ∧ 0 ≤ w.2
def Dr {A : Type} (m : PM A) (P : A → Prop) : Prop := ∀ w, Pot w → ∃ a w', m w = (.ok a, w') ∧ Pot w' ∧ P a
section
variable {A B X : Type} {P : A → Prop} {Q : B → Prop}
theorem Dr.ret {a : A} (h : P a) : Dr (pure a) P := fun w hw => ⟨a, w, rfl, hw, h⟩
theorem Dr.bind {m : PM A} {f : A → PM B} (h : Dr m P) (k : ∀ a, P a → Dr (f a) Q) : Dr (m >>= f) Q := fun w hw => by
  obtain ⟨a, w1, e, hw1, p⟩ := h w hw
  obtain ⟨b, w2, e2, hw2, q⟩ := k a p w1 hw1
  refine ⟨b, w2, ?_, hw2, q⟩
  show PM.bind m f w = _
  unfold PM.bind
  rw [e]
  exact e2
theorem Dr.mono {m : PM A} {P' : A → Prop} (h : Dr m P) (k : ∀ a, P a → P' a) : Dr m P' := fun w hw => let ⟨a, w', e, hw', p⟩ := h w hw; ⟨a, w', e, hw', k a p⟩
theorem Dr.lift {m : R A} (h : Ok m P) : Dr (PM.lift m) P := fun w hw => by
  obtain ⟨a, e, p⟩ := h
  exact ⟨a, w, by rw [e]; rfl, hw, p⟩
theorem Dr.opt {o : Option A} {a : A} (h : o = some a) (p : P a) : Dr (optM o) P := by rw [h]; exact Dr.ret p
theorem Dr.noer {m : PM A} (h : Dr m P) : Dr (Eff.noer m) P := fun w hw => by
  obtain ⟨a, w', e, hw', p⟩ := h w hw
  refine ⟨a, w', ?_, hw', p⟩
  show PM.noer m w = _
  unfold PM.noer
  rw [e]
theorem Dr.ite {t : Bool} {x y : PM A} (h1 : t = true → Dr x P) (h2 : t = false → Dr y P) : Dr (if t = true then x else y) P := by
  cases t with
  | true => rw [if_pos rfl]; exact h1 rfl
  | false => rw [if_neg (by simp)]; exact h2 rfl
theorem Dr.loopN {f : X → A → PM A} (Inv : List X → A → Prop) : ∀ {xs : List X} {a : A}, Inv xs a → (∀ x r a, Inv (x :: r) a → Dr (f x a) (Inv r)) → Dr (Tp.loopN f xs a) (Inv [])
  | [], a, h, _ => Dr.ret h
  | x :: r, a, h, k => Dr.bind (k x r a h) fun b hb => Dr.loopN Inv hb k
theorem Dr.loopP {f : X → A → PM A} (Inv : List X → A → Prop) {xs : List X} {a : A} (h0 : Inv [] a) (k : ∀ p x a, (∃ r, xs = p ++ x :: r) → Inv p a → Dr (f x a) (Inv (p ++ [x]))) : Dr (Tp.loopN f xs a) (Inv xs) := by
  have key : ∀ (r : List X) (p : List X) (a : A), xs = p ++ r → Inv p a → Dr (Tp.loopN f r a) (Inv xs) := by
    intro r
    induction r with
    | nil => intro p a e h; rw [List.append_nil] at e; subst e; exact Dr.ret h
    | cons x r ih =>
      intro p a e h
      exact Dr.bind (k p x a ⟨r, e⟩ h) fun b hb => ih (p ++ [x]) b (by rw [e, List.append_assoc]; rfl) hb
  exact key xs [] a rfl h0
/-- a loop that holds one thing -/
theorem Dr.loopI {f : X → A → PM A} (I : A → Prop) : ∀ {xs : List X} {a : A}, I a → (∀ x ∈ xs, ∀ a, I a → Dr (f x a) I) → Dr (Tp.loopN f xs a) I
  | [], a, h, _ => Dr.ret h
  | x :: r, a, h, k => Dr.bind (k x (by simp) a h) fun b hb => Dr.loopI I hb fun y hy => k y (by simp [hy])
/-- a loop with a way out that is never taken -/
theorem Dr.loopF {f : X → A → PM (FL A B)} (I : A → Prop) : ∀ {xs : List X} {a : A}, I a → (∀ x ∈ xs, ∀ a, I a → Dr (f x a) fun o => ∃ b, o = .nx b ∧ I b) → Dr (Tp.loopF f xs a) fun o => ∃ b, o = .nx b ∧ I b
  | [], a, h, _ => Dr.ret ⟨a, rfl, h⟩
  | x :: r, a, h, k => Dr.bind (k x (by simp) a h) fun o ho => by
    obtain ⟨b, rfl, hb⟩ := ho
    exact Dr.loopF I hb fun y hy => k y (by simp [hy])
theorem Dr.whileN {c : A → PM Bool} {b : A → PM A} (Inv : A → Prop) (μ : A → Nat) (t : A → Bool) (hc : ∀ a, Inv a → c a = pure (t a)) (hb : ∀ a, Inv a → t a = true → Dr (b a) fun a' => Inv a' ∧ μ a' < μ a) :
    ∀ (n : Nat) (a : A), Inv a → μ a < n → Dr (Tp.whileN c b n a) fun a' => Inv a' ∧ t a' = false
  | 0, _, _, h => absurd h (Nat.not_lt_zero _)
  | n + 1, a, hi, hm => by
    show Dr (c a >>= _) _
    rw [hc a hi, PM.pure_bind]
    cases e : t a with
    | true =>
      rw [if_pos rfl]
      refine Dr.bind (hb a hi e) fun a' h => ?_
      exact Dr.whileN Inv μ t hc hb n a' h.1 (by omega)
    | false =>
      rw [if_neg (by simp)]
      exact Dr.ret ⟨hi, e⟩
/-- the pot that is new -/
theorem potDo_ok {m : PM A} (h : Dr m P) {a b : Int} (ha : 0 ≤ a) (hb : 0 ≤ b) : Ok (potDo m [a, b]) P := by
  obtain ⟨x, w, e, _, p⟩ := h (a, b) ⟨ha, hb⟩
  refine ⟨x, ?_, p⟩
  show (m (a, b)).1 = _
  rw [e]
end
theorem Dr.get0 : Dr PM.get0 fun v => 0 ≤ v := fun w hw => ⟨w.1, w, rfl, hw, hw.1⟩
theorem Dr.get1 : Dr PM.get1 fun v => 0 ≤ v := fun w hw => ⟨w.2, w, rfl, hw, hw.2⟩
theorem Dr.put0 {i : Int} (h : 0 ≤ i) : Dr (PM.put0 i) fun _ => True := fun w hw => ⟨(), (i, w.2), rfl, ⟨h, hw.2⟩, trivial⟩
theorem Dr.put1 {i : Int} (h : 0 ≤ i) : Dr (PM.put1 i) fun _ => True := fun w hw => ⟨(), (w.1, i), rfl, ⟨hw.1, h⟩, trivial⟩
theorem put1_get1 {B : Type} (v : Int) (f : Int → PM B) : (PM.put1 v >>= fun _ => PM.get1 >>= f) = (PM.put1 v >>= fun _ => f v) := rfl
theorem dmO_ok {i j : Int} (h0 : 0 < j) (h : j < 1000000) : dmO i j = some (i / j, i % j) := if_pos ⟨h0, by omega⟩
theorem modO_ok {i j : Int} (h0 : 0 < j) : modO i j = some (i % j) := if_pos h0
theorem divO_ok {i j : Int} (h0 : 0 < j) (h : j < 1000000) : divO i j = some (i / j) := if_pos ⟨h0, by
  have : j.natAbs.log2 < 20 := (Nat.log2_lt (by omega)).mpr (by omega)
  omega⟩
theorem mulO_r {i j : Int} (h0 : -(2 ^ 64) < j) (h : j < 2 ^ 64) : mulO i j = some (i * j) := if_pos (by unfold mulOk; simp only [Bool.or_eq_true, decide_eq_true_eq]; exact .inl (.inr ⟨h0, h⟩))
theorem mulO_l {i j : Int} (h0 : -(2 ^ 64) < i) (h : i < 2 ^ 64) : mulO i j = some (i * j) := if_pos (by unfold mulOk; simp only [Bool.or_eq_true, decide_eq_true_eq]; exact .inl (.inl ⟨h0, h⟩))
/-! ### the partial operations -/
theorem upTo_rg (n : Int) : Tp.upTo 0 n.toNat = rg n := by
  unfold Tp.upTo rg
  exact List.map_congr_left fun i _ => by omega
theorem rgL_ok {n : Int} (h0 : 0 ≤ n) (h : n ≤ 1000) : rgL 0 n = some (rg n) := by
  unfold rgL
  rw [if_pos ⟨by omega, by omega, h0, by omega⟩, Int.sub_zero, upTo_rg]
theorem rng1_ok {n : Int} (h0 : 0 ≤ n) (h : n ≤ 1000) : rng1 n = some (rg n) := by
  unfold rng1
  rw [if_pos ⟨by omega, by have : (sizeLine : Int) = 16777216 := rfl; omega⟩, upTo_rg]
theorem rng2_ok {i n : Int} (h0 : 0 ≤ i) (h1 : i ≤ 1000) (h2 : 0 ≤ n) (h : n ≤ 1000) : rng2 i n = some (Tp.upTo i (n - i).toNat) := by
  unfold rng2
  rw [if_pos ⟨by omega, by omega, by omega, by have : (sizeLine : Int) = 16777216 := rfl; omega⟩]
theorem mem_upTo {i x : Int} {n : Nat} : x ∈ Tp.upTo i n ↔ i ≤ x ∧ x < i + n := by
  unfold Tp.upTo
  simp only [List.mem_map, List.mem_range]
  constructor
  · rintro ⟨k, h, rfl⟩; omega
  · intro ⟨h1, h2⟩; exact ⟨(x - i).toNat, by omega, by omega⟩
theorem appO_ok {A : Type} {xs : List A} {y : A} (h : xs.length < 1000) : appO xs y = some (xs ++ [y], ()) := if_pos (by have : sizeLine = 16777216 := rfl; omega)
theorem extO_ok {A : Type} {xs ys : List A} (h : xs.length + ys.length < 1000) : extO xs ys = some (xs ++ ys, ()) := if_pos (by have : sizeLine = 16777216 := rfl; omega)
theorem catO_ok {A : Type} {xs ys : List A} (h : xs.length + ys.length < 1000) : catO xs ys = some (xs ++ ys) := if_pos (by have : sizeLine = 16777216 := rfl; omega)
theorem oneMore_ok {n : Nat} (h : n < 1000) : oneMore n = some (n + 1) := if_pos (by have : sizeLine = 16777216 := rfl; omega)
theorem remO_ok {xs : List Int} {y : Int} (h : y ∈ xs) : remO xs y = some (xs.erase y, ()) := if_pos h
theorem seqIndex_ok {i : Int} {n : Nat} (h0 : 0 ≤ i) (h : i < n) : seqIndex? i n = some i.toNat := by
  unfold seqIndex?
  have e : ¬ i < 0 := by omega
  simp [e, h0, h]
theorem atI_ok {A : Type} {xs : List A} {i : Int} (h0 : 0 ≤ i) (h : i < xs.length) : atI xs i = some (xs[i.toNat]'(by omega)) := by
  unfold L2.atI L2.ixN
  rw [if_pos h0, if_pos h]
  simp [List.getElem?_eq_getElem (show i.toNat < xs.length by omega)]
theorem popB_ok {A : Type} {xs : List A} {i : Int} (h0 : 0 ≤ i) (h : i < xs.length) (hl : xs.length < 1000) : popB xs i = some (xs.eraseIdx i.toNat, xs[i.toNat]'(by omega)) := by
  unfold popB popO
  rw [if_pos ⟨by omega, by omega⟩, seqIndex_ok h0 h]
  simp [List.getElem?_eq_getElem (show i.toNat < xs.length by omega)]
/-! ### tests -/
theorem EqT.b_true {t : TY} (q : EqT t) (x y : t.A) : q.b x y = true ↔ x = y := by
  unfold EqT.b
  cases q.eq x y with
  | isTrue h => simp [Decidable.decide, h]
  | isFalse h => simp [Decidable.decide, h]
theorem EqT.b_false {t : TY} (q : EqT t) (x y : t.A) : q.b x y = false ↔ x ≠ y := by
  rw [← Bool.not_eq_true, EqT.b_true]
theorem EqT.mem_true {t : TY} (q : EqT t) (x : t.A) (xs : List t.A) : q.mem x xs = true ↔ x ∈ xs := by
  unfold EqT.mem
  rw [List.any_eq_true]
  constructor
  · rintro ⟨y, h, e⟩
    rw [EqT.b_true] at e; subst e; exact h
  · intro h; exact ⟨x, h, (EqT.b_true q x x).mpr rfl⟩
theorem EqT.mem_false {t : TY} (q : EqT t) (x : t.A) (xs : List t.A) : q.mem x xs = false ↔ x ∉ xs := by
  rw [← Bool.not_eq_true, EqT.mem_true]
/-! ### repr -/
open PyProof.Rows in
structure Tm (d w : Nat) (x : PV) : Prop where
  i : isD x = true
  s : (toD x).showable = true
  d : (toD x).depth ≤ d
  l : (toD x).leavesShort 2000 = true
  w : (toD x).weight ≤ w
theorem Tm.int {i : Int} {k : Nat} (hk : k ≤ 1900) (h : i.natAbs < 2 ^ k) : Tm 0 (k + 1) (.int i) := by
  have h0 : i.natAbs.log2 ≤ k := by
    by_cases h0 : i.natAbs = 0
    · rw [h0]; simp
    · exact Nat.le_of_lt ((Nat.log2_lt h0).mpr h)
  have h1 : i.natAbs.log2 < 1920 := by omega
  refine ⟨rfl, by simp [toD, PyData.showable, h1], by simp [toD, PyData.depth], ?_, ?_⟩
  · simp only [toD, PyData.leavesShort, decide_eq_true_eq]
    have := PyProof.Rows.int_text_len_1921 h1
    simp only [PyData.shown]
    exact Nat.le_trans this (by decide)
  · simp only [toD, PyData.weight]
    split <;> omega
theorem Tm.small {i : Int} (h0 : -1000 ≤ i) (h : i ≤ 1000) : Tm 0 11 (.int i) := Tm.int (k := 10) (by decide) (by omega)
theorem Tm.bl {b : Bool} : Tm 0 11 (.bl b) := ⟨rfl, rfl, by simp [toD, PyData.depth], rfl, by simp [toD, PyData.weight]⟩
theorem Tm.non : Tm 0 11 .non := ⟨rfl, rfl, by simp [toD, PyData.depth], rfl, by simp [toD, PyData.weight]⟩
theorem Tm.mono {d d' w w' : Nat} {x : PV} (h : Tm d w x) (hd : d ≤ d') (hw : w ≤ w') : Tm d' w' x := ⟨h.i, h.s, Nat.le_trans h.d hd, h.l, Nat.le_trans h.w hw⟩
theorem Tm.all {d w : Nat} : ∀ {xs : List PV}, (∀ x ∈ xs, Tm d w x) → isDs xs = true ∧ PyData.showableAll (toDs xs) = true ∧ PyData.depthAll (toDs xs) ≤ d ∧ PyData.leavesShortAll 2000 (toDs xs) = true ∧ PyData.weightAll (toDs xs) ≤ xs.length * (w + 1)
  | [], _ => ⟨rfl, rfl, by simp [toDs, PyData.depthAll], rfl, by simp [toDs, PyData.weightAll]⟩
  | x :: xs, h => by
    obtain ⟨h1, h2, h3, h4, h5⟩ := Tm.all (xs := xs) fun y hy => h y (by simp [hy])
    have hx := h x (by simp)
    refine ⟨by simp [isDs, hx.i, h1], by simp [toDs, PyData.showableAll, hx.s, h2], ?_, by simp [toDs, PyData.leavesShortAll, hx.l, h4], ?_⟩
    · have := hx.d; simp only [toDs, PyData.depthAll]; omega
    · have := hx.w
      simp only [toDs, PyData.weightAll, List.length_cons, Nat.add_mul, Nat.one_mul]
      omega
theorem Tm.lst {d w n : Nat} {xs : List PV} (h : ∀ x ∈ xs, Tm d w x) (hn : xs.length ≤ n) : Tm (d + 1) (n * (w + 1)) (.lst xs) := by
  obtain ⟨h1, h2, h3, h4, h5⟩ := Tm.all h
  exact ⟨h1, h2, by simp only [toD, PyData.depth]; omega, h4, Nat.le_trans h5 (Nat.mul_le_mul_right _ hn)⟩
theorem Tm.tup {d w n : Nat} {xs : List PV} (h : ∀ x ∈ xs, Tm d w x) (hn : xs.length ≤ n) : Tm (d + 1) (n * (w + 1)) (.tup xs) := by
  obtain ⟨h1, h2, h3, h4, h5⟩ := Tm.all h
  exact ⟨h1, h2, by simp only [toD, PyData.depth]; omega, h4, Nat.le_trans h5 (Nat.mul_le_mul_right _ hn)⟩
theorem Tm.list {d w n : Nat} {t : TY} {xs : List t.A} (h : ∀ x ∈ xs, Tm d w (t.enc x)) (hn : xs.length ≤ n) : Tm (d + 1) (n * (w + 1)) ((TY.list t).enc xs) := by
  refine Tm.lst (fun x hx => ?_) (by rw [List.length_map]; exact hn)
  obtain ⟨y, hy, rfl⟩ := List.mem_map.mp hx
  exact h y hy
theorem reprO_ok {t : TY} {x : t.A} {d w : Nat} (h : Tm d w (t.enc x)) (hd : d ≤ 60) (hw : w ≤ 8000) (hs : PyProof.Rows.isDisplay (toD (t.enc x)) = true) : reprO t x = some (shows (t.enc x)) := by
  unfold reprO showOk
  rw [if_pos]
  simp only [Bool.and_eq_true, decide_eq_true_eq]
  refine ⟨⟨⟨⟨h.i, hs⟩, h.s⟩, Nat.le_trans h.d hd⟩, ?_⟩
  have := PyData.shown_le 2000 (by decide) _ h.l
  have hw' := Nat.mul_le_mul_left 2002 (Nat.le_trans h.w hw)
  have e : sizeLine = 16777216 := rfl
  unfold shows
  omega
end Mb

set_option Elab.async false
set_option linter.all false
set_option maxRecDepth 100000
set_option maxHeartbeats 1000000
/-! Mb2: drawn plans. -/
namespace Mb
open Tp PySem
open L2 (atI)
def sq (n : Int) : List P2 := (rg n).flatMap fun i => (rg n).map fun j => (i, j)
theorem mem_sq {n : Int} {q : P2} : q ∈ sq n ↔ (0 ≤ q.1 ∧ q.1 < n) ∧ 0 ≤ q.2 ∧ q.2 < n := by
  obtain ⟨a, b⟩ := q
  unfold sq
  simp only [List.mem_flatMap, List.mem_map, mem_rg]
  constructor
  · rintro ⟨i, hi, j, hj, e⟩; cases e; exact ⟨hi, hj⟩
  · intro ⟨h1, h2⟩; exact ⟨a, h1, b, h2, rfl⟩
theorem sq_len (n : Int) : (sq n).length = n.toNat * n.toNat := by
  unfold sq
  rw [List.length_flatMap]
  have : (rg n).map (fun i => ((rg n).map fun j => (i, j)).length) = (rg n).map fun _ => n.toNat := List.map_congr_left fun i _ => by rw [List.length_map, rg_len]
  rw [this, List.map_const', List.sum_replicate_nat, rg_len]
theorem pairs_len {n : Int} {A : List P2} (h : A.Nodup) (hm : ∀ q ∈ A, (0 ≤ q.1 ∧ q.1 < n) ∧ 0 ≤ q.2 ∧ q.2 < n) : A.length ≤ n.toNat * n.toNat := by
  rw [← sq_len]
  exact h.length_le_of_subset fun q hq => mem_sq.mpr (hm q hq)
theorem pairs_len6 {n : Int} {A : List P2} (h : A.Nodup) (hn : n ≤ 6) (hm : ∀ q ∈ A, (0 ≤ q.1 ∧ q.1 < n) ∧ 0 ≤ q.2 ∧ q.2 < n) : A.length ≤ 36 := by
  have h1 := pairs_len h hm
  have h2 : n.toNat ≤ 6 := by omega
  have := Nat.mul_le_mul h2 h2
  omega
def mm (a b : Int) : P2 := (if b < a then b else a, if b > a then b else a)
theorem mm_inj {a b c d : Int} (h : mm a b = mm c d) : (a = c ∧ b = d) ∨ (a = d ∧ b = c) := by
  unfold mm at h
  simp only [Prod.mk.injEq] at h
  obtain ⟨h1, h2⟩ := h
  split at h1 <;> split at h1 <;> split at h2 <;> split at h2 <;> omega
theorem mm_lt {a b : Int} (h : a ≠ b) : (mm a b).1 < (mm a b).2 := by
  unfold mm
  dsimp only
  split <;> split <;> omega
theorem mm_mem {a b : Int} : ((mm a b).1 = a ∨ (mm a b).1 = b) ∧ ((mm a b).2 = a ∨ (mm a b).2 = b) := by
  unfold mm
  dsimp only
  split <;> split <;> omega
/-- the i-th thing of an order -/
abbrev th (o : List Int) (i : Nat) : Int := o.getD i 0
theorem th_eq {o : List Int} {i : Nat} (h : i < o.length) : th o i = o[i] := by
  unfold th
  rw [List.getD_eq_getElem?_getD, List.getElem?_eq_getElem h]
  rfl
theorem th_mem {o : List Int} {i : Nat} (h : i < o.length) : th o i ∈ o := by
  rw [th_eq h]; exact List.getElem_mem h
theorem th_inj {o : List Int} (hn : o.Nodup) {i j : Nat} (hi : i < o.length) (hj : j < o.length) (e : th o i = th o j) : i = j := by
  rw [th_eq hi, th_eq hj] at e
  exact (List.getElem_inj hn).mp e
theorem atI_th {o : List Int} {i : Int} (h0 : 0 ≤ i) (h : i < o.length) : atI o i = some (th o i.toNat) := by
  rw [atI_ok h0 h, th_eq (by omega)]
def Kp (o p : List Int) (x : Int) (p' : List Int) (i j : Nat) : Prop := i < j ∧ j < o.length ∧ ((i : Int) ∈ p ∨ ((i : Int) = x ∧ (j : Int) ∈ p'))
structure PI (o p : List Int) (x : Int) (p' : List Int) (A T : List P2) : Prop where
  an : A.Nodup
  tn : T.Nodup
  a : ∀ q ∈ A, ∃ i j, Kp o p x p' i j ∧ q = (th o i, th o j)
  t : ∀ q ∈ T, ∃ i j, Kp o p x p' i j ∧ q = mm (th o i) (th o j)
theorem Kp.more {o p p' : List Int} {x y : Int} {i j : Nat} (h : Kp o p x p' i j) : Kp o p x (p' ++ [y]) i j := ⟨h.1, h.2.1, h.2.2.imp id fun q => ⟨q.1, by simp [q.2]⟩⟩
theorem nodup_snoc {A : Type} {l : List A} {a : A} (h : l.Nodup) (hn : a ∉ l) : (l ++ [a]).Nodup := by
  rw [List.nodup_append]
  exact ⟨h, by simp, fun x hx y hy e => by simp at hy; subst hy; subst e; exact hn hx⟩
theorem PI.step {o p p' : List Int} {x y : Int} {A T A' T' : List P2} (h : PI o p x p' A T) (hx : x ∉ p) (hy : y ∉ p') (h0 : 0 ≤ x) (hxy : x < y) (hl : y < o.length) (on : o.Nodup)
    (ha : A' = A ∨ A' = A ++ [(th o x.toNat, th o y.toNat)]) (ht : T' = T ∨ T' = T ++ [mm (th o x.toNat) (th o y.toNat)]) : PI o p x (p' ++ [y]) A' T' := by
  have hk : Kp o p x (p' ++ [y]) x.toNat y.toNat := ⟨by omega, by omega, .inr ⟨by omega, by rw [Int.toNat_of_nonneg (by omega)]; simp⟩⟩
  have no : ∀ {i j : Nat}, Kp o p x p' i j → i = x.toNat → j = y.toNat → False := fun {i j} k e1 e2 => by
    rcases k.2.2 with q | ⟨_, q⟩
    · exact hx (by rw [show x = (i : Int) by omega]; exact q)
    · exact hy (by rw [show y = (j : Int) by omega]; exact q)
  constructor
  · rcases ha with rfl | rfl
    · exact h.an
    · refine nodup_snoc h.an fun hm => ?_
      obtain ⟨i, j, k, e⟩ := h.a _ hm
      have e1 := th_inj on (by omega) (by have := k.1; have := k.2.1; omega) (congrArg Prod.fst e)
      have e2 := th_inj on (by omega) k.2.1 (congrArg Prod.snd e)
      exact no k e1.symm e2.symm
  · rcases ht with rfl | rfl
    · exact h.tn
    · refine nodup_snoc h.tn fun hm => ?_
      obtain ⟨i, j, k, e⟩ := h.t _ hm
      have hij := k.1
      have hj := k.2.1
      rcases mm_inj e with ⟨e1, e2⟩ | ⟨e1, e2⟩
      · have e1 := th_inj on (by omega) (by omega) e1
        have e2 := th_inj on (by omega) (by omega) e2
        exact no k e1.symm e2.symm
      · have e1 := th_inj on (by omega) (by omega) e1
        have e2 := th_inj on (by omega) (by omega) e2
        omega
  · intro q hq
    have old : q ∈ A → ∃ i j, Kp o p x (p' ++ [y]) i j ∧ q = (th o i, th o j) := fun hq => let ⟨i, j, k, e⟩ := h.a q hq; ⟨i, j, k.more, e⟩
    rcases ha with rfl | rfl
    · exact old hq
    · rcases List.mem_append.mp hq with hq | hq
      · exact old hq
      · simp at hq; exact ⟨_, _, hk, hq⟩
  · intro q hq
    have old : q ∈ T → ∃ i j, Kp o p x (p' ++ [y]) i j ∧ q = mm (th o i) (th o j) := fun hq => let ⟨i, j, k, e⟩ := h.t q hq; ⟨i, j, k.more, e⟩
    rcases ht with rfl | rfl
    · exact old hq
    · rcases List.mem_append.mp hq with hq | hq
      · exact old hq
      · simp at hq; exact ⟨_, _, hk, hq⟩
theorem PI.shut {o p p' : List Int} {x z : Int} {A T : List P2} (h : PI o p x p' A T) : PI o (p ++ [x]) z [] A T := by
  have key : ∀ {i j : Nat}, Kp o p x p' i j → Kp o (p ++ [x]) z [] i j := fun k => ⟨k.1, k.2.1, .inl (by rcases k.2.2 with q | ⟨q, _⟩ <;> simp [q])⟩
  exact ⟨h.an, h.tn, fun q hq => let ⟨i, j, k, e⟩ := h.a q hq; ⟨i, j, key k, e⟩, fun q hq => let ⟨i, j, k, e⟩ := h.t q hq; ⟨i, j, key k, e⟩⟩
theorem PI.turn {o p : List Int} {x z : Int} {A T : List P2} (h : PI o p x [] A T) : PI o p z [] A T := by
  have key : ∀ {i j : Nat}, Kp o p x [] i j → Kp o p z [] i j := fun k => ⟨k.1, k.2.1, .inl (by rcases k.2.2 with q | ⟨_, q⟩ <;> simp_all)⟩
  exact ⟨h.an, h.tn, fun q hq => let ⟨i, j, k, e⟩ := h.a q hq; ⟨i, j, key k, e⟩, fun q hq => let ⟨i, j, k, e⟩ := h.t q hq; ⟨i, j, key k, e⟩⟩
/-- a drawn plan: o the order of its things -/
structure PlanOk (most n : Int) (A T : List P2) : Prop where
  n0 : 0 ≤ n
  n1 : n ≤ most
  an : A.Nodup
  tn : T.Nodup
  t : ∀ q ∈ T, 0 ≤ q.1 ∧ q.1 < q.2 ∧ q.2 < n
  a : ∀ q ∈ A, (0 ≤ q.1 ∧ q.1 < n) ∧ 0 ≤ q.2 ∧ q.2 < n
  o : ∃ o : List Int, o.Perm (rg n) ∧ ∀ q ∈ A, ∃ i j, i < j ∧ j < o.length ∧ q = (th o i, th o j)
theorem PI.lens {o p p' : List Int} {x n : Int} {A T : List P2} (h : PI o p x p' A T) (ho : o.Perm (rg n)) (hn : n ≤ 6) : A.length ≤ 36 ∧ T.length ≤ 36 := by
  have hm : ∀ {i : Nat}, i < o.length → 0 ≤ th o i ∧ th o i < n := fun hi => mem_rg.mp (ho.mem_iff.mp (th_mem hi))
  constructor
  · refine pairs_len6 h.an hn fun q hq => ?_
    obtain ⟨i, j, k, rfl⟩ := h.a q hq
    exact ⟨hm (by have := k.1; have := k.2.1; omega), hm k.2.1⟩
  · refine pairs_len6 h.tn hn fun q hq => ?_
    obtain ⟨i, j, k, rfl⟩ := h.t q hq
    have h1 := hm (i := i) (by have := k.1; have := k.2.1; omega)
    have h2 := hm k.2.1
    have := mm_mem (a := th o i) (b := th o j)
    omega
theorem PI.plan {o p : List Int} {x n most : Int} {A T A' T' : List P2} (h : PI o p x [] A T) (ho : o.Perm (rg n)) (h0 : 0 ≤ n) (h1 : n ≤ most) (pa : A'.Perm A) (pt : T'.Perm T) : PlanOk most n A' T' := by
  have hm : ∀ {i : Nat}, i < o.length → 0 ≤ th o i ∧ th o i < n := fun hi => mem_rg.mp (ho.mem_iff.mp (th_mem hi))
  have on : o.Nodup := ho.nodup_iff.mpr (rg_nodup n)
  refine ⟨h0, h1, pa.nodup_iff.mpr h.an, pt.nodup_iff.mpr h.tn, fun q hq => ?_, fun q hq => ?_, o, ho, fun q hq => ?_⟩
  · obtain ⟨i, j, k, rfl⟩ := h.t q (pt.mem_iff.mp hq)
    have hij := k.1
    have h1 := hm (i := i) (by have := k.2.1; omega)
    have h2 := hm k.2.1
    have ne : th o i ≠ th o j := fun e => by have := th_inj on (by have := k.2.1; omega) k.2.1 e; omega
    have := mm_lt ne
    have := mm_mem (a := th o i) (b := th o j)
    omega
  · obtain ⟨i, j, k, rfl⟩ := h.a q (pa.mem_iff.mp hq)
    exact ⟨hm (by have := k.1; have := k.2.1; omega), hm k.2.1⟩
  · obtain ⟨i, j, k, e⟩ := h.a q (pa.mem_iff.mp hq)
    exact ⟨i, j, k.1, k.2.1, e⟩
/-- what stands ahead of a place in a list without doubles -/
theorem ahead_not {l p r : List Int} {x : Int} (hn : l.Nodup) (e : l = p ++ x :: r) : x ∉ p := by
  subst e
  rw [List.nodup_append] at hn
  exact fun h => hn.2.2 x h x (by simp) rfl
theorem upTo_nodup (i : Int) (n : Nat) : (Tp.upTo i n).Nodup := by
  unfold Tp.upTo
  rw [List.nodup_iff_pairwise_ne, List.pairwise_map]
  exact List.pairwise_lt_range.imp fun h => by omega
theorem th_ne {o : List Int} (on : o.Nodup) {i j : Nat} (hi : i < o.length) (hj : j < o.length) (h : i ≠ j) : th o i ≠ th o j := fun e => h (th_inj on hi hj e)
end Mb

set_option Elab.async false
set_option linter.all false
set_option maxRecDepth 100000
set_option maxHeartbeats 1000000
/-! Mb3: parts of what hangs together. -/
namespace Mb
open Classical
noncomputable def cls (T : List P2) (L : List Int) (t : Int) : List Int := L.filter fun x => decide (Ld (both T) L t x)
def Mn (T : List P2) (L : List Int) (t : Int) : Prop := ∀ x ∈ L, Ld (both T) L t x → t ≤ x
noncomputable def prt (T : List P2) (L : List Int) : List (List Int) := (L.filter fun t => decide (Mn T L t)).map (cls T L)
section
variable {T : List P2} {L : List Int} {s t x y : Int}
theorem mem_cls : x ∈ cls T L t ↔ x ∈ L ∧ Ld (both T) L t x := by
  unfold cls; rw [List.mem_filter, decide_eq_true_eq]
theorem cls_up (h : Up L) : Up (cls T L t) := List.Pairwise.filter _ h
theorem cls_self (h : t ∈ L) : t ∈ cls T L t := mem_cls.mpr ⟨h, .here⟩
theorem cls_eq (ht : t ∈ L) (h : Ld (both T) L t s) : cls T L t = cls T L s := by
  unfold cls
  refine List.filter_congr fun x hx => ?_
  congr 1
  refine propext ⟨fun q => ?_, fun q => ?_⟩
  · exact Ld.trans q (h.symm ht)
  · exact Ld.trans q h
theorem ld_cls (ht : t ∈ L) (hs : s ∈ L) (h : cls T L t = cls T L s) : Ld (both T) L t s := by
  have := cls_self (T := T) hs
  rw [← h] at this
  exact (mem_cls.mp this).2
/-- the least of a class -/
theorem least (hL : Up L) (ht : t ∈ L) : ∃ h, h ∈ L ∧ Ld (both T) L t h ∧ Mn T L h ∧ h ≤ t := by
  have hs := cls_self (T := T) ht
  have hu := cls_up (T := T) (t := t) hL
  cases e : cls T L t with
  | nil => rw [e] at hs; cases hs
  | cons h r =>
    have hh : h ∈ cls T L t := by rw [e]; simp
    obtain ⟨h1, h2⟩ := mem_cls.mp hh
    rw [e] at hu hs
    refine ⟨h, h1, h2, fun x hx q => ?_, ?_⟩
    · have : x ∈ cls T L t := mem_cls.mpr ⟨hx, Ld.trans q h2⟩
      rw [e] at this
      rcases List.mem_cons.mp this with rfl | this
      · exact Int.le_refl _
      · exact Int.le_of_lt ((List.pairwise_cons.mp hu).1 x this)
    · rcases List.mem_cons.mp hs with rfl | hs
      · exact Int.le_refl _
      · exact Int.le_of_lt ((List.pairwise_cons.mp hu).1 t hs)
theorem Mn.eq (hs : s ∈ L) (ht : t ∈ L) (ms : Mn T L s) (mt : Mn T L t) (h : Ld (both T) L s t) : s = t := by
  have := ms t ht h
  have := mt s hs (h.symm hs)
  omega
theorem mem_prt (hL : Up L) {p : List Int} : p ∈ prt T L ↔ ∃ t ∈ L, p = cls T L t := by
  unfold prt
  rw [List.mem_map]
  constructor
  · rintro ⟨t, h, rfl⟩; exact ⟨t, (List.mem_filter.mp h).1, rfl⟩
  · rintro ⟨t, ht, rfl⟩
    obtain ⟨h, h1, h2, h3, _⟩ := least (T := T) hL ht
    exact ⟨h, List.mem_filter.mpr ⟨h1, by simpa using h3⟩, (cls_eq ht h2).symm⟩
theorem cls_head (hL : Up L) (ht : t ∈ L) (m : Mn T L t) : ∃ r, cls T L t = t :: r := by
  have hs := cls_self (T := T) ht
  have hu := cls_up (T := T) (t := t) hL
  cases e : cls T L t with
  | nil => rw [e] at hs; cases hs
  | cons h r =>
    have hh : h ∈ cls T L t := by rw [e]; simp
    obtain ⟨h1, h2⟩ := mem_cls.mp hh
    have := m h h1 h2
    rw [e] at hu hs
    rcases List.mem_cons.mp hs with rfl | hs
    · exact ⟨r, rfl⟩
    · have := (List.pairwise_cons.mp hu).1 t hs; omega
/-- by heads -/
def lth (a b : List Int) : Prop := ∃ x y r q, a = x :: r ∧ b = y :: q ∧ x < y
theorem prt_lth (hL : Up L) : (prt T L).Pairwise lth := by
  unfold prt
  rw [List.pairwise_map]
  have h1 : (L.filter fun t => @decide (Mn T L t) (Classical.propDecidable _)).Pairwise (· < ·) := List.Pairwise.filter _ hL
  refine List.Pairwise.imp_of_mem (fun {a b} ha hb q => ?_) h1
  obtain ⟨a1, a2⟩ := List.mem_filter.mp ha
  obtain ⟨b1, b2⟩ := List.mem_filter.mp hb
  obtain ⟨r, er⟩ := cls_head hL a1 (of_decide_eq_true a2)
  obtain ⟨s, es⟩ := cls_head hL b1 (of_decide_eq_true b2)
  exact ⟨a, b, r, s, er, es, q⟩
theorem prt_nodup (hL : Up L) : (prt T L).Nodup := (prt_lth hL).imp fun {a b} ⟨x, y, r, q, e1, e2, h⟩ e => by
  rw [e1, e2] at e; injection e with e; omega
abbrev leR (a b : List Int) : Bool := decide (a ≤ b)
theorem lth_le {a b : List Int} (h : lth a b) : leR a b = true := by
  obtain ⟨x, y, r, q, rfl, rfl, h⟩ := h
  exact decide_eq_true (List.le_of_lt (List.Lex.rel h))
theorem rows_sorted {l : List (List Int)} (hL : Up L) (h : l.Perm (prt T L)) : l.mergeSort leR = prt T L := by
  have h1 : (l.mergeSort leR).Pairwise (fun a b => leR a b = true) := List.pairwise_mergeSort (le := leR) (fun a b c h1 h2 => decide_eq_true (List.le_trans (of_decide_eq_true h1) (of_decide_eq_true h2))) (fun a b => by
    have := List.le_total a b
    simpa [leR] using this) l
  exact List.Perm.eq_of_pairwise (le := fun a b => leR a b = true) (fun a b _ _ h1 h2 => List.le_antisymm (of_decide_eq_true h1) (of_decide_eq_true h2)) h1 ((prt_lth hL).imp lth_le) ((List.mergeSort_perm l leR).trans h)
/-- only what is tied counts -/
theorem Ld.congr {A B : List P2} (h : ∀ p, p ∈ A ↔ p ∈ B) : Ld A L t x ↔ Ld B L t x := ⟨fun q => q.mono (fun p hp => (h p).mp hp) fun _ h => h, fun q => q.mono (fun p hp => (h p).mpr hp) fun _ h => h⟩
theorem both_congr {A B : List P2} (h : ∀ p, p ∈ A ↔ p ∈ B) (p : P2) : p ∈ both A ↔ p ∈ both B := by
  obtain ⟨a, b⟩ := p
  rw [mem_both, mem_both, h, h]
theorem prt_congr {A B : List P2} (h : ∀ p, p ∈ A ↔ p ∈ B) : prt A L = prt B L := by
  have e : ∀ t x, Ld (both A) L t x ↔ Ld (both B) L t x := fun t x => Ld.congr (both_congr h)
  have e1 : cls A L = cls B L := by funext t; unfold cls; congr 1; funext x; congr 1; exact propext (e t x)
  have e2 : Mn A L = Mn B L := by
    funext t; unfold Mn
    refine propext ⟨fun q x hx k => q x hx ((e t x).mpr k), fun q x hx k => q x hx ((e t x).mp k)⟩
  unfold prt
  rw [e1, e2]
/-- all things, each in one part -/
theorem prt_flat (hL : Up L) : srt (prt T L).flatten = L := by
  refine srt_eq ?_ hL fun x => ?_
  · rw [List.nodup_iff_pairwise_ne, List.pairwise_flatten]
    refine ⟨fun p hp => ?_, ?_⟩
    · obtain ⟨t, _, rfl⟩ := (mem_prt hL).mp hp
      exact List.nodup_iff_pairwise_ne.mp (cls_up hL).nodup
    · unfold prt
      rw [List.pairwise_map]
      have h1 : (L.filter fun t => @decide (Mn T L t) (Classical.propDecidable _)).Pairwise (· < ·) := List.Pairwise.filter _ hL
      refine List.Pairwise.imp_of_mem (fun {a b} ha hb q => ?_) h1
      intro x hx y hy exy
      subst exy
      obtain ⟨a1, a2⟩ := List.mem_filter.mp ha
      obtain ⟨b1, b2⟩ := List.mem_filter.mp hb
      have h1 := (mem_cls.mp hx).2
      have h2 := (mem_cls.mp hy).2
      have := Mn.eq a1 b1 (of_decide_eq_true a2) (of_decide_eq_true b2) (Ld.trans (h2.symm b1) h1)
      omega
  · rw [List.mem_flatten]
    constructor
    · rintro ⟨p, hp, hx⟩
      obtain ⟨t, _, rfl⟩ := (mem_prt hL).mp hp
      exact (mem_cls.mp hx).1
    · intro hx
      exact ⟨cls T L x, (mem_prt hL).mpr ⟨x, hx, rfl⟩, cls_self hx⟩
/-- one tie more -/
theorem Ld.more {a b : Int} (ha : a ∈ L) (hb : b ∈ L) (ht : t ∈ L) (h : Ld (both (T ++ [(a, b)])) L t x) : Ld (both T) L t x ∨ ((Ld (both T) L a t ∨ Ld (both T) L b t) ∧ (Ld (both T) L a x ∨ Ld (both T) L b x)) := by
  induction h with
  | here => exact .inl .here
  | step h1 h2 h3 ih =>
    rename_i x y
    have h2' : (x, y) ∈ both T ∨ (x = a ∧ y = b) ∨ (x = b ∧ y = a) := by
      rcases mem_both.mp h2 with q | q
      · rcases List.mem_append.mp q with q | q
        · exact .inl (mem_both.mpr (.inl q))
        · simp at q; exact .inr (.inl q)
      · rcases List.mem_append.mp q with q | q
        · exact .inl (mem_both.mpr (.inr q))
        · simp at q; exact .inr (.inr ⟨q.2, q.1⟩)
    rcases h2' with q | q | q
    · rcases ih with i | ⟨i1, i2⟩
      · exact .inl (.step i q h3)
      · exact .inr ⟨i1, i2.imp (fun z => .step z q h3) fun z => .step z q h3⟩
    · obtain ⟨rfl, rfl⟩ := q
      rcases ih with i | ⟨i1, i2⟩
      · exact .inr ⟨.inr (i.symm ht), .inl .here⟩
      · exact .inr ⟨i1, .inl .here⟩
    · obtain ⟨rfl, rfl⟩ := q
      rcases ih with i | ⟨i1, i2⟩
      · exact .inr ⟨.inl (i.symm ht), .inr .here⟩
      · exact .inr ⟨i1, .inr .here⟩
theorem filter_len {A : Type} (p q : A → Bool) : ∀ (l : List A), (∀ x, q x = true → p x = true) → (l.filter p).length = (l.filter q).length + (l.filter fun x => p x && !q x).length
  | [], _ => rfl
  | x :: r, h => by
    have ih := filter_len p q r h
    cases hp : p x with
    | false =>
      have hq : q x = false := by
        cases hq : q x with
        | false => rfl
        | true => rw [h x hq] at hp; cases hp
      rw [List.filter_cons_of_neg (by simp [hp]), List.filter_cons_of_neg (by simp [hq]), List.filter_cons_of_neg (by simp [hp]), ih]
    | true =>
      cases hq : q x with
      | true => rw [List.filter_cons_of_pos hp, List.filter_cons_of_pos hq, List.filter_cons_of_neg (by simp [hq])]; simp only [List.length_cons]; omega
      | false => rw [List.filter_cons_of_pos hp, List.filter_cons_of_neg (by simp [hq]), List.filter_cons_of_pos (by simp [hp, hq])]; simp only [List.length_cons]; omega
theorem one_len {A : Type} {l : List A} (hn : l.Nodup) (h : ∀ x ∈ l, ∀ y ∈ l, x = y) : l.length ≤ 1 := by
  cases l with
  | nil => simp
  | cons a r =>
    cases r with
    | nil => simp
    | cons b r =>
      exfalso
      have := h a (by simp) b (by simp)
      rw [List.nodup_cons] at hn
      exact hn.1 (by simp [this])
theorem prt_len {a b : Int} (hL : Up L) (ha : a ∈ L) (hb : b ∈ L) : (prt T L).length = (prt (T ++ [(a, b)]) L).length ∨ (prt T L).length = (prt (T ++ [(a, b)]) L).length + 1 := by
  have up : ∀ {t x : Int}, Ld (both T) L t x → Ld (both (T ++ [(a, b)])) L t x := fun h => h.mono (fun ⟨u, v⟩ hp => by
    rw [mem_both] at hp ⊢
    simp only [List.mem_append]
    exact hp.imp .inl .inl) fun _ h => h
  have hmn : ∀ t, Mn (T ++ [(a, b)]) L t → Mn T L t := fun t h x hx q => h x hx (up q)
  unfold prt
  rw [List.length_map, List.length_map]
  have key := filter_len (fun t => @decide (Mn T L t) (Classical.propDecidable _)) (fun t => @decide (Mn (T ++ [(a, b)]) L t) (Classical.propDecidable _)) L (fun t h => decide_eq_true (hmn t (of_decide_eq_true h)))
  have hn : (L.filter fun x => (@decide (Mn T L x) (Classical.propDecidable _)) && !(@decide (Mn (T ++ [(a, b)]) L x) (Classical.propDecidable _))).length ≤ 1 := by
    refine one_len ((List.Pairwise.filter _ hL).imp fun {a b} (h : a < b) => by omega) fun s hs t ht => ?_
    simp only [List.mem_filter, Bool.and_eq_true, Bool.not_eq_true', decide_eq_true_eq, decide_eq_false_iff_not] at hs ht
    obtain ⟨s1, s2, s3⟩ := hs
    obtain ⟨t1, t2, t3⟩ := ht
    unfold Mn at s3 t3
    simp only [Classical.not_forall] at s3 t3
    obtain ⟨x, hx, qx, lx⟩ := s3
    obtain ⟨y, hy, qy, ly⟩ := t3
    rcases Ld.more ha hb s1 qx with q | ⟨p1, p2⟩
    · exact absurd (s2 x hx q) lx
    rcases Ld.more ha hb t1 qy with q | ⟨r1, r2⟩
    · exact absurd (t2 y hy q) ly
    have both_ : ∀ {c : Int}, c ∈ L → Ld (both T) L c s → Ld (both T) L c t → s = t := fun hc h1 h2 => Mn.eq s1 t1 s2 t2 (Ld.trans h2 (h1.symm hc))
    rcases p1 with p1 | p1 <;> rcases r1 with r1 | r1
    · exact both_ ha p1 r1
    · -- s with a, t with b
      rcases p2 with p2 | p2
      · exact absurd (s2 x hx (Ld.trans p2 (p1.symm ha))) lx
      rcases r2 with r2 | r2
      · have h1 := t2 x hx (Ld.trans p2 (r1.symm hb))
        have h2 := s2 y hy (Ld.trans r2 (p1.symm ha))
        omega
      · exact absurd (t2 y hy (Ld.trans r2 (r1.symm hb))) ly
    · rcases p2 with p2 | p2
      · rcases r2 with r2 | r2
        · exact absurd (t2 y hy (Ld.trans r2 (r1.symm ha))) ly
        · have h1 := t2 x hx (Ld.trans p2 (r1.symm ha))
          have h2 := s2 y hy (Ld.trans r2 (p1.symm hb))
          omega
      · exact absurd (s2 x hx (Ld.trans p2 (p1.symm hb))) lx
    · exact both_ hb p1 r1
  omega
end
end Mb

set_option Elab.async false
set_option linter.all false
set_option maxRecDepth 100000
set_option maxHeartbeats 1000000
/-! Mb4: the order of arrows; what the package does with plans, as plain functions. -/
namespace Mb
open Tp PySem
open L2 (atI)
def able (A : List P2) (left : List Int) : List Int := left.filter fun x => !A.any fun q => decide (q.2 = x) && decide (q.1 ∈ left)
def greedy (A : List P2) : Nat → List Int → Option (List Int)
  | 0, left => if left = [] then some [] else none
  | k + 1, left => if left = [] then some [] else match able A left with
    | [] => none
    | x :: _ => (greedy A k (left.erase x)).map (x :: ·)
theorem mem_able {A : List P2} {left : List Int} {x : Int} : x ∈ able A left ↔ x ∈ left ∧ ∀ q ∈ A, q.2 = x → q.1 ∉ left := by
  unfold able
  simp only [List.mem_filter, Bool.not_eq_true', List.any_eq_false, Bool.and_eq_true, decide_eq_true_eq, not_and]
theorem min_rank (rank : Int → Nat) : ∀ {l : List Int}, l ≠ [] → ∃ x ∈ l, ∀ y ∈ l, rank x ≤ rank y
  | [a], _ => ⟨a, by simp, fun y hy => by simp at hy; subst hy; exact Nat.le_refl _⟩
  | a :: b :: r, _ => by
    obtain ⟨x, hx, h⟩ := min_rank rank (l := b :: r) (by simp)
    by_cases q : rank a ≤ rank x
    · refine ⟨a, by simp, fun y hy => ?_⟩
      rcases List.mem_cons.mp hy with rfl | hy
      · exact Nat.le_refl _
      · exact Nat.le_trans q (h y hy)
    · refine ⟨x, by simp [List.mem_cons.mp hx], fun y hy => ?_⟩
      rcases List.mem_cons.mp hy with rfl | hy
      · omega
      · exact h y hy
/-- no ring -/
def Acy (A : List P2) : Prop := ∃ rank : Int → Nat, ∀ q ∈ A, rank q.1 < rank q.2
theorem greedy_some {A : List P2} (h : Acy A) : ∀ (k : Nat) {left : List Int}, left.length ≤ k → ∃ o, greedy A k left = some o ∧ o.Perm left := by
  obtain ⟨rank, hr⟩ := h
  intro k
  induction k with
  | zero => intro left hl; have : left = [] := List.length_eq_zero_iff.mp (by omega); subst this; exact ⟨[], rfl, .refl _⟩
  | succ k ih =>
    intro left hl
    unfold greedy
    by_cases e : left = []
    · subst e; exact ⟨[], by simp, .refl _⟩
    rw [if_neg e]
    obtain ⟨x, hx, hm⟩ := min_rank rank e
    have hxa : x ∈ able A left := mem_able.mpr ⟨hx, fun q hq e hq1 => by
      have h1 := hr q hq
      have h2 := hm q.1 hq1
      rw [e] at h1
      omega⟩
    cases ea : able A left with
    | nil => rw [ea] at hxa; cases hxa
    | cons y r =>
      have hy : y ∈ left := (mem_able.mp (show y ∈ able A left by rw [ea]; simp)).1
      obtain ⟨o, h1, h2⟩ := ih (left := left.erase y) (by rw [List.length_erase_of_mem hy]; omega)
      refine ⟨y :: o, by simp [h1], ?_⟩
      exact (h2.cons y).trans (List.perm_cons_erase hy).symm
theorem greedy_perm {A : List P2} : ∀ (k : Nat) {left o : List Int}, greedy A k left = some o → o.Perm left := by
  intro k
  induction k with
  | zero =>
    intro left o h
    unfold greedy at h
    by_cases e : left = []
    · rw [if_pos e] at h; cases h; subst e; exact .refl _
    · rw [if_neg e] at h; cases h
  | succ k ih =>
    intro left o h
    unfold greedy at h
    by_cases e : left = []
    · rw [if_pos e] at h; cases h; subst e; exact .refl _
    · rw [if_neg e] at h
      cases ea : able A left with
      | nil => rw [ea] at h; cases h
      | cons y r =>
        rw [ea] at h
        dsimp only at h
        have hy : y ∈ left := (mem_able.mp (show y ∈ able A left by rw [ea]; simp)).1
        cases eg : greedy A k (left.erase y) with
        | none => rw [eg] at h; cases h
        | some o' =>
          rw [eg] at h
          cases h
          exact ((ih eg).cons y).trans (List.perm_cons_erase hy).symm
/-- arrows go forward -/
theorem greedy_fwd {A : List P2} : ∀ (k : Nat) {left o : List Int}, left.Nodup → greedy A k left = some o → o.Pairwise fun a b => (b, a) ∉ A := by
  intro k
  induction k with
  | zero =>
    intro left o hn h
    unfold greedy at h
    by_cases e : left = []
    · rw [if_pos e] at h; cases h; exact List.Pairwise.nil
    · rw [if_neg e] at h; cases h
  | succ k ih =>
    intro left o hn h
    unfold greedy at h
    by_cases e : left = []
    · rw [if_pos e] at h; cases h; exact List.Pairwise.nil
    · rw [if_neg e] at h
      cases ea : able A left with
      | nil => rw [ea] at h; cases h
      | cons y r =>
        rw [ea] at h
        dsimp only at h
        have hy := mem_able.mp (show y ∈ able A left by rw [ea]; simp)
        cases eg : greedy A k (left.erase y) with
        | none => rw [eg] at h; cases h
        | some o' =>
          rw [eg] at h
          cases h
          refine List.pairwise_cons.mpr ⟨fun z hz hm => ?_, ih (hn.erase y) eg⟩
          have hz' : z ∈ left := List.mem_of_mem_erase ((greedy_perm k eg).mem_iff.mp hz)
          exact hy.2 _ hm rfl hz'
/-- the order -/
def ordr (n : Int) (A : List P2) : Option (List Int) := greedy A n.toNat (rg n)
theorem ordr_some {n : Int} {A : List P2} (h : Acy A) : ∃ o, ordr n A = some o ∧ o.Perm (rg n) := greedy_some h _ (by rw [rg_len]; exact Nat.le_refl _)
def ArrOk (n : Int) (A : List P2) : Prop := ∀ q ∈ A, (0 ≤ q.1 ∧ q.1 < n) ∧ (0 ≤ q.2 ∧ q.2 < n) ∧ q.1 ≠ q.2
def TieOk (n : Int) (T : List P2) : Prop := ∀ q ∈ T, 0 ≤ q.1 ∧ q.1 < q.2 ∧ q.2 < n
theorem TieOk.arr {n : Int} {T : List P2} (h : TieOk n T) : ArrOk n T := fun q hq => by have := h q hq; exact ⟨⟨by omega, by omega⟩, ⟨by omega, by omega⟩, by omega⟩
theorem PlanOk.acy {m n : Int} {A T : List P2} (h : PlanOk m n A T) : Acy A := by
  obtain ⟨o, ho, hf⟩ := h.o
  have on : o.Nodup := ho.nodup_iff.mpr (rg_nodup n)
  refine ⟨fun x => o.idxOf x, fun q hq => ?_⟩
  obtain ⟨i, j, h1, h2, rfl⟩ := hf q hq
  have e : ∀ {k : Nat} (hk : k < o.length), o.idxOf (th o k) = k := fun {k} hk => by
    have h3 : o.idxOf (th o k) < o.length := List.idxOf_lt_length_of_mem (th_mem hk)
    have h4 : o[o.idxOf (th o k)] = th o k := List.getElem_idxOf h3
    refine th_inj on h3 hk ?_
    rw [th_eq h3]; exact h4
  show o.idxOf (th o i) < o.idxOf (th o j)
  rw [e (by omega), e h2]; exact h1
theorem PlanOk.arr {m n : Int} {A T : List P2} (h : PlanOk m n A T) : ArrOk n A := fun q hq => by
  obtain ⟨h1, h2⟩ := h.a q hq
  refine ⟨h1, h2, fun e => ?_⟩
  obtain ⟨rank, hr⟩ := h.acy
  have := hr q hq
  rw [e] at this
  omega
theorem PlanOk.tie {m n : Int} {A T : List P2} (h : PlanOk m n A T) : TieOk n T := h.t
theorem Acy.sub {A B : List P2} (h : Acy B) (hs : ∀ q ∈ A, q ∈ B) : Acy A := let ⟨r, hr⟩ := h; ⟨r, fun q hq => hr q (hs q hq)⟩
theorem ArrOk.sub {n : Int} {A B : List P2} (h : ArrOk n B) (hs : ∀ q ∈ A, q ∈ B) : ArrOk n A := fun q hq => h q (hs q hq)
theorem TieOk.sub {n : Int} {A B : List P2} (h : TieOk n B) (hs : ∀ q ∈ A, q ∈ B) : TieOk n A := fun q hq => h q (hs q hq)
theorem ArrOk.len {n : Int} {A : List P2} (h : ArrOk n A) (hn : A.Nodup) (h6 : n ≤ 6) : A.length ≤ 36 := pairs_len6 hn h6 fun q hq => ⟨(h q hq).1, (h q hq).2.1⟩
theorem TieOk.len {n : Int} {T : List P2} (h : TieOk n T) (hn : T.Nodup) (h6 : n ≤ 6) : T.length ≤ 36 := h.arr.len hn h6
theorem cut1 {A : Type} (xs : List A) : cut xs (some 1) none = xs.drop 1 := by
  unfold cut
  have e : HT.sIx xs.length 0 (some 1) = min 1 xs.length := HT.sIx_nat xs.length 0 1
  rw [show HT.sIx xs.length xs.length none = xs.length from rfl, e]
  cases xs with
  | nil => rfl
  | cons a r =>
    have : min 1 (a :: r).length = 1 := by simp
    rw [this]
    exact List.take_of_length_le (by simp)
/-- leading, step by step: found, fresh -/
def late (A : List P2) (L found fresh : List Int) : List Int := L.filter fun x => A.any fun q => decide (q.1 = x) && (decide (q.2 ∈ fresh) && (decide (q.1 ∈ L) && !decide (q.1 ∈ found)))
theorem mem_late {A : List P2} {L found fresh : List Int} {x : Int} : x ∈ late A L found fresh ↔ x ∈ L ∧ x ∉ found ∧ ∃ y ∈ fresh, (x, y) ∈ A := by
  unfold late
  simp only [List.mem_filter, List.any_eq_true, Bool.and_eq_true, decide_eq_true_eq, Bool.not_eq_true', decide_eq_false_iff_not]
  constructor
  · rintro ⟨h1, ⟨a, b⟩, hq, rfl, h2, h3, h4⟩; exact ⟨h1, h4, b, h2, hq⟩
  · rintro ⟨h1, h2, y, h3, h4⟩; exact ⟨h1, (x, y), h4, rfl, h3, h1, h2⟩
structure LdI (A : List P2) (L : List Int) (t : Int) (found fresh : List Int) : Prop where
  nd : found.Nodup
  ld : ∀ x ∈ found, Ld A L t x
  fr : ∀ x ∈ fresh, x ∈ found
  cl : ∀ y ∈ found, y ∉ fresh → ∀ x, (x, y) ∈ A → x ∈ L → x ∈ found
  t : t ∈ found
theorem LdI.start {A : List P2} {L : List Int} {t : Int} : LdI A L t [t] [t] := ⟨by simp, fun x h => by simp at h; subst h; exact .here, fun _ h => h, fun y h1 h2 => absurd h1 h2, by simp⟩
theorem LdI.step {A : List P2} {L : List Int} {t : Int} {found fresh : List Int} (hL : L.Nodup) (h : LdI A L t found fresh) : LdI A L t (found ++ late A L found fresh) (late A L found fresh) := by
  refine ⟨?_, ?_, fun x hx => by simp [hx], ?_, by simp [h.t]⟩
  · rw [List.nodup_append]
    exact ⟨h.nd, List.Pairwise.filter _ hL, fun x hx y hy e => by subst e; exact (mem_late.mp hy).2.1 hx⟩
  · intro x hx
    rcases List.mem_append.mp hx with hx | hx
    · exact h.ld x hx
    · obtain ⟨h1, h2, y, h3, h4⟩ := mem_late.mp hx
      exact .step (h.ld y (h.fr y h3)) h4 h1
  · intro y hy hn x hx hl
    rcases List.mem_append.mp hy with hy | hy
    · by_cases hf : x ∈ found
      · simp [hf]
      · by_cases hyf : y ∈ fresh
        · exact List.mem_append.mpr (.inr (mem_late.mpr ⟨hl, hf, y, hyf, hx⟩))
        · exact absurd (h.cl y hy hyf x hx hl) hf
    · exact absurd hy hn
theorem LdI.len {A : List P2} {L : List Int} {t : Int} {found fresh : List Int} (h : LdI A L t found fresh) : found.length ≤ L.length + 1 :=
  h.nd.length_le_of_subset (l₂ := t :: L) fun x hx => by
    rcases (h.ld x hx).mem with e | e
    · simp [e]
    · simp [e]
theorem LdI.stop {A : List P2} {L : List Int} {t x : Int} {found : List Int} (h : LdI A L t found []) : x ∈ found ↔ Ld A L t x := by
  refine ⟨h.ld x, fun q => ?_⟩
  induction q with
  | here => exact h.t
  | step h1 h2 h3 ih => exact h.cl _ ih (by simp) _ h2 h3
theorem greedy_while {A : List P2} {c : List Int × List Int × Unit → R Bool} {b : List Int × List Int × Unit → R (FL (List Int × List Int × Unit) (Option (List Int)))} (hc : ∀ s, c s = .ok (!(EqT.list EqT.int).b s.2.1 []))
    (hb : ∀ f l, l ≠ [] → f.length + l.length < 900 → b (f, l, ()) = .ok (match able A l with
      | [] => .rt none
      | x :: _ => .nx (f ++ [x], l.erase x, ()))) :
    ∀ (k : Nat) (left found : List Int) (fuel : Nat), left.length ≤ k → k < fuel → found.length + left.length < 900 → Tp.whileF c b fuel (found, left, ()) = .ok (match greedy A k left with
      | some o => .nx (found ++ o, [], ())
      | none => .rt none) := by
  have nil : ∀ (k fuel : Nat) (found : List Int), 0 < fuel → Tp.whileF c b fuel (found, [], ()) = .ok (match greedy A k [] with
      | some o => .nx (found ++ o, [], ())
      | none => .rt none) := by
    intro k fuel found h
    cases fuel with
    | zero => omega
    | succ fuel =>
      have e : (EqT.list EqT.int).b [] [] = true := (EqT.b_true _ _ _).mpr rfl
      have eg : greedy A k [] = some [] := by cases k <;> simp [greedy]
      rw [eg]
      show c _ >>= _ = _
      rw [hc]
      dsimp only
      rw [e]
      simp
  intro k
  induction k with
  | zero =>
    intro left found fuel h1 h2 h3
    have : left = [] := List.length_eq_zero_iff.mp (by omega)
    subst this
    exact nil 0 fuel found h2
  | succ k ih =>
    intro left found fuel h1 h2 h3
    by_cases e : left = []
    · subst e; exact nil (k + 1) fuel found (by omega)
    cases fuel with
    | zero => omega
    | succ fuel =>
      have eb : (EqT.list EqT.int).b left [] = false := (EqT.b_false _ _ _).mpr e
      show c _ >>= _ = _
      rw [hc]
      dsimp only
      rw [eb, R.bind_ok]
      simp only [Bool.not_false, if_true]
      rw [hb _ _ e h3]
      unfold greedy
      rw [if_neg e]
      cases ea : able A left with
      | nil => rfl
      | cons x r =>
        have hx : x ∈ left := (mem_able.mp (show x ∈ able A left by rw [ea]; simp)).1
        have hl := List.length_erase_of_mem hx
        have hp : 0 < left.length := List.length_pos_iff.mpr e
        dsimp only
        rw [R.bind_ok]
        dsimp only
        rw [ih (left.erase x) (found ++ [x]) fuel (by omega) (by omega) (by rw [List.length_append, List.length_singleton]; omega)]
        cases greedy A k (left.erase x) with
        | none => rfl
        | some o => simp
end Mb

set_option Elab.async false
set_option linter.all false
set_option maxRecDepth 100000
set_option maxHeartbeats 1000000
/-! Mb5: parts by marks. -/
namespace Mb
open Tp PySem
open L2 (atI)
theorem th_map {f : Int → Int} {m : List Int} {i : Nat} (h : i < m.length) : th (m.map f) i = f (th m i) := by
  rw [th_eq (by rw [List.length_map]; exact h), th_eq h, List.getElem_map]
theorem th_rg {n : Int} {i : Int} (h : i ∈ rg n) : th (rg n) i.toNat = i := by
  have := mem_rg.mp h
  rw [th_eq (by rw [rg_len]; omega)]
  unfold rg
  rw [List.getElem_map, List.getElem_range]
  omega
theorem Ld.nil {L : List Int} {t x : Int} (h : Ld (both []) L t x) : x = t := by
  cases h with
  | here => rfl
  | step h1 h2 h3 => simp [both] at h2
/-- a tie more, the other way -/
theorem Ld.join {T : List P2} {L : List Int} {a b t x : Int} (ha : a ∈ L) (hb : b ∈ L) (ht : t ∈ L) (h : Ld (both T) L t x ∨ ((Ld (both T) L a t ∨ Ld (both T) L b t) ∧ (Ld (both T) L a x ∨ Ld (both T) L b x))) : Ld (both (T ++ [(a, b)])) L t x := by
  have up : ∀ {t x : Int}, Ld (both T) L t x → Ld (both (T ++ [(a, b)])) L t x := fun h => h.mono (fun ⟨u, v⟩ hp => by
    rw [mem_both] at hp ⊢
    simp only [List.mem_append]
    exact hp.imp .inl .inl) fun _ h => h
  have ab : Ld (both (T ++ [(a, b)])) L b a := .step .here (mem_both.mpr (.inl (by simp))) ha
  have ba : Ld (both (T ++ [(a, b)])) L a b := .step .here (mem_both.mpr (.inr (by simp))) hb
  rcases h with h | ⟨h1, h2⟩
  · exact up h
  · rcases h1 with h1 | h1 <;> rcases h2 with h2 | h2
    · exact Ld.trans (up h2) ((up h1).symm ha)
    · exact Ld.trans (up h2) (Ld.trans ba ((up h1).symm ha))
    · exact Ld.trans (up h2) (Ld.trans ab ((up h1).symm hb))
    · exact Ld.trans (up h2) ((up h1).symm hb)
structure MkI (n : Int) (p : List P2) (m : List Int) : Prop where
  len : m.length = n.toNat
  val : ∀ x ∈ m, x ∈ rg n
  eqv : ∀ i j, i ∈ rg n → j ∈ rg n → (th m i.toNat = th m j.toNat ↔ Ld (both p) (rg n) i j)
theorem MkI.start (n : Int) : MkI n [] (rg n) := ⟨rg_len n, fun _ h => h, fun i j hi hj => by
  rw [th_rg hi, th_rg hj]
  exact ⟨fun e => by rw [e]; exact .here, fun h => h.nil.symm⟩⟩
theorem MkI.at_ {n : Int} {p : List P2} {m : List Int} (h : MkI n p m) {i : Int} (hi : i ∈ rg n) : atI m i = some (th m i.toNat) := by
  have := mem_rg.mp hi
  exact atI_th this.1 (by rw [h.len]; omega)
theorem MkI.step {n : Int} {p : List P2} {m : List Int} {a b : Int} (h : MkI n p m) (ha : a ∈ rg n) (hb : b ∈ rg n) : MkI n (p ++ [(a, b)]) (m.map fun y => if decide (y = th m b.toNat) = true then th m a.toNat else y) := by
  have lt : ∀ {i : Int}, i ∈ rg n → i.toNat < m.length := fun hi => by have := mem_rg.mp hi; rw [h.len]; omega
  refine ⟨by rw [List.length_map]; exact h.len, fun x hx => ?_, fun i j hi hj => ?_⟩
  · obtain ⟨y, hy, rfl⟩ := List.mem_map.mp hx
    split
    · exact h.val _ (th_mem (lt ha))
    · exact h.val _ hy
  · rw [th_map (lt hi), th_map (lt hj)]
    simp only [decide_eq_true_eq]
    have eij := h.eqv i j hi hj
    have eai := h.eqv a i ha hi
    have ebi := h.eqv b i hb hi
    have eaj := h.eqv a j ha hj
    have ebj := h.eqv b j hb hj
    have key : Ld (both (p ++ [(a, b)])) (rg n) i j ↔ (Ld (both p) (rg n) i j ∨ ((Ld (both p) (rg n) a i ∨ Ld (both p) (rg n) b i) ∧ (Ld (both p) (rg n) a j ∨ Ld (both p) (rg n) b j))) := ⟨fun q => Ld.more ha hb hi q, fun q => Ld.join ha hb hi q⟩
    rw [key, ← eij, ← eai, ← ebi, ← eaj, ← ebj]
    generalize th m i.toNat = u
    generalize th m j.toNat = v
    generalize th m a.toNat = x
    generalize th m b.toNat = y
    split <;> split <;> constructor <;> intro q <;> omega
theorem MkI.perm {n : Int} {T : List P2} {m : List Int} (h : MkI n T m) : (((rg n).filter fun k => EqT.int.mem k m).map fun k => (rg n).filter fun t => decide (th m t.toNat = k)).Perm (prt T (rg n)) := by
  have lt : ∀ {i : Int}, i ∈ rg n → i.toNat < m.length := fun hi => by have := mem_rg.mp hi; rw [h.len]; omega
  have back : ∀ {k : Int}, k ∈ m → ∃ i ∈ rg n, th m i.toNat = k := fun {k} hk => by
    obtain ⟨i, hi, e⟩ := List.mem_iff_getElem.mp hk
    refine ⟨(i : Int), mem_rg.mpr ⟨by omega, by rw [h.len] at hi; omega⟩, ?_⟩
    rw [Int.toNat_natCast, th_eq hi]; exact e
  have hc : ∀ i ∈ rg n, ((rg n).filter fun t => decide (th m t.toNat = th m i.toNat)) = cls T (rg n) i := fun i hi => by
    unfold cls
    refine List.filter_congr fun x hx => ?_
    rw [Bool.eq_iff_iff]
    simp only [decide_eq_true_eq]
    rw [← h.eqv i x hi hx]
    exact eq_comm
  refine (List.perm_ext_iff_of_nodup ?_ (prt_nodup (rg_up n))).mpr fun p => ?_
  · rw [List.nodup_iff_pairwise_ne, List.pairwise_map]
    refine List.Pairwise.imp_of_mem (fun {a b} ha hb q e => ?_) (List.nodup_iff_pairwise_ne.mp ((rg_nodup n).filter (p := fun k => EqT.int.mem k m)))
    obtain ⟨_, a2⟩ := List.mem_filter.mp ha
    obtain ⟨i, hi, ei⟩ := back ((EqT.mem_true _ _ _).mp a2)
    have : i ∈ (rg n).filter fun t => decide (th m t.toNat = b) := by
      rw [← e]
      exact List.mem_filter.mpr ⟨hi, by simpa using ei⟩
    have := (List.mem_filter.mp this).2
    simp only [decide_eq_true_eq] at this
    exact q (ei.symm.trans this)
  · rw [mem_prt (rg_up n), List.mem_map]
    constructor
    · rintro ⟨k, hk, rfl⟩
      obtain ⟨_, k2⟩ := List.mem_filter.mp hk
      obtain ⟨i, hi, rfl⟩ := back ((EqT.mem_true _ _ _).mp k2)
      exact ⟨i, hi, hc i hi⟩
    · rintro ⟨t, ht, rfl⟩
      exact ⟨th m t.toNat, List.mem_filter.mpr ⟨h.val _ (th_mem (lt ht)), (EqT.mem_true _ _ _).mpr (th_mem (lt ht))⟩, hc t ht⟩
end Mb

set_option Elab.async false
set_option linter.all false
set_option maxRecDepth 100000
set_option maxHeartbeats 1000000
/-! Mb6: leading: orders go along, closures by rounds, what is ahead. -/
namespace Mb
open Tp PySem
open L2 (atI)
/-- arrows go forward in an order -/
theorem Ld.idx {A : List P2} {n t x : Int} {o : List Int} (ho : o.Perm (rg n)) (hf : o.Pairwise fun a b => (b, a) ∉ A) (hA : ArrOk n A) (h : Ld A (rg n) t x) (ht : t ∈ rg n) : x = t ∨ o.idxOf x < o.idxOf t := by
  have key : ∀ a b, (a, b) ∈ A → o.idxOf a < o.idxOf b := fun a b q => by
    have hq := hA _ q
    have ha : a ∈ o := ho.mem_iff.mpr (mem_rg.mpr hq.1)
    have hb : b ∈ o := ho.mem_iff.mpr (mem_rg.mpr hq.2.1)
    have la := List.idxOf_lt_length_of_mem ha
    have lb := List.idxOf_lt_length_of_mem hb
    have ea : o[o.idxOf a] = a := List.getElem_idxOf la
    have eb : o[o.idxOf b] = b := List.getElem_idxOf lb
    rcases Nat.lt_trichotomy (o.idxOf a) (o.idxOf b) with h | h | h
    · exact h
    · exact absurd (by rw [← ea, ← eb]; simp [h]) hq.2.2
    · have := List.pairwise_iff_getElem.mp hf _ _ lb la h
      rw [ea, eb] at this
      exact absurd q this
  induction h with
  | here => exact .inl rfl
  | step h1 h2 h3 ih =>
    refine .inr ?_
    have := key _ _ h2
    rcases ih with rfl | ih
    · exact this
    · omega
theorem Ld.mem' {A : List P2} {n t x : Int} (h : Ld A (rg n) t x) (ht : t ∈ rg n) : x ∈ rg n := by
  rcases h.mem with rfl | h
  · exact ht
  · exact h
/-! ### closures by rounds -/
def passRow (row : List Int) (q : P2) : List Int := if q.1 ∈ row ∧ q.2 ∉ row then row ++ [q.2] else row
def pass (A : List P2) (row : List Int) : List Int := A.foldl passRow row
structure RowOk (A : List P2) (n s : Int) (row : List Int) : Prop where
  nd : row.Nodup
  sm : s ∈ row
  ld : ∀ y ∈ row, Ld A (rg n) y s
  m : ∀ y ∈ row, y ∈ rg n
def Closed (A : List P2) (row : List Int) : Prop := ∀ q ∈ A, q.1 ∈ row → q.2 ∈ row
theorem RowOk.start {A : List P2} {n s : Int} (h : s ∈ rg n) : RowOk A n s [s] := ⟨by simp, by simp, fun y hy => by simp at hy; subst hy; exact .here, fun y hy => by simp at hy; subst hy; exact h⟩
theorem RowOk.step {A : List P2} {n s : Int} {row : List Int} (h : RowOk A n s row) (hA : ArrOk n A) {q : P2} (hq : q ∈ A) : RowOk A n s (passRow row q) := by
  unfold passRow
  split
  · rename_i c
    refine ⟨List.nodup_append.mpr ⟨h.nd, by simp, fun a ha b hb e => ?_⟩, by simp [h.sm], fun y hy => ?_, fun y hy => ?_⟩
    · simp at hb; subst hb; subst e; exact c.2 ha
    · rcases List.mem_append.mp hy with hy | hy
      · exact h.ld y hy
      · simp at hy; subst hy
        exact (h.ld _ c.1).trans (.step .here hq (h.m _ c.1))
    · rcases List.mem_append.mp hy with hy | hy
      · exact h.m y hy
      · simp at hy; subst hy
        exact mem_rg.mpr (hA q hq).2.1
  · exact h
theorem RowOk.len {A : List P2} {n s : Int} {row : List Int} (h : RowOk A n s row) : row.length ≤ n.toNat := by
  rw [← rg_len]
  exact h.nd.length_le_of_subset h.m
theorem passRow_sub {row : List Int} {q : P2} : ∀ y ∈ row, y ∈ passRow row q := fun y hy => by
  unfold passRow; split <;> simp [hy]
theorem passRow_len {row : List Int} {q : P2} : row.length ≤ (passRow row q).length := by
  unfold passRow; split <;> simp
theorem passRow_eq {row : List Int} {q : P2} (h : (passRow row q).length = row.length) : passRow row q = row := by
  unfold passRow at h ⊢
  split
  · rename_i c; rw [if_pos c] at h; simp at h
  · rfl
theorem foldl_pass {A : List P2} {n s : Int} (hA : ArrOk n A) : ∀ (B : List P2) (row : List Int), (∀ q ∈ B, q ∈ A) → RowOk A n s row → RowOk A n s (B.foldl passRow row) ∧ (∀ y ∈ row, y ∈ B.foldl passRow row) ∧ row.length ≤ (B.foldl passRow row).length ∧
    (∀ q ∈ B, q.1 ∈ row → q.2 ∈ B.foldl passRow row) ∧ ((B.foldl passRow row).length = row.length → B.foldl passRow row = row)
  | [], row, _, h => ⟨h, fun _ h => h, Nat.le_refl _, fun _ h => (nomatch h), fun _ => rfl⟩
  | q :: B, row, hB, h => by
    obtain ⟨h1, h2, h3, h4, h5⟩ := foldl_pass hA B (passRow row q) (fun p hp => hB p (by simp [hp])) (h.step hA (hB q (by simp)))
    have hl := passRow_len (row := row) (q := q)
    refine ⟨h1, fun y hy => h2 y (passRow_sub y hy), Nat.le_trans hl h3, fun p hp hr => ?_, fun e => ?_⟩
    · rcases List.mem_cons.mp hp with rfl | hp
      · refine h2 _ ?_
        unfold passRow
        by_cases c : p.2 ∈ row
        · rw [if_neg (fun z => z.2 c)]; exact c
        · rw [if_pos ⟨hr, c⟩]; simp
      · exact h4 p hp (passRow_sub _ hr)
    · rw [List.foldl_cons] at e ⊢
      have e2 : (passRow row q).length = row.length := by omega
      have e3 := h5 (by omega)
      rw [e3, passRow_eq e2]
theorem pass_ok {A : List P2} {n s : Int} (hA : ArrOk n A) {row : List Int} (h : RowOk A n s row) : RowOk A n s (pass A row) ∧ ((Closed A (pass A row) ∧ Closed A row) ∨ row.length + 1 ≤ (pass A row).length) := by
  obtain ⟨h1, h2, h3, h4, h5⟩ := foldl_pass hA A row (fun _ h => h) h
  refine ⟨h1, ?_⟩
  by_cases e : (pass A row).length = row.length
  · have e2 : pass A row = row := h5 e
    have : Closed A row := fun q hq hr => by
      have := h4 q hq hr
      rw [show A.foldl passRow row = row from e2] at this
      exact this
    exact .inl ⟨by rw [e2]; exact this, this⟩
  · exact .inr (by have : (A.foldl passRow row).length ≠ row.length := e; unfold pass; omega)
theorem closed_pass {A : List P2} {row : List Int} (h : Closed A row) : pass A row = row := by
  have key : ∀ B : List P2, (∀ q ∈ B, q ∈ A) → B.foldl passRow row = row := by
    intro B
    induction B with
    | nil => intro _; rfl
    | cons q B ih =>
      intro hB
      rw [List.foldl_cons]
      have : passRow row q = row := by
        unfold passRow
        rw [if_neg]
        exact fun c => c.2 (h q (hB q (by simp)) c.1)
      rw [this]
      exact ih fun p hp => hB p (by simp [hp])
  exact key A fun _ h => h
def rounds (A : List P2) : Nat → List Int → List Int
  | 0, row => row
  | k + 1, row => rounds A k (pass A row)
theorem rounds_succ (A : List P2) : ∀ (k : Nat) (row : List Int), rounds A (k + 1) row = pass A (rounds A k row)
  | 0, _ => rfl
  | k + 1, row => rounds_succ A k (pass A row)
theorem rounds_ok {A : List P2} {n s : Int} (hA : ArrOk n A) {row : List Int} (h : RowOk A n s row) : ∀ k, RowOk A n s (rounds A k row) ∧ (Closed A (rounds A k row) ∨ row.length + k ≤ (rounds A k row).length)
  | 0 => ⟨h, .inr (Nat.le_refl _)⟩
  | k + 1 => by
    obtain ⟨h1, h2⟩ := rounds_ok hA h k
    rw [rounds_succ]
    obtain ⟨h3, h4⟩ := pass_ok hA h1
    refine ⟨h3, ?_⟩
    rcases h2 with h2 | h2
    · rw [closed_pass h2]; exact .inl h2
    · rcases h4 with h4 | h4
      · exact .inl h4.1
      · exact .inr (by omega)
/-- what a thing leads to, after as many rounds as there are things -/
theorem rounds_iff {A : List P2} {n s y : Int} (hA : ArrOk n A) (hs : s ∈ rg n) : y ∈ rounds A n.toNat [s] ↔ Ld A (rg n) y s := by
  obtain ⟨h1, h2⟩ := rounds_ok hA (RowOk.start (A := A) hs) n.toNat
  have hc : Closed A (rounds A n.toNat [s]) := by
    rcases h2 with h2 | h2
    · exact h2
    · have := h1.len
      simp at h2
      omega
  refine ⟨h1.ld y, fun h => ?_⟩
  have key : ∀ x, Ld A (rg n) y x → x ∈ rounds A n.toNat [s] → y ∈ rounds A n.toNat [s] := fun x hx => by
    induction hx with
    | here => exact id
    | step a b c ih => exact fun hx => ih (hc _ b hx)
  exact key s h h1.sm
theorem upTo_succ (i : Int) (k : Nat) : Tp.upTo i (k + 1) = i :: Tp.upTo (i + 1) k := by
  unfold Tp.upTo
  rw [List.range_succ_eq_map, List.map_cons, List.map_map]
  simp only [Int.natCast_zero, Int.add_zero, List.cons.injEq, true_and]
  refine List.map_congr_left fun x _ => ?_
  simp only [Function.comp]
  omega
/-- a loop over places that puts a row's pass there -/
theorem loop_rows {f : Int → List (List Int) × Unit → R (List (List Int) × Unit)} {g : List Int → List Int} {Z : List Int → Prop} (hf : ∀ (i : Nat) (fd : List (List Int)) row, fd[i]? = some row → Z row → f (i : Int) (fd, ()) = .ok (fd.set i (g row), ())) :
    ∀ (suf pre : List (List Int)), (∀ r ∈ suf, Z r) → Tp.loopN f (Tp.upTo pre.length suf.length) (pre ++ suf, ()) = .ok (pre ++ suf.map g, ())
  | [], pre, _ => by simp [Tp.upTo, Tp.loopN]
  | r :: suf, pre, hz => by
    rw [List.length_cons, upTo_succ]
    show (f _ _ >>= fun m => _) = _
    rw [hf pre.length _ r (by simp) (hz r (by simp)), R.bind_ok]
    have e : (pre ++ r :: suf).set pre.length (g r) = (pre ++ [g r]) ++ suf := by simp
    rw [e]
    have := loop_rows hf suf (pre ++ [g r]) fun x hx => hz x (by simp [hx])
    have el : ((pre ++ [g r]).length : Int) = (pre.length : Int) + 1 := by simp
    rw [el] at this
    rw [this]
    simp
theorem loop_arrows {f : P2 → List (List Int) × Unit → R (List (List Int) × Unit)} {Z : List Int → Prop} {A : List P2} {i : Nat} (hZ : ∀ q ∈ A, ∀ row, Z row → Z (passRow row q)) (hf : ∀ q ∈ A, ∀ (fd : List (List Int)) row, fd[i]? = some row → Z row → f q (fd, ()) = .ok (fd.set i (passRow row q), ())) :
    ∀ (B : List P2) (fd : List (List Int)) (row : List Int), (∀ q ∈ B, q ∈ A) → fd[i]? = some row → Z row → Tp.loopN f B (fd, ()) = .ok (fd.set i (B.foldl passRow row), ())
  | [], fd, row, _, h, _ => by
    have : fd.set i row = fd := List.ext_getElem? fun j => by
      rw [List.getElem?_set]
      split
      · rename_i e; subst e
        have hl := (List.getElem?_eq_some_iff.mp h).1
        rw [if_pos hl]; exact h.symm
      · rfl
    rw [List.foldl_nil, this]; rfl
  | q :: B, fd, row, hB, h, hz => by
    show (f _ _ >>= fun m => _) = _
    rw [hf q (hB q (by simp)) fd row h hz, R.bind_ok]
    have hl := (List.getElem?_eq_some_iff.mp h).1
    rw [loop_arrows hZ hf B _ (passRow row q) (fun p hp => hB p (by simp [hp])) (by rw [List.getElem?_set_self hl]) (hZ q (hB q (by simp)) row hz), List.set_set, List.foldl_cons]
/-! ### what is ahead -/
open Classical in
noncomputable def aheadL (A : List P2) (n t : Int) : List Int := (rg n).filter fun x => decide (Ld A (rg n) t x) && !decide (x = t)
open Classical in
theorem mem_aheadL {A : List P2} {n t x : Int} : x ∈ aheadL A n t ↔ x ∈ rg n ∧ Ld A (rg n) t x ∧ x ≠ t := by
  unfold aheadL
  simp only [List.mem_filter, Bool.and_eq_true, decide_eq_true_eq, Bool.not_eq_true', decide_eq_false_iff_not]
theorem aheadL_up {A : List P2} {n t : Int} : Up (aheadL A n t) := List.Pairwise.filter _ (rg_up n)
theorem aheadL_congr {A B : List P2} {n t : Int} (h : ∀ p, p ∈ A ↔ p ∈ B) : aheadL A n t = aheadL B n t := up_ext aheadL_up aheadL_up fun x => by
  rw [mem_aheadL, mem_aheadL, Ld.congr h]
end Mb

set_option Elab.async false
set_option linter.all false
set_option maxRecDepth 100000
set_option maxHeartbeats 1000000
/-! Mb7: renaming. -/
namespace Mb
open Tp PySem
open L2 (atI)
/-- the new name of a thing -/
abbrev sg (o : List Int) (i : Int) : Int := th o i.toNat
def ren (o : List Int) (q : P2) : P2 := (sg o q.1, sg o q.2)
def tmm (o : List Int) (q : P2) : P2 := mm (sg o q.1) (sg o q.2)
section
variable {n : Int} {o p : List Int} {A T : List P2}
theorem pm_len (ho : o.Perm (rg n)) : o.length = n.toNat := by rw [ho.length_eq, rg_len]
theorem sg_rg (ho : o.Perm (rg n)) {i : Int} (h : i ∈ rg n) : sg o i ∈ rg n := by
  have h' := mem_rg.mp h
  exact ho.mem_iff.mp (th_mem (by rw [pm_len ho]; omega))
theorem sg_inj (ho : o.Perm (rg n)) {i j : Int} (hi : i ∈ rg n) (hj : j ∈ rg n) (e : sg o i = sg o j) : i = j := by
  have hi' := mem_rg.mp hi
  have hj' := mem_rg.mp hj
  have := th_inj (ho.nodup_iff.mpr (rg_nodup n)) (by rw [pm_len ho]; omega) (by rw [pm_len ho]; omega) e
  omega
theorem sg_at (ho : o.Perm (rg n)) {i : Int} (h : i ∈ rg n) : atI o i = some (sg o i) := by
  have h' := mem_rg.mp h
  exact atI_th h'.1 (by rw [pm_len ho]; omega)
theorem sg_surj (ho : o.Perm (rg n)) {x : Int} (h : x ∈ rg n) : ∃ i ∈ rg n, sg o i = x := by
  obtain ⟨k, hk, e⟩ := List.mem_iff_getElem.mp (ho.mem_iff.mpr h)
  refine ⟨(k : Int), mem_rg.mpr ⟨by omega, by rw [pm_len ho] at hk; omega⟩, ?_⟩
  show th o (k : Int).toNat = x
  rw [Int.toNat_natCast, th_eq hk, e]
theorem idx_sg (ho : o.Perm (rg n)) {i : Int} (h : i ∈ rg n) : (o.idxOf (sg o i) : Int) = i := by
  have h' := mem_rg.mp h
  have hm := sg_rg ho h
  have hl := List.idxOf_lt_length_of_mem (ho.mem_iff.mpr hm)
  have e : o[o.idxOf (sg o i)] = sg o i := List.getElem_idxOf hl
  have h2 : th o (o.idxOf (sg o i)) = sg o i := by rw [th_eq hl]; exact e
  have := th_inj (ho.nodup_iff.mpr (rg_nodup n)) hl (by rw [pm_len ho]; omega) h2
  omega
theorem idx_mem (ho : o.Perm (rg n)) {x : Int} (h : x ∈ rg n) : (o.idxOf x : Int) ∈ rg n ∧ sg o (o.idxOf x : Int) = x := by
  obtain ⟨i, hi, rfl⟩ := sg_surj ho h
  rw [idx_sg ho hi]
  exact ⟨hi, rfl⟩
theorem mm_comm (a b : Int) : mm a b = mm b a := by
  unfold mm
  rcases Int.lt_trichotomy a b with h | h | h
  · rw [if_neg (by omega), if_pos h, if_pos h, if_neg (by omega)]
  · subst h; rfl
  · rw [if_pos h, if_neg (by omega), if_neg (by omega), if_pos h]
theorem mm_of_lt {a b : Int} (h : a < b) : mm a b = (a, b) := by
  unfold mm; rw [if_neg (by omega), if_pos h]
theorem mm_cases (a b : Int) : mm a b = (a, b) ∨ mm a b = (b, a) := by
  unfold mm
  rcases Int.lt_trichotomy a b with h | h | h
  · left; rw [if_neg (by omega), if_pos h]
  · subst h; left; simp
  · right; rw [if_pos h, if_neg (by omega)]
theorem ren_arr (ho : o.Perm (rg n)) (h : ArrOk n A) : ArrOk n (A.map (ren o)) := fun q hq => by
  obtain ⟨p, hp, rfl⟩ := List.mem_map.mp hq
  have := h p hp
  have h1 := sg_rg ho (mem_rg.mpr this.1)
  have h2 := sg_rg ho (mem_rg.mpr this.2.1)
  exact ⟨mem_rg.mp h1, mem_rg.mp h2, fun e => this.2.2 (sg_inj ho (mem_rg.mpr this.1) (mem_rg.mpr this.2.1) e)⟩
theorem nodup_map {X Y : Type} {f : X → Y} {l : List X} (hn : l.Nodup) (h : ∀ x ∈ l, ∀ y ∈ l, f x = f y → x = y) : (l.map f).Nodup := by
  rw [List.Nodup, List.pairwise_map]
  exact List.Pairwise.imp_of_mem (fun ha hb hne e => hne (h _ ha _ hb e)) hn
theorem ren_nodup (ho : o.Perm (rg n)) (h : ArrOk n A) (hn : A.Nodup) : (A.map (ren o)).Nodup := nodup_map hn fun x hx y hy e => by
  have h1 := h x hx
  have h2 := h y hy
  unfold ren at e
  simp only [Prod.mk.injEq] at e
  exact Prod.ext (sg_inj ho (mem_rg.mpr h1.1) (mem_rg.mpr h2.1) e.1) (sg_inj ho (mem_rg.mpr h1.2.1) (mem_rg.mpr h2.2.1) e.2)
theorem ren_acy (ho : o.Perm (rg n)) (h : ArrOk n A) (ha : Acy A) : Acy (A.map (ren o)) := by
  obtain ⟨rank, hr⟩ := ha
  refine ⟨fun x => rank (o.idxOf x : Int), fun q hq => ?_⟩
  obtain ⟨p, hp, rfl⟩ := List.mem_map.mp hq
  have := h p hp
  show rank (o.idxOf (sg o p.1) : Int) < rank (o.idxOf (sg o p.2) : Int)
  rw [idx_sg ho (mem_rg.mpr this.1), idx_sg ho (mem_rg.mpr this.2.1)]
  exact hr p hp
theorem tmm_tie (ho : o.Perm (rg n)) (h : TieOk n T) : TieOk n (T.map (tmm o)) := fun q hq => by
  obtain ⟨p, hp, rfl⟩ := List.mem_map.mp hq
  have := h p hp
  have m1 : p.1 ∈ rg n := mem_rg.mpr ⟨by omega, by omega⟩
  have m2 : p.2 ∈ rg n := mem_rg.mpr ⟨by omega, by omega⟩
  have h1 := mem_rg.mp (sg_rg ho m1)
  have h2 := mem_rg.mp (sg_rg ho m2)
  have hne : sg o p.1 ≠ sg o p.2 := fun e => by have := sg_inj ho m1 m2 e; omega
  have hl := mm_lt hne
  unfold tmm
  rcases mm_cases (sg o p.1) (sg o p.2) with e | e <;> rw [e] at hl ⊢ <;> dsimp only at hl ⊢ <;> omega
theorem tmm_nodup (ho : o.Perm (rg n)) (h : TieOk n T) (hn : T.Nodup) : (T.map (tmm o)).Nodup := nodup_map hn fun x hx y hy e => by
  have h1 := h x hx
  have h2 := h y hy
  have a1 : x.1 ∈ rg n := mem_rg.mpr ⟨by omega, by omega⟩
  have a2 : x.2 ∈ rg n := mem_rg.mpr ⟨by omega, by omega⟩
  have b1 : y.1 ∈ rg n := mem_rg.mpr ⟨by omega, by omega⟩
  have b2 : y.2 ∈ rg n := mem_rg.mpr ⟨by omega, by omega⟩
  rcases mm_inj e with ⟨e1, e2⟩ | ⟨e1, e2⟩
  · exact Prod.ext (sg_inj ho a1 b1 e1) (sg_inj ho a2 b2 e2)
  · have := sg_inj ho a1 b2 e1
    have := sg_inj ho a2 b1 e2
    omega
/-- one renaming behind another -/
theorem sg_comp (ho : o.Perm (rg n)) {i : Int} (h : i ∈ rg n) : sg (o.map (sg p)) i = sg p (sg o i) := by
  have h' := mem_rg.mp h
  have hl : i.toNat < o.length := by rw [pm_len ho]; omega
  show th (o.map (sg p)) i.toNat = sg p (th o i.toNat)
  rw [th_eq (by rw [List.length_map]; exact hl), List.getElem_map, th_eq hl]
theorem comp_perm (ho : o.Perm (rg n)) (hp : p.Perm (rg n)) : (o.map (sg p)).Perm (rg n) := by
  have h1 : (o.map (sg p)).Nodup := nodup_map (ho.nodup_iff.mpr (rg_nodup n)) fun x hx y hy e => sg_inj hp (ho.mem_iff.mp hx) (ho.mem_iff.mp hy) e
  refine (List.perm_ext_iff_of_nodup h1 (rg_nodup n)).mpr fun x => ⟨fun hx => ?_, fun hx => ?_⟩
  · obtain ⟨y, hy, rfl⟩ := List.mem_map.mp hx
    exact sg_rg hp (ho.mem_iff.mp hy)
  · obtain ⟨i, hi, rfl⟩ := sg_surj hp hx
    exact List.mem_map.mpr ⟨i, ho.mem_iff.mpr hi, rfl⟩
theorem ren_comp (ho : o.Perm (rg n)) (h : ArrOk n A) : (A.map (ren o)).map (ren p) = A.map (ren (o.map (sg p))) := by
  rw [List.map_map]
  refine List.map_congr_left fun q hq => ?_
  have := h q hq
  show (sg p (sg o q.1), sg p (sg o q.2)) = (sg (o.map (sg p)) q.1, sg (o.map (sg p)) q.2)
  rw [sg_comp ho (mem_rg.mpr this.1), sg_comp ho (mem_rg.mpr this.2.1)]
theorem tmm_mm (p : List Int) (a b : Int) : tmm p (mm a b) = mm (sg p a) (sg p b) := by
  unfold tmm
  rcases mm_cases a b with e | e <;> rw [e]
  exact mm_comm _ _
theorem tmm_comp (ho : o.Perm (rg n)) (h : TieOk n T) : (T.map (tmm o)).map (tmm p) = T.map (tmm (o.map (sg p))) := by
  rw [List.map_map]
  refine List.map_congr_left fun q hq => ?_
  have := h q hq
  show tmm p (mm (sg o q.1) (sg o q.2)) = mm (sg (o.map (sg p)) q.1) (sg (o.map (sg p)) q.2)
  rw [tmm_mm, sg_comp ho (mem_rg.mpr ⟨by omega, by omega⟩), sg_comp ho (mem_rg.mpr ⟨by omega, by omega⟩)]
theorem rg_at {i : Nat} (h : i < (rg n).length) : (rg n)[i] = (i : Int) := by simp [rg]
theorem sg_id {i : Int} (h : i ∈ rg n) : sg (rg n) i = i := by
  have h' := mem_rg.mp h
  have hl : i.toNat < (rg n).length := by rw [rg_len]; omega
  show th (rg n) i.toNat = i
  rw [th_eq hl, rg_at hl]
  omega
theorem ren_id (h : ArrOk n A) : A.map (ren (rg n)) = A := by
  conv => rhs; rw [← List.map_id' A]
  refine List.map_congr_left fun q hq => ?_
  have := h q hq
  show (sg _ q.1, sg _ q.2) = q
  rw [sg_id (mem_rg.mpr this.1), sg_id (mem_rg.mpr this.2.1)]
theorem tmm_id (h : TieOk n T) : T.map (tmm (rg n)) = T := by
  conv => rhs; rw [← List.map_id' T]
  refine List.map_congr_left fun q hq => ?_
  have := h q hq
  show mm (sg _ q.1) (sg _ q.2) = q
  rw [sg_id (mem_rg.mpr ⟨by omega, by omega⟩), sg_id (mem_rg.mpr ⟨by omega, by omega⟩), mm_of_lt (by omega)]
/-- the way back -/
theorem back_perm (ho : o.Perm (rg n)) : ((rg n).map fun x => (o.idxOf x : Int)).Perm (rg n) := by
  have h1 : ((rg n).map fun x => (o.idxOf x : Int)).Nodup := nodup_map (rg_nodup n) fun x hx y hy e => by
    have := (idx_mem ho hx).2
    have h2 := (idx_mem ho hy).2
    rw [← this, ← h2, e]
  refine (List.perm_ext_iff_of_nodup h1 (rg_nodup n)).mpr fun x => ⟨fun hx => ?_, fun hx => ?_⟩
  · obtain ⟨y, hy, rfl⟩ := List.mem_map.mp hx
    exact (idx_mem ho hy).1
  · exact List.mem_map.mpr ⟨sg o x, sg_rg ho hx, idx_sg ho hx⟩
theorem back_sg (ho : o.Perm (rg n)) : o.map (sg ((rg n).map fun x => (o.idxOf x : Int))) = rg n := by
  refine List.ext_getElem (by rw [List.length_map, pm_len ho, rg_len]) fun k h1 h2 => ?_
  rw [List.getElem_map]
  have hk : k < o.length := by rw [List.length_map] at h1; exact h1
  have hm : o[k] ∈ rg n := ho.mem_iff.mp (List.getElem_mem hk)
  have hm' := mem_rg.mp hm
  have hl : (o[k]).toNat < ((rg n).map fun x => (o.idxOf x : Int)).length := by rw [List.length_map, rg_len]; omega
  show th _ (o[k]).toNat = _
  rw [th_eq hl, List.getElem_map]
  have e : (rg n)[(o[k]).toNat]'(by rw [rg_len]; omega) = o[k] := by rw [rg_at]; omega
  rw [e, rg_at]
  have h3 := List.idxOf_lt_length_of_mem (List.getElem_mem hk)
  have h4 : o[o.idxOf o[k]] = o[k] := List.getElem_idxOf h3
  have := (List.getElem_inj (ho.nodup_iff.mpr (rg_nodup n))).mp h4
  omega
/-- leading goes along -/
theorem Ld.ren {B : List P2} (ho : o.Perm (rg n)) (h : ∀ a ∈ rg n, ∀ b ∈ rg n, (a, b) ∈ A ↔ (sg o a, sg o b) ∈ B) {t x : Int} (ht : t ∈ rg n) (hx : x ∈ rg n) : Ld B (rg n) (sg o t) (sg o x) ↔ Ld A (rg n) t x := by
  constructor
  · intro q
    have key : ∀ z, Ld B (rg n) (sg o t) z → ∀ x ∈ rg n, sg o x = z → Ld A (rg n) t x := fun z hz => by
      induction hz with
      | here => intro x hx e; rw [sg_inj ho hx ht e]; exact .here
      | step a b c ih =>
        intro x hx e
        have hy := a.mem' (sg_rg ho ht)
        obtain ⟨y', hy', rfl⟩ := sg_surj ho hy
        subst e
        exact .step (ih y' hy' rfl) ((h _ hx _ hy').mpr b) hx
    exact key _ q x hx rfl
  · intro q
    induction q with
    | here => exact .here
    | @step x y a b c ih =>
      have hy : y ∈ rg n := a.mem' ht
      exact .step (ih hy) ((h _ c _ hy).mp b) (sg_rg ho c)
theorem mem_ren (ho : o.Perm (rg n)) (hA : ArrOk n A) : ∀ a ∈ rg n, ∀ b ∈ rg n, (a, b) ∈ A ↔ (sg o a, sg o b) ∈ A.map (ren o) := fun a ha b hb => by
  refine ⟨fun h => List.mem_map.mpr ⟨_, h, rfl⟩, fun h => ?_⟩
  obtain ⟨q, hq, e⟩ := List.mem_map.mp h
  have := hA q hq
  unfold ren at e
  simp only [Prod.mk.injEq] at e
  have e1 := sg_inj ho (mem_rg.mpr this.1) ha e.1
  have e2 := sg_inj ho (mem_rg.mpr this.2.1) hb e.2
  rw [← e1, ← e2]; exact hq
theorem mem_tmm (ho : o.Perm (rg n)) (hT : TieOk n T) : ∀ a ∈ rg n, ∀ b ∈ rg n, (a, b) ∈ both T ↔ (sg o a, sg o b) ∈ both (T.map (tmm o)) := fun a ha b hb => by
  rw [mem_both, mem_both]
  constructor
  · intro h
    rcases h with h | h
    · have : mm (sg o a) (sg o b) ∈ T.map (tmm o) := List.mem_map.mpr ⟨_, h, rfl⟩
      rcases mm_cases (sg o a) (sg o b) with e | e <;> rw [e] at this
      · exact .inl this
      · exact .inr this
    · have : mm (sg o b) (sg o a) ∈ T.map (tmm o) := List.mem_map.mpr ⟨_, h, rfl⟩
      rcases mm_cases (sg o b) (sg o a) with e | e <;> rw [e] at this
      · exact .inr this
      · exact .inl this
  · have key : ∀ a ∈ rg n, ∀ b ∈ rg n, (sg o a, sg o b) ∈ T.map (tmm o) → (a, b) ∈ T ∨ (b, a) ∈ T := fun a ha b hb h => by
      obtain ⟨q, hq, e⟩ := List.mem_map.mp h
      have := hT q hq
      have m1 : q.1 ∈ rg n := mem_rg.mpr ⟨by omega, by omega⟩
      have m2 : q.2 ∈ rg n := mem_rg.mpr ⟨by omega, by omega⟩
      unfold tmm at e
      rcases mm_cases (sg o q.1) (sg o q.2) with e2 | e2 <;> rw [e2] at e <;> simp only [Prod.mk.injEq] at e
      · have e1 := sg_inj ho m1 ha e.1
        have e2 := sg_inj ho m2 hb e.2
        rw [← e1, ← e2]; exact .inl hq
      · have e1 := sg_inj ho m2 ha e.1
        have e2 := sg_inj ho m1 hb e.2
        rw [← e1, ← e2]; exact .inr hq
    intro h
    rcases h with h | h
    · exact key a ha b hb h
    · exact (key b hb a ha h).symm
theorem ren_ahead (ho : o.Perm (rg n)) (hA : ArrOk n A) {t : Int} (ht : t ∈ rg n) : aheadL (A.map (ren o)) n (sg o t) = srt ((aheadL A n t).map (sg o)) := by
  have hn : ((aheadL A n t).map (sg o)).Nodup := nodup_map aheadL_up.nodup fun x hx y hy e => sg_inj ho (mem_aheadL.mp hx).1 (mem_aheadL.mp hy).1 e
  refine (srt_eq hn aheadL_up fun x => ?_).symm
  rw [mem_aheadL, List.mem_map]
  constructor
  · rintro ⟨y, hy, rfl⟩
    obtain ⟨h1, h2, h3⟩ := mem_aheadL.mp hy
    exact ⟨sg_rg ho h1, (Ld.ren ho (mem_ren ho hA) ht h1).mpr h2, fun e => h3 (sg_inj ho h1 ht e)⟩
  · rintro ⟨h1, h2, h3⟩
    obtain ⟨y, hy, rfl⟩ := sg_surj ho h1
    exact ⟨y, mem_aheadL.mpr ⟨hy, (Ld.ren ho (mem_ren ho hA) ht hy).mp h2, fun e => h3 (by rw [e])⟩, rfl⟩
theorem ren_cls (ho : o.Perm (rg n)) (hT : TieOk n T) {t : Int} (ht : t ∈ rg n) : srt ((cls T (rg n) t).map (sg o)) = cls (T.map (tmm o)) (rg n) (sg o t) := by
  have hn : ((cls T (rg n) t).map (sg o)).Nodup := nodup_map (cls_up (rg_up n)).nodup fun x hx y hy e => sg_inj ho (mem_cls.mp hx).1 (mem_cls.mp hy).1 e
  refine srt_eq hn (cls_up (rg_up n)) fun x => ?_
  rw [mem_cls, List.mem_map]
  constructor
  · rintro ⟨y, hy, rfl⟩
    obtain ⟨h1, h2⟩ := mem_cls.mp hy
    exact ⟨sg_rg ho h1, (Ld.ren ho (mem_tmm ho hT) ht h1).mpr h2⟩
  · rintro ⟨h1, h2⟩
    obtain ⟨y, hy, rfl⟩ := sg_surj ho h1
    exact ⟨y, mem_cls.mpr ⟨hy, (Ld.ren ho (mem_tmm ho hT) ht hy).mp h2⟩, rfl⟩
theorem ren_parts (ho : o.Perm (rg n)) (hT : TieOk n T) : ((prt T (rg n)).map fun p => srt (p.map (sg o))).mergeSort leR = prt (T.map (tmm o)) (rg n) := by
  refine rows_sorted (rg_up n) ((List.perm_ext_iff_of_nodup (nodup_map (prt_nodup (rg_up n)) fun x hx y hy e => ?_) (prt_nodup (rg_up n))).mpr fun x => ?_)
  · obtain ⟨t, ht, rfl⟩ := (mem_prt (rg_up n)).mp hx
    obtain ⟨u, hu, rfl⟩ := (mem_prt (rg_up n)).mp hy
    rw [ren_cls ho hT ht, ren_cls ho hT hu] at e
    exact cls_eq ht ((Ld.ren ho (mem_tmm ho hT) ht hu).mp (ld_cls (sg_rg ho ht) (sg_rg ho hu) e))
  · rw [List.mem_map, mem_prt (rg_up n)]
    constructor
    · rintro ⟨y, hy, rfl⟩
      obtain ⟨t, ht, rfl⟩ := (mem_prt (rg_up n)).mp hy
      exact ⟨sg o t, sg_rg ho ht, ren_cls ho hT ht⟩
    · rintro ⟨u, hu, rfl⟩
      obtain ⟨t, ht, rfl⟩ := sg_surj ho hu
      exact ⟨cls T (rg n) t, (mem_prt (rg_up n)).mpr ⟨t, ht, rfl⟩, ren_cls ho hT ht⟩
end
end Mb

set_option Elab.async false
set_option linter.all false
set_option maxRecDepth 100000
set_option maxHeartbeats 1000000
/-! Mb8: texts of plans. -/
namespace Mb
open Tp PySem
open L2 (atI)
theorem join_ok {x y : Str} {a b : Nat} (hx : x.length ≤ a) (hy : y.length ≤ b) (h : a + b ≤ 16000000) : ∃ z, joinO x y = some z ∧ z.length ≤ a + b := by
  have e : (x ++ y).length = x.length + y.length := Str.length_append x y
  have e2 : sizeLine = 16777216 := rfl
  refine ⟨x ++ y, if_pos (by omega), by omega⟩
theorem strText_ok {x : Str} {a : Nat} (hx : x.length ≤ a) (h : a ≤ 16000000) : strText x = some x := if_pos (by have e2 : sizeLine = 16777216 := rfl; omega)
theorem intText_ok {i : Int} (h0 : -1000 ≤ i) (h : i ≤ 1000) : ∃ z, intText i = some z ∧ z.length ≤ 2000 := by
  have h1 : i.natAbs.log2 < 1920 := by
    by_cases h0 : i.natAbs = 0
    · rw [h0]; decide
    · exact (Nat.log2_lt h0).mpr (Nat.lt_of_lt_of_le (show i.natAbs < 2 ^ 10 by omega) (Nat.pow_le_pow_right (by decide) (by decide)))
  refine ⟨_, if_pos h1, ?_⟩
  have := PyProof.Rows.int_text_len_1921 h1
  exact Nat.le_trans this (by decide)
theorem shows_le {t : TY} {x : t.A} {d w : Nat} (h : Tm d w (t.enc x)) : (shows (t.enc x)).length ≤ 2002 * w + 2000 := by
  have := PyData.shown_le 2000 (by decide) _ h.l
  have hw' := Nat.mul_le_mul_left 2002 h.w
  unfold shows
  omega
theorem Tm.ints {n : Int} {xs : List Int} (h6 : n ≤ 6) (hu : xs.Nodup) (hx : ∀ x ∈ xs, x ∈ rg n) : Tm 1 72 ((TY.list TY.int).enc xs) := by
  have hl : xs.length ≤ 6 := by
    have := hu.length_le_of_subset hx
    rw [rg_len] at this; omega
  refine Tm.list (n := 6) (w := 11) (d := 0) (fun x hx' => ?_) hl
  have := mem_rg.mp (hx x hx')
  exact Tm.small (by omega) (by omega)
theorem Tm.pair {n : Int} {q : P2} (h6 : n ≤ 6) (h : (0 ≤ q.1 ∧ q.1 < n) ∧ 0 ≤ q.2 ∧ q.2 < n) : Tm 1 24 ((TY.tup2 TY.int TY.int).enc q) := by
  refine Tm.tup (n := 2) (w := 11) (d := 0) (fun x hx => ?_) (by simp)
  simp only [List.mem_cons, List.not_mem_nil, or_false] at hx
  rcases hx with rfl | rfl
  · exact Tm.small (by omega) (by omega)
  · exact Tm.small (by omega) (by omega)
theorem Tm.arrows {n : Int} {A : List P2} (h6 : n ≤ 6) (hn : A.Nodup) (h : ArrOk n A) : Tm 2 900 ((TY.list (TY.tup2 TY.int TY.int)).enc A) := by
  refine Tm.list (t := TY.tup2 TY.int TY.int) (n := 36) (w := 24) (d := 1) (fun q hq => Tm.pair h6 ⟨(h q hq).1, (h q hq).2.1⟩) (h.len hn h6)
theorem repr_arrows {n : Int} {A : List P2} (h6 : n ≤ 6) (hn : A.Nodup) (h : ArrOk n A) : ∃ s, reprO (TY.list (TY.tup2 TY.int TY.int)) A = some s ∧ s.length ≤ 1803800 := by
  refine ⟨_, reprO_ok (Tm.arrows h6 hn h) (by decide) (by decide) rfl, ?_⟩
  have := shows_le (t := TY.list (TY.tup2 TY.int TY.int)) (Tm.arrows h6 hn h)
  omega
theorem repr_ints {n : Int} {xs : List Int} (h6 : n ≤ 6) (hu : xs.Nodup) (hx : ∀ x ∈ xs, x ∈ rg n) : ∃ s, reprO (TY.list TY.int) xs = some s := ⟨_, reprO_ok (Tm.ints h6 hu hx) (by decide) (by decide) rfl⟩
end Mb

set_option Elab.async false
set_option linter.all false
set_option maxRecDepth 100000
set_option maxHeartbeats 1000000
/-! Mb9: comprehensions that draw; places. -/
namespace Mb
open Tp PySem
open L2 (atI)
theorem rowAt_ok {A : Type} {rows : List (List A)} {i : Nat} {r : List A} (h : rows[i]? = some r) : rowAt rows (i : Int) = some r := by
  unfold rowAt
  rw [if_pos (by omega)]
  simpa using h
theorem atI_some {A : Type} {xs : List A} {i : Nat} {r : A} (h : xs[i]? = some r) : atI xs (i : Int) = some r := by
  have hl := (List.getElem?_eq_some_iff.mp h).1
  rw [atI_ok (by omega) (by omega)]
  simp only [Int.toNat_natCast]
  rw [(List.getElem?_eq_some_iff.mp h).2]
theorem compM_memP {X B : Type} {f : X → PM (Option B)} {g : X → Option B} : ∀ xs : List X, (∀ x ∈ xs, f x = pure (g x)) → compM f xs = (pure (xs.filterMap g) : PM (List B))
  | [], _ => rfl
  | x :: xs, h => by
    show (f x >>= fun y => compM f xs >>= fun r => _) = _
    rw [h x (by simp), PM.pure_bind, compM_memP xs fun y hy => h y (by simp [hy]), PM.pure_bind, List.filterMap_cons]
    cases g x <;> rfl
theorem comp_memP {X B : Type} {c : X → PM Bool} {e : X → PM B} {p : X → Bool} {g : X → B} (xs : List X) (hc : ∀ x ∈ xs, c x = pure (p x)) (he : ∀ x ∈ xs, p x = true → e x = pure (g x)) : compM (compF c e) xs = (pure ((xs.filter p).map g) : PM (List B)) := by
  rw [compM_memP (g := fun x => if p x = true then some (g x) else none) xs fun x hx => ?_]
  · congr 1
    induction xs with
    | nil => rfl
    | cons a r ih =>
      rw [List.filterMap_cons, List.filter_cons]
      have := ih (fun x hx => hc x (by simp [hx])) fun x hx => he x (by simp [hx])
      cases p a <;> simp [this]
  · unfold compF
    rw [hc x hx, PM.pure_bind]
    cases e1 : p x with
    | true => rw [if_pos rfl, he x hx e1, PM.pure_bind]; rfl
    | false => rw [if_neg Bool.false_ne_true]; rfl
theorem rg_get {n : Int} {i : Int} (h : i ∈ rg n) : (rg n)[i.toNat]? = some i := by
  have h' := mem_rg.mp h
  unfold rg
  rw [List.getElem?_map, List.getElem?_range (by omega)]
  simp; omega
theorem atI_rg {B : Type} {n i : Int} (f : Int → B) (h : i ∈ rg n) : atI ((rg n).map f) i = some (f i) := by
  have h' := mem_rg.mp h
  have := atI_some (xs := (rg n).map f) (i := i.toNat) (r := f i) (by rw [List.getElem?_map, rg_get h]; rfl)
  rwa [Int.toNat_of_nonneg h'.1] at this
theorem R.opt_ok {A : Type} (a : A) : R.opt (.ok a) = some a := rfl
theorem filter_all {X : Type} (xs : List X) : List.filter (fun _ => true) xs = xs := List.filter_eq_self.mpr fun _ _ => rfl
theorem comp_allP {X B : Type} {e : X → PM B} {g : X → B} (xs : List X) (he : ∀ x ∈ xs, e x = pure (g x)) : compM (compF (fun _ => pure true) e) xs = (pure (xs.map g) : PM (List B)) := by
  rw [comp_memP (p := fun _ => true) (g := g) xs (fun _ _ => rfl) fun x hx _ => he x hx, filter_all]
theorem comp_all {X B : Type} {e : X → R B} {g : X → B} (xs : List X) (he : ∀ x ∈ xs, e x = .ok (g x)) : compM (compF (fun _ => .ok true) e) xs = .ok (xs.map g) := by
  rw [comp_mem (p := fun _ => true) (g := g) xs (fun _ _ => rfl) fun x hx _ => he x hx, filter_all]
end Mb

set_option Elab.async false
set_option linter.all false
set_option maxRecDepth 100000
set_option maxHeartbeats 1000000
/-! Mb10: barred lots, greatest lots. -/
namespace Mb
open Tp PySem
open L2 (atI)
section
variable {A T : List P2} {L M : List Int} {n t x : Int}
/-- a lot that a thing heads, all hanging together -/
structure Good (A T : List P2) (n t : Int) (L : List Int) : Prop where
  m : ∀ x ∈ L, x ∈ rg n
  tm : t ∈ L
  a : ∀ x ∈ L, Ld A L t x
  h : ∀ x ∈ L, Ld (both T) L t x
/-- a barred lot -/
structure Bar (A T : List P2) (n : Int) (L : List Int) : Prop where
  up : Up L
  m : ∀ x ∈ L, x ∈ rg n
  two : 1 < L.length
  g : ∃ t, Good A T n t L
def Plain (A T : List P2) (n : Int) : Prop := ∀ L, ¬ Bar A T n L
open Classical in
noncomputable def gr (A T : List P2) (n t : Int) : List Int := (rg n).filter fun x => decide (∃ L, Good A T n t L ∧ x ∈ L)
open Classical in
theorem mem_gr : x ∈ gr A T n t ↔ ∃ L, Good A T n t L ∧ x ∈ L := by
  unfold gr
  rw [List.mem_filter, decide_eq_true_eq]
  exact ⟨fun h => h.2, fun h => ⟨let ⟨L, g, hx⟩ := h; g.m x hx, h⟩⟩
theorem gr_up : Up (gr A T n t) := List.Pairwise.filter _ (rg_up n)
theorem good_one (h : t ∈ rg n) : Good A T n t [t] := ⟨fun x hx => by simp at hx; subst hx; exact h, by simp, fun x hx => by simp at hx; subst hx; exact .here, fun x hx => by simp at hx; subst hx; exact .here⟩
theorem gr_good (h : t ∈ rg n) : Good A T n t (gr A T n t) := by
  have sub : ∀ L, Good A T n t L → ∀ x ∈ L, x ∈ gr A T n t := fun L g x hx => mem_gr.mpr ⟨L, g, hx⟩
  refine ⟨fun x hx => (List.mem_filter.mp hx).1, sub _ (good_one h) t (by simp), fun x hx => ?_, fun x hx => ?_⟩
  · obtain ⟨L, g, hl⟩ := mem_gr.mp hx
    exact (g.a x hl).mono (fun _ h => h) (sub L g)
  · obtain ⟨L, g, hl⟩ := mem_gr.mp hx
    exact (g.h x hl).mono (fun _ h => h) (sub L g)
theorem gr_max (g : Good A T n t L) : ∀ x ∈ L, x ∈ gr A T n t := fun x hx => mem_gr.mpr ⟨L, g, hx⟩
theorem gr_eq (hu : Up L) (g : Good A T n t L) (hm : ∀ M, Good A T n t M → ∀ x ∈ M, x ∈ L) : L = gr A T n t := up_ext hu gr_up fun x => ⟨gr_max g x, fun hx => by
  obtain ⟨M, gM, h⟩ := mem_gr.mp hx
  exact hm M gM x h⟩
theorem gr_bar (h : t ∈ rg n) (h2 : 1 < (gr A T n t).length) : Bar A T n (gr A T n t) := ⟨gr_up, (gr_good h).m, h2, t, gr_good h⟩
theorem up_len_sub (hu : Up L) (hs : ∀ x ∈ L, x ∈ M) (hM : M.Nodup) : L.length ≤ M.length := hu.nodup.length_le_of_subset hs
theorem plain_iff : Plain A T n ↔ ∀ t ∈ rg n, (gr A T n t).length = 1 := by
  constructor
  · intro h t ht
    have h1 : 0 < (gr A T n t).length := List.length_pos_of_mem (gr_good ht).tm
    exact Classical.byContradiction fun q => h _ (gr_bar (A := A) (T := T) ht (by omega))
  · rintro h L ⟨hu, hm, h2, t, g⟩
    have := up_len_sub hu (gr_max g) (gr_up (A := A) (T := T)).nodup
    rw [h t (g.m t g.tm)] at this
    omega
/-- a barred lot has a tie and an arrow -/
theorem Bar.tie (b : Bar A T n L) : T ≠ [] := by
  intro e
  subst e
  obtain ⟨hu, hm, h2, t, g⟩ := b
  have key : ∀ x, Ld (both []) L t x → x = t := fun x q => by
    induction q with
    | here => rfl
    | step _ h _ _ => simp [both] at h
  match L, h2, hu, g with
  | a :: b :: r, _, hu, g =>
    have e1 := key a (g.h a (by simp))
    have e2 := key b (g.h b (by simp))
    have := (List.pairwise_cons.mp hu).1 b (by simp)
    omega
theorem Bar.arrow (b : Bar A T n L) : A ≠ [] := by
  intro e
  subst e
  obtain ⟨hu, hm, h2, t, g⟩ := b
  have key : ∀ x, Ld [] L t x → x = t := fun x q => by
    induction q with
    | here => rfl
    | step _ h _ _ => cases h
  match L, h2, hu, g with
  | a :: b :: r, _, hu, g =>
    have e1 := key a (g.a a (by simp))
    have e2 := key b (g.a b (by simp))
    have := (List.pairwise_cons.mp hu).1 b (by simp)
    omega
/-! ### the step of the search -/
open Classical in
noncomputable def ldl (A : List P2) (L : List Int) (t : Int) : List Int := L.filter fun x => decide (Ld A L t x)
open Classical in
theorem mem_ldl : x ∈ ldl A L t ↔ x ∈ L ∧ Ld A L t x := by
  unfold ldl; rw [List.mem_filter, decide_eq_true_eq]
theorem ldl_up (h : Up L) : Up (ldl A L t) := List.Pairwise.filter _ h
theorem ldl_self (h : t ∈ L) : t ∈ ldl A L t := mem_ldl.mpr ⟨h, .here⟩
noncomputable def stp (A T : List P2) (t : Int) (L : List Int) : List Int := cls T (ldl A L t) t
theorem stp_up (h : Up L) : Up (stp A T t L) := cls_up (ldl_up h)
theorem stp_sub : ∀ x ∈ stp A T t L, x ∈ L := fun x hx => (mem_ldl.mp (mem_cls.mp hx).1).1
theorem stp_self (h : t ∈ L) : t ∈ stp A T t L := cls_self (ldl_self h)
theorem stp_good (g : Good A T n t M) (h : ∀ x ∈ M, x ∈ L) : ∀ x ∈ M, x ∈ stp A T t L := by
  have h1 : ∀ x ∈ M, x ∈ ldl A L t := fun x hx => mem_ldl.mpr ⟨h x hx, (g.a x hx).mono (fun _ h => h) h⟩
  exact fun x hx => mem_cls.mpr ⟨h1 x hx, (g.h x hx).mono (fun _ h => h) h1⟩
theorem up_len_eq {a b : List Int} (ha : Up a) (hb : Up b) (hs : ∀ x ∈ a, x ∈ b) (hl : a.length = b.length) : a = b := by
  refine up_ext ha hb fun x => ⟨hs x, fun hx => Classical.byContradiction fun hn => ?_⟩
  have h1 : (x :: a).Nodup := List.nodup_cons.mpr ⟨hn, ha.nodup⟩
  have := h1.length_le_of_subset (l₂ := b) fun y hy => by
    rcases List.mem_cons.mp hy with rfl | hy
    · exact hx
    · exact hs y hy
  simp at this
  omega
theorem stp_fix (hm : ∀ x ∈ L, x ∈ rg n) (ht : t ∈ L) (h : stp A T t L = L) : Good A T n t L := by
  have h1 : ∀ x ∈ L, x ∈ ldl A L t := fun x hx => by rw [← h] at hx; exact (mem_cls.mp hx).1
  refine ⟨hm, ht, fun x hx => (mem_ldl.mp (h1 x hx)).2, fun x hx => ?_⟩
  have : x ∈ stp A T t L := by rw [h]; exact hx
  exact (mem_cls.mp this).2.mono (fun _ h => h) fun y hy => (mem_ldl.mp hy).1
/-- head and hanging, by the first of the lot -/
theorem bar_iff (hu : Up L) (hm : ∀ x ∈ L, x ∈ rg n) {a : Int} (ha : a ∈ L) : Bar A T n L ↔ 1 < L.length ∧ (∀ x ∈ L, Ld (both T) L a x) ∧ ∃ t ∈ L, ∀ x ∈ L, Ld A L t x := by
  constructor
  · rintro ⟨_, _, h2, t, g⟩
    refine ⟨h2, fun x hx => ?_, t, g.tm, g.a⟩
    exact (g.h x hx).trans ((g.h a ha).symm g.tm)
  · rintro ⟨h2, h, t, ht, h3⟩
    exact ⟨hu, hm, h2, t, hm, ht, h3, fun x hx => (h x hx).trans ((h t ht).symm ha)⟩
/-- all ties: plain just without arrows -/
theorem full_ties (hA : ArrOk n A) (hT : ∀ a b, 0 ≤ a → a < b → b < n → (a, b) ∈ T) : Plain A T n ↔ A = [] := by
  constructor
  · intro h
    refine Classical.byContradiction fun hne => ?_
    obtain ⟨q, hq⟩ := List.exists_mem_of_ne_nil A hne
    have ho := hA q hq
    have key : ∀ a b : Int, 0 ≤ a → a < b → b < n → ((a, b) ∈ A ∨ (b, a) ∈ A) → False := fun a b h0 hab hb hq => by
      have hm : ∀ x ∈ [a, b], x ∈ rg n := fun x hx => by
        simp at hx
        rcases hx with rfl | rfl
        · exact mem_rg.mpr ⟨by omega, by omega⟩
        · exact mem_rg.mpr ⟨by omega, by omega⟩
      have tie := hT a b h0 hab hb
      refine h [a, b] ⟨by simp [Up]; omega, hm, by simp, ?_⟩
      rcases hq with hq | hq
      · exact ⟨b, hm, by simp, fun x hx => by
          simp at hx
          rcases hx with rfl | rfl
          · exact .step .here hq (by simp)
          · exact .here, fun x hx => by
          simp at hx
          rcases hx with rfl | rfl
          · exact .step .here (mem_both.mpr (.inl tie)) (by simp)
          · exact .here⟩
      · exact ⟨a, hm, by simp, fun x hx => by
          simp at hx
          rcases hx with rfl | rfl
          · exact .here
          · exact .step .here hq (by simp), fun x hx => by
          simp at hx
          rcases hx with rfl | rfl
          · exact .here
          · exact .step .here (mem_both.mpr (.inr tie)) (by simp)⟩
    rcases Int.lt_trichotomy q.1 q.2 with h1 | h1 | h1
    · exact key q.1 q.2 ho.1.1 h1 ho.2.1.2 (.inl hq)
    · exact ho.2.2 h1
    · exact key q.2 q.1 ho.2.1.1 h1 ho.1.2 (.inr hq)
  · rintro rfl L b
    exact b.arrow rfl
theorem bar_congr {B U : List P2} (h1 : ∀ p, p ∈ A ↔ p ∈ B) (h2 : ∀ p, p ∈ T ↔ p ∈ U) : Bar A T n L ↔ Bar B U n L := by
  have key : ∀ {A B T U : List P2}, (∀ p, p ∈ A ↔ p ∈ B) → (∀ p, p ∈ T ↔ p ∈ U) → Bar A T n L → Bar B U n L := fun h1 h2 ⟨a, b, c, t, g⟩ => ⟨a, b, c, t, g.m, g.tm, fun x hx => (Ld.congr h1).mp (g.a x hx), fun x hx => (Ld.congr (both_congr h2)).mp (g.h x hx)⟩
  exact ⟨key h1 h2, key (fun p => (h1 p).symm) fun p => (h2 p).symm⟩
theorem plain_congr {B U : List P2} (h1 : ∀ p, p ∈ A ↔ p ∈ B) (h2 : ∀ p, p ∈ T ↔ p ∈ U) : Plain A T n ↔ Plain B U n := ⟨fun h L b => h L ((bar_congr h1 h2).mpr b), fun h L b => h L ((bar_congr h1 h2).mp b)⟩
end
end Mb

set_option Elab.async false
set_option linter.all false
set_option maxRecDepth 100000
set_option maxHeartbeats 1000000
/-! Mb11: reaching, one thing behind another; all lots. -/
namespace Mb
open Tp PySem
open L2 (atI)
section
variable {A T : List P2} {L : List Int} {n t x : Int}
/-- found so far; what leads to the first k of them is among them -/
structure BfI (A : List P2) (L : List Int) (t : Int) (f : List Int) (k : Nat) : Prop where
  nd : f.Nodup
  tm : t ∈ f
  ld : ∀ x ∈ f, Ld A L t x
  m : ∀ x ∈ f, x ∈ L
  cl : ∀ i, i < k → ∀ y, f[i]? = some y → ∀ x, (x, y) ∈ A → x ∈ L → x ∈ f
  le : k ≤ f.length
theorem BfI.start (h : t ∈ L) : BfI A L t [t] 0 := ⟨by simp, by simp, fun x hx => by simp at hx; subst hx; exact .here, fun x hx => by simp at hx; subst hx; exact h, fun i h => absurd h (by omega), by simp⟩
theorem BfI.len {f : List Int} {k : Nat} (h : BfI A L t f k) : f.length ≤ L.length := h.nd.length_le_of_subset h.m
theorem BfI.step {f g : List Int} {k : Nat} {y : Int} (h : BfI A L t f k) (hk : f[k]? = some y) (hp : ∃ e, g = f ++ e) (nd : g.Nodup) (ld : ∀ x ∈ g, Ld A L t x) (m : ∀ x ∈ g, x ∈ L) (cl : ∀ x, (x, y) ∈ A → x ∈ L → x ∈ g) : BfI A L t g (k + 1) := by
  obtain ⟨e, rfl⟩ := hp
  have hl := (List.getElem?_eq_some_iff.mp hk).1
  refine ⟨nd, by simp [h.tm], ld, m, fun i hi z hz x hq hx => ?_, by simp; omega⟩
  by_cases e : i = k
  · subst e
    rw [List.getElem?_append_left hl, hk] at hz
    cases hz
    exact cl x hq hx
  · rw [List.getElem?_append_left (by omega)] at hz
    exact List.mem_append_left _ (h.cl i (by omega) z hz x hq hx)
theorem BfI.stop {f : List Int} {k : Nat} (h : BfI A L t f k) (hk : f.length ≤ k) : x ∈ f ↔ Ld A L t x := by
  refine ⟨h.ld x, fun q => ?_⟩
  induction q with
  | here => exact h.tm
  | step a b c ih =>
    obtain ⟨i, hi, e⟩ := List.mem_iff_getElem.mp ih
    exact h.cl i (by omega) _ (by rw [List.getElem?_eq_getElem hi, e]) _ b c
theorem BfI.fin {f : List Int} {k : Nat} (hL : Up L) (h : BfI A L t f k) (hk : f.length ≤ k) : srt f = ldl A L t := srt_eq h.nd (ldl_up hL) fun x => by
  rw [h.stop hk, mem_ldl]
  exact ⟨fun q => ⟨h.m x ((h.stop hk).mpr q), q⟩, fun q => q.2⟩
/-- the new ones that lead to y -/
def news (A : List P2) (L f : List Int) (y : Int) : List Int := (A.filter fun q => decide (q.2 = y) && (decide (q.1 ∈ L) && !decide (q.1 ∈ f))).map (·.1)
theorem mem_news {f : List Int} {y : Int} : x ∈ news A L f y ↔ (x, y) ∈ A ∧ x ∈ L ∧ x ∉ f := by
  unfold news
  simp only [List.mem_map, List.mem_filter, Bool.and_eq_true, decide_eq_true_eq, Bool.not_eq_true', decide_eq_false_iff_not]
  constructor
  · rintro ⟨⟨a, b⟩, ⟨h1, h2, h3, h4⟩, rfl⟩
    dsimp only at h2 h3 h4
    subst h2
    exact ⟨h1, h3, h4⟩
  · rintro ⟨h1, h2, h3⟩
    exact ⟨(x, y), ⟨h1, rfl, h2, h3⟩, rfl⟩
theorem BfI.news {f : List Int} {k : Nat} {y : Int} (hA : A.Nodup) (h : BfI A L t f k) (hk : f[k]? = some y) : BfI A L t (f ++ news A L f y) (k + 1) := by
  have hy : y ∈ f := List.mem_of_getElem? hk
  refine h.step hk ⟨_, rfl⟩ (List.nodup_append.mpr ⟨h.nd, nodup_map (hA.filter _) fun a ha b hb e => ?_, fun a ha b hb e => ?_⟩) (fun x hx => ?_) (fun x hx => ?_) fun x hq hx => ?_
  · have h1 := (List.mem_filter.mp ha).2
    have h2 := (List.mem_filter.mp hb).2
    simp only [Bool.and_eq_true, decide_eq_true_eq] at h1 h2
    exact Prod.ext e (h1.1.trans h2.1.symm)
  · subst e
    exact (mem_news.mp hb).2.2 ha
  · rcases List.mem_append.mp hx with hx | hx
    · exact h.ld x hx
    · obtain ⟨h1, h2, _⟩ := mem_news.mp hx
      exact .step (h.ld y hy) h1 h2
  · rcases List.mem_append.mp hx with hx | hx
    · exact h.m x hx
    · exact (mem_news.mp hx).2.1
  · by_cases hf : x ∈ f
    · simp [hf]
    · exact List.mem_append_right _ (mem_news.mpr ⟨hq, hx, hf⟩)
/-- along the ties, one behind another -/
structure HgI (T : List P2) (L : List Int) (t : Int) (f : List Int) (y : Int) (p : List P2) (g : List Int) : Prop where
  pre : ∃ e, g = f ++ e
  nd : g.Nodup
  ld : ∀ x ∈ g, Ld (both T) L t x
  m : ∀ x ∈ g, x ∈ L
  c1 : ∀ q ∈ p, q.1 = y → q.2 ∈ L → q.2 ∈ g
  c2 : ∀ q ∈ p, q.2 = y → q.1 ∈ L → q.1 ∈ g
theorem HgI.start {f : List Int} {k : Nat} {y : Int} (h : BfI (both T) L t f k) : HgI T L t f y [] f := ⟨⟨[], by simp⟩, h.nd, h.ld, h.m, fun _ h => (nomatch h), fun _ h => (nomatch h)⟩
def put1 (L g : List Int) (b : Bool) (x : Int) : List Int := if b = true ∧ x ∈ L ∧ x ∉ g then g ++ [x] else g
theorem put1_sub {g : List Int} {b : Bool} : ∀ z ∈ g, z ∈ put1 L g b x := fun z hz => by unfold put1; split <;> simp [hz]
theorem HgI.put {f p g : _} {y : Int} {b : Bool} (h : HgI T L t f y p g) (hy : y ∈ f) (hx : b = true → (x, y) ∈ both T) : HgI T L t f y p (put1 L g b x) ∧ (b = true → x ∈ L → x ∈ put1 L g b x) := by
  refine ⟨?_, fun hb hl => ?_⟩
  · unfold put1
    split
    · rename_i c
      obtain ⟨e, he⟩ := h.pre
      have hyg : y ∈ g := by rw [he]; simp [hy]
      refine ⟨⟨e ++ [x], by rw [he]; simp⟩, List.nodup_append.mpr ⟨h.nd, by simp, fun a ha b hb e => by simp at hb; subst hb; subst e; exact c.2.2 ha⟩, fun z hz => ?_, fun z hz => ?_, fun q hq a b => by simp [h.c1 q hq a b], fun q hq a b => by simp [h.c2 q hq a b]⟩
      · rcases List.mem_append.mp hz with hz | hz
        · exact h.ld z hz
        · simp at hz; subst hz
          exact .step (h.ld y hyg) (hx c.1) c.2.1
      · rcases List.mem_append.mp hz with hz | hz
        · exact h.m z hz
        · simp at hz; subst hz; exact c.2.1
    · exact h
  · unfold put1
    by_cases hg : x ∈ g
    · rw [if_neg (fun c => c.2.2 hg)]; exact hg
    · rw [if_pos ⟨hb, hl, hg⟩]; simp
theorem HgI.step {f p g : _} {y : Int} {q : P2} (h : HgI T L t f y p g) (hy : y ∈ f) (hq : q ∈ T) : HgI T L t f y (p ++ [q]) (put1 L (put1 L g (decide (q.1 = y)) q.2) (decide (q.2 = y)) q.1) := by
  obtain ⟨h1, k1⟩ := h.put (b := decide (q.1 = y)) (x := q.2) hy fun e => by
    have e := of_decide_eq_true e
    rw [← e]; exact mem_both.mpr (.inr hq)
  obtain ⟨h2, k2⟩ := h1.put (b := decide (q.2 = y)) (x := q.1) hy fun e => by
    have e := of_decide_eq_true e
    rw [← e]; exact mem_both.mpr (.inl hq)
  refine ⟨h2.pre, h2.nd, h2.ld, h2.m, fun r hr a b => ?_, fun r hr a b => ?_⟩
  · rcases List.mem_append.mp hr with hr | hr
    · exact h2.c1 r hr a b
    · simp at hr; subst hr
      exact put1_sub _ (k1 (decide_eq_true a) b)
  · rcases List.mem_append.mp hr with hr | hr
    · exact h2.c2 r hr a b
    · simp at hr; subst hr
      exact k2 (decide_eq_true a) b
theorem HgI.stop {f g : List Int} {k : Nat} {y : Int} (h : HgI T L t f y T g) (b : BfI (both T) L t f k) (hk : f[k]? = some y) : BfI (both T) L t g (k + 1) := by
  refine b.step hk h.pre h.nd h.ld h.m fun x hq hx => ?_
  rcases mem_both.mp hq with hq | hq
  · exact h.c2 _ hq rfl hx
  · exact h.c1 _ hq rfl hx
/-! ### all lots -/
def lots : Nat → List (List Int)
  | 0 => [[]]
  | k + 1 => lots k ++ (lots k).map (· ++ [(k : Int)])
theorem mem_lots : ∀ {k : Nat} {l : List Int}, l ∈ lots k ↔ Up l ∧ ∀ x ∈ l, 0 ≤ x ∧ x < k
  | 0, l => by
    unfold lots
    rw [List.mem_singleton]
    constructor
    · rintro rfl; exact ⟨by simp [Up], by simp⟩
    · rintro ⟨_, h⟩
      cases l with
      | nil => rfl
      | cons a r => have := h a (by simp); omega
  | k + 1, l => by
    unfold lots
    rw [List.mem_append, List.mem_map]
    constructor
    · rintro (h | ⟨m, h, rfl⟩)
      · obtain ⟨h1, h2⟩ := mem_lots.mp h
        exact ⟨h1, fun x hx => by have := h2 x hx; omega⟩
      · obtain ⟨h1, h2⟩ := mem_lots.mp h
        refine ⟨?_, fun x hx => ?_⟩
        · unfold Up
          rw [List.pairwise_append]
          exact ⟨h1, by simp, fun a ha b hb => by simp at hb; subst hb; have := h2 a ha; omega⟩
        · rcases List.mem_append.mp hx with hx | hx
          · have := h2 x hx; omega
          · simp at hx; omega
    · rintro ⟨hu, hm⟩
      by_cases hk : (k : Int) ∈ l
      · right
        have hne : l ≠ [] := by rintro rfl; simp at hk
        have e := List.dropLast_concat_getLast hne
        have hu' := hu
        rw [← e, Up, List.pairwise_append] at hu'
        have hlast : l.getLast hne = (k : Int) := by
          have h1 := hm _ (List.getLast_mem hne)
          rw [← e] at hk
          rcases List.mem_append.mp hk with hk | hk
          · have := hu'.2.2 _ hk (l.getLast hne) (by simp)
            omega
          · simp at hk; exact hk.symm
        refine ⟨l.dropLast, mem_lots.mpr ⟨hu'.1, fun x hx => ?_⟩, by rw [← hlast]; exact e⟩
        have h1 := hm x (List.dropLast_subset _ hx)
        have h2 := hu'.2.2 x hx (l.getLast hne) (by simp)
        rw [hlast] at h2
        omega
      · left
        refine mem_lots.mpr ⟨hu, fun x hx => ?_⟩
        have h1 := hm x hx
        have h2 : x ≠ k := fun e => hk (e ▸ hx)
        omega
theorem lots_len : ∀ k : Nat, (lots k).length = 2 ^ k
  | 0 => rfl
  | k + 1 => by unfold lots; rw [List.length_append, List.length_map, lots_len k, Nat.pow_succ]; omega
theorem mem_lots_rg {l : List Int} (h0 : 0 ≤ n) : l ∈ lots n.toNat ↔ Up l ∧ ∀ x ∈ l, x ∈ rg n := by
  rw [mem_lots]
  refine and_congr_right fun _ => forall_congr' fun x => imp_congr_right fun _ => ?_
  rw [mem_rg]; omega
end
end Mb

set_option Elab.async false
set_option linter.all false
set_option maxRecDepth 100000
set_option maxHeartbeats 1000000
/-! Mb12: loops that may return; all ties. -/
namespace Mb
open Tp PySem
open L2 (atI)
theorem Ok.loopFr {X A B : Type} {f : X → A → R (FL A B)} (I : List X → A → Prop) (Q : B → Prop) : ∀ {xs : List X} {a : A} (p : List X), I p a → (∀ p' x a, (∃ r, p ++ xs = p' ++ x :: r) → I p' a → Ok (f x a) fun o => match o with | .nx b => I (p' ++ [x]) b | .rt v => Q v) → Ok (Tp.loopF f xs a) fun o => match o with | .nx b => I (p ++ xs) b | .rt v => Q v
  | [], a, p, h, _ => ⟨.nx a, rfl, by simpa using h⟩
  | x :: xs, a, p, h, k => by
    show Ok (f x a >>= fun o => _) _
    refine Ok.bind (k p x a ⟨xs, rfl⟩ h) fun o ho => ?_
    cases o with
    | rt v => exact ⟨.rt v, rfl, ho⟩
    | nx b =>
      have := Ok.loopFr I Q (xs := xs) (a := b) (p ++ [x]) ho fun p' y c hp => k p' y c (by simpa using hp)
      simpa using this
/-- all ties of n things -/
def TiesAll (n : Int) (p : List Int) (T : List P2) : Prop := T.Nodup ∧ ∀ q : P2, q ∈ T ↔ q.1 ∈ p ∧ q.1 < q.2 ∧ q.2 < n
theorem TiesAll.step {n x : Int} {p : List Int} {T : List P2} (h : TiesAll n p T) (hx : x ∉ p) : TiesAll n (p ++ [x]) (T ++ (Tp.upTo (x + 1) (n - (x + 1)).toNat).map fun y => (x, y)) := by
  refine ⟨List.nodup_append.mpr ⟨h.1, nodup_map (upTo_nodup _ _) fun a _ b _ e => (Prod.mk.inj e).2, fun a ha b hb e => ?_⟩, fun q => ?_⟩
  · subst e
    obtain ⟨y, _, rfl⟩ := List.mem_map.mp hb
    exact hx ((h.2 _).mp ha).1
  · rw [List.mem_append, h.2, List.mem_map, List.mem_append, List.mem_singleton]
    constructor
    · rintro (⟨h1, h2⟩ | ⟨y, hy, rfl⟩)
      · exact ⟨.inl h1, h2⟩
      · have := mem_upTo.mp hy
        exact ⟨.inr rfl, by dsimp only; omega⟩
    · rintro ⟨h1 | h1, h2, h3⟩
      · exact .inl ⟨h1, h2, h3⟩
      · refine .inr ⟨q.2, mem_upTo.mpr (by omega), by rw [← h1]⟩
theorem TiesAll.tie {n : Int} {T : List P2} (h : TiesAll n (rg n) T) : TieOk n T := fun q hq => by
  have := (h.2 q).mp hq
  have := mem_rg.mp this.1
  omega
theorem repr_bools2 (b c : Bool) : ∃ s, reprO (TY.list TY.bool) [b, c] = some s :=
  ⟨_, reprO_ok (Tm.list (t := TY.bool) (n := 2) (w := 11) (d := 0) (xs := [b, c]) (fun x hx => Tm.bl) (by simp)) (by decide) (by decide) rfl⟩
end Mb

set_option Elab.async false
set_option linter.all false
set_option maxRecDepth 100000
set_option maxHeartbeats 1000000
/-! Mb13: heads are alone; lots with one head put together. -/
namespace Mb
open Tp PySem
open L2 (atI)
section
variable {A T : List P2} {L M : List Int} {n t x : Int}
theorem Ld.rank {rank : Int → Nat} (hr : ∀ q ∈ A, rank q.1 < rank q.2) (h : Ld A L t x) : x = t ∨ rank x < rank t := by
  induction h with
  | here => exact .inl rfl
  | step a b c ih =>
    have := hr _ b
    dsimp only at this
    rcases ih with rfl | ih
    · exact .inr this
    · exact .inr (by omega)
theorem head_one (hA : Acy A) {h : Int} (h1 : t ∈ L) (h2 : ∀ x ∈ L, Ld A L t x) (k1 : h ∈ L) (k2 : ∀ x ∈ L, Ld A L h x) : h = t := by
  obtain ⟨rank, hr⟩ := hA
  rcases Ld.rank hr (h2 h k1) with e | e
  · exact e
  · rcases Ld.rank hr (k2 t h1) with e2 | e2
    · exact e2.symm
    · omega
theorem filter_one {p : Int → Bool} : ∀ {L : List Int}, L.Nodup → ((L.filter p = [t]) ↔ t ∈ L ∧ p t = true ∧ ∀ x ∈ L, p x = true → x = t)
  | [], _ => by simp
  | a :: r, hn => by
    obtain ⟨h1, h2⟩ := List.nodup_cons.mp hn
    have ih := filter_one (p := p) (L := r) h2
    cases e : p a with
    | true =>
      rw [List.filter_cons_of_pos e]
      constructor
      · intro h
        obtain ⟨rfl, h0⟩ := List.cons.inj h
        refine ⟨by simp, e, fun x hx px => ?_⟩
        rcases List.mem_cons.mp hx with rfl | hx
        · rfl
        · exact absurd px (List.filter_eq_nil_iff.mp h0 x hx)
      · rintro ⟨h3, h4, h5⟩
        have := h5 a (by simp) e
        subst this
        rw [List.filter_eq_nil_iff.mpr fun x hx px => h1 (by have := h5 x (by simp [hx]) px; rw [← this]; exact hx)]
    | false =>
      rw [List.filter_cons_of_neg (by simp [e]), ih]
      constructor
      · rintro ⟨h3, h4, h5⟩
        exact ⟨by simp [h3], h4, fun x hx px => by
          rcases List.mem_cons.mp hx with rfl | hx
          · rw [e] at px; cases px
          · exact h5 x hx px⟩
      · rintro ⟨h3, h4, h5⟩
        refine ⟨?_, h4, fun x hx px => h5 x (by simp [hx]) px⟩
        rcases List.mem_cons.mp h3 with rfl | h3
        · rw [e] at h4; cases h4
        · exact h3
theorem heads_one (hA : Acy A) (hL : Up L) : (L.filter fun h => decide (ldl A L h = L)) = [t] ↔ t ∈ L ∧ ∀ x ∈ L, Ld A L t x := by
  have c : ∀ h, ldl A L h = L ↔ ∀ x ∈ L, Ld A L h x := fun h => by
    unfold ldl; rw [List.filter_eq_self]; simp only [decide_eq_true_eq]
  rw [filter_one hL.nodup]
  simp only [decide_eq_true_eq, c]
  exact ⟨fun h => ⟨h.1, h.2.1⟩, fun h => ⟨h.1, h.2, fun x hx px => head_one hA h.1 h.2 hx px⟩⟩
theorem good_iff (hm : ∀ x ∈ L, x ∈ rg n) {a : Int} (ha : a ∈ L) : Good A T n t L ↔ (t ∈ L ∧ ∀ x ∈ L, Ld A L t x) ∧ ∀ x ∈ L, Ld (both T) L a x := by
  constructor
  · exact fun g => ⟨⟨g.tm, g.a⟩, fun x hx => (g.h x hx).trans ((g.h a ha).symm g.tm)⟩
  · rintro ⟨⟨h1, h2⟩, h3⟩
    exact ⟨hm, h1, h2, fun x hx => (h3 x hx).trans ((h3 t h1).symm ha)⟩
theorem good_both (g : Good A T n t L) (k : Good A T n t M) (hl : L.Nodup) (hm : M.Nodup) : Up (srt (L ++ M.filter fun x => !decide (x ∈ L))) ∧ Good A T n t (srt (L ++ M.filter fun x => !decide (x ∈ L))) := by
  have hn : (L ++ M.filter fun x => !decide (x ∈ L)).Nodup := List.nodup_append.mpr ⟨hl, hm.filter _, fun a ha b hb e => by
    subst e
    have := (List.mem_filter.mp hb).2
    simp [ha] at this⟩
  have mem : ∀ x, x ∈ srt (L ++ M.filter fun x => !decide (x ∈ L)) ↔ x ∈ L ∨ x ∈ M := fun x => by
    rw [mem_srt, List.mem_append, List.mem_filter]
    by_cases h : x ∈ L <;> simp [h]
  have sL : ∀ x ∈ L, x ∈ srt (L ++ M.filter fun x => !decide (x ∈ L)) := fun x hx => (mem x).mpr (.inl hx)
  have sM : ∀ x ∈ M, x ∈ srt (L ++ M.filter fun x => !decide (x ∈ L)) := fun x hx => (mem x).mpr (.inr hx)
  refine ⟨srt_up hn, fun x hx => ?_, sL t g.tm, fun x hx => ?_, fun x hx => ?_⟩
  · exact ((mem x).mp hx).elim (g.m x) (k.m x)
  · exact ((mem x).mp hx).elim (fun h => (g.a x h).mono (fun _ h => h) sL) fun h => (k.a x h).mono (fun _ h => h) sM
  · exact ((mem x).mp hx).elim (fun h => (g.h x h).mono (fun _ h => h) sL) fun h => (k.h x h).mono (fun _ h => h) sM
theorem good_congr {B U : List P2} (h1 : ∀ p, p ∈ A ↔ p ∈ B) (h2 : ∀ p, p ∈ T ↔ p ∈ U) : Good A T n t L ↔ Good B U n t L :=
  ⟨fun g => ⟨g.m, g.tm, fun x hx => (Ld.congr h1).mp (g.a x hx), fun x hx => (Ld.congr (both_congr h2)).mp (g.h x hx)⟩, fun g => ⟨g.m, g.tm, fun x hx => (Ld.congr h1).mpr (g.a x hx), fun x hx => (Ld.congr (both_congr h2)).mpr (g.h x hx)⟩⟩
theorem gr_congr {B U : List P2} (h1 : ∀ p, p ∈ A ↔ p ∈ B) (h2 : ∀ p, p ∈ T ↔ p ∈ U) : gr A T n t = gr B U n t := up_ext gr_up gr_up fun x => by
  rw [mem_gr, mem_gr]
  exact exists_congr fun L => and_congr_left fun _ => good_congr h1 h2
theorem Dr.comp_all {X B : Type} {e : X → PM B} {P : B → Prop} : ∀ (xs : List X), (∀ x ∈ xs, Dr (e x) P) → Dr (compM (compF (fun _ => pure true) e) xs) fun ys => (∀ y ∈ ys, P y) ∧ ys.length = xs.length
  | [], _ => Dr.ret ⟨by simp, rfl⟩
  | x :: xs, h => by
    show Dr (compF (fun _ => pure true) e x >>= fun y => compM _ xs >>= fun r => _) _
    refine Dr.bind (P := fun y => ∃ z, y = some z ∧ P z) ?_ fun y hy => ?_
    · show Dr ((pure true : PM Bool) >>= fun b => if b = true then e x >>= fun z => pure (some z) else pure none) _
      rw [PM.pure_bind, if_pos rfl]
      exact Dr.bind (h x (by simp)) fun z hz => Dr.ret ⟨z, rfl, hz⟩
    · obtain ⟨z, rfl, hz⟩ := hy
      refine Dr.bind (Dr.comp_all xs fun x hx => h x (by simp [hx])) fun ys hys => Dr.ret ⟨fun y hy => ?_, by simp [hys.2]⟩
      rcases List.mem_cons.mp hy with rfl | hy
      · exact hz
      · exact hys.1 y hy
end
end Mb

set_option Elab.async false
set_option linter.all false
set_option maxRecDepth 100000
set_option maxHeartbeats 1000000
/-! Mb14: more arrows and ties; parts; what a cut of ties leaves. -/
namespace Mb
open Tp PySem
open L2 (atI)
section
variable {A T B U : List P2} {L M : List Int} {n t x : Int}
theorem Good.mono (g : Good A T n t L) (h1 : ∀ p ∈ A, p ∈ B) (h2 : ∀ p ∈ T, p ∈ U) : Good B U n t L :=
  ⟨g.m, g.tm, fun x hx => (g.a x hx).mono h1 fun _ h => h, fun x hx => (g.h x hx).mono (fun p hp => by
    obtain ⟨a, b⟩ := p
    exact mem_both.mpr ((mem_both.mp hp).imp (h2 _) (h2 _))) fun _ h => h⟩
theorem Bar.mono (b : Bar A T n L) (h1 : ∀ p ∈ A, p ∈ B) (h2 : ∀ p ∈ T, p ∈ U) : Bar B U n L := let ⟨a, c, d, t, g⟩ := b; ⟨a, c, d, t, g.mono h1 h2⟩
theorem Plain.mono (b : Plain B U n) (h1 : ∀ p ∈ A, p ∈ B) (h2 : ∀ p ∈ T, p ∈ U) : Plain A T n := fun L q => b L (q.mono h1 h2)
theorem gr_mono (h1 : ∀ p ∈ A, p ∈ B) (h2 : ∀ p ∈ T, p ∈ U) : ∀ x ∈ gr A T n t, x ∈ gr B U n t := fun x hx => by
  obtain ⟨L, g, h⟩ := mem_gr.mp hx
  exact mem_gr.mpr ⟨L, g.mono h1 h2, h⟩
/-- an order that goes with the arrows shows a plan -/
theorem order_shows {o : List Int} (ho : o.Perm (rg n)) (hf : o.Pairwise fun a b => (b, a) ∉ A) (hA : ArrOk n A) : ∀ q ∈ A, ∃ i j, i < j ∧ j < o.length ∧ q = (th o i, th o j) := fun q hq => by
  have h := hA q hq
  have ha : q.1 ∈ o := ho.mem_iff.mpr (mem_rg.mpr h.1)
  have hb : q.2 ∈ o := ho.mem_iff.mpr (mem_rg.mpr h.2.1)
  have la := List.idxOf_lt_length_of_mem ha
  have lb := List.idxOf_lt_length_of_mem hb
  have ea : o[o.idxOf q.1] = q.1 := List.getElem_idxOf la
  have eb : o[o.idxOf q.2] = q.2 := List.getElem_idxOf lb
  refine ⟨o.idxOf q.1, o.idxOf q.2, ?_, lb, by rw [th_eq la, th_eq lb, ea, eb]⟩
  rcases Nat.lt_trichotomy (o.idxOf q.1) (o.idxOf q.2) with h1 | h1 | h1
  · exact h1
  · exact absurd (by rw [← ea, ← eb]; simp [h1]) h.2.2
  · have := List.pairwise_iff_getElem.mp hf _ _ lb la h1
    rw [ea, eb] at this
    exact absurd hq this
theorem filter_one' {X : Type} {p : X → Bool} {t : X} : ∀ {L : List X}, L.Nodup → t ∈ L → p t = true → (∀ x ∈ L, p x = true → x = t) → L.filter p = [t]
  | [], _, h, _, _ => by cases h
  | a :: r, hn, h3, h4, h5 => by
    obtain ⟨h1, h2⟩ := List.nodup_cons.mp hn
    cases e : p a with
    | true =>
      have ea := h5 a (by simp) e
      subst ea
      rw [List.filter_cons_of_pos e, List.filter_eq_nil_iff.mpr fun x hx px => h1 (by have := h5 x (by simp [hx]) px; rw [← this]; exact hx)]
    | false =>
      rw [List.filter_cons_of_neg (by simp [e])]
      refine filter_one' h2 ?_ h4 fun x hx px => h5 x (by simp [hx]) px
      rcases List.mem_cons.mp h3 with rfl | h3
      · rw [e] at h4; cases h4
      · exact h3
/-- a barred lot lies in just one part by ties -/
theorem bar_part (b : Bar A T n L) : ∃ p ∈ prt T (rg n), (∀ x ∈ L, x ∈ p) ∧ ∀ q ∈ prt T (rg n), (∀ x ∈ L, x ∈ q) → q = p := by
  obtain ⟨hu, hm, h2, t, g⟩ := b
  have ht := hm t g.tm
  refine ⟨cls T (rg n) t, (mem_prt (rg_up n)).mpr ⟨t, ht, rfl⟩, fun x hx => mem_cls.mpr ⟨hm x hx, (g.h x hx).mono (fun _ h => h) hm⟩, fun q hq hx => ?_⟩
  obtain ⟨u, hu', rfl⟩ := (mem_prt (rg_up n)).mp hq
  exact cls_eq hu' (mem_cls.mp (hx t g.tm)).2
/-- the first step -/
theorem Ld.first (h : Ld A L t x) : x = t ∨ ∃ z, (z, t) ∈ A := by
  induction h with
  | here => exact .inl rfl
  | step a b c ih =>
    rcases ih with rfl | ih
    · exact .inr ⟨_, b⟩
    · exact .inr ih
theorem bar_cut {p : List Int} (hT : TieOk n T) (hp : p ∈ prt T (rg n)) : Bar A (T.filter fun q => decide (q.1 ∈ p)) n L ↔ Bar A T n L ∧ ∀ x ∈ L, x ∈ p := by
  obtain ⟨u, hu, rfl⟩ := (mem_prt (rg_up n)).mp hp
  have cl : ∀ a b, (a, b) ∈ T → (a ∈ cls T (rg n) u ↔ b ∈ cls T (rg n) u) := fun a b q => by
    have := hT _ q
    have ma : a ∈ rg n := mem_rg.mpr ⟨by omega, by dsimp only at this; omega⟩
    have mb : b ∈ rg n := mem_rg.mpr ⟨by dsimp only at this; omega, this.2.2⟩
    rw [mem_cls, mem_cls]
    exact ⟨fun h => ⟨mb, .step h.2 (mem_both.mpr (.inr q)) mb⟩, fun h => ⟨ma, .step h.2 (mem_both.mpr (.inl q)) ma⟩⟩
  constructor
  · intro b
    refine ⟨b.mono (fun _ h => h) fun q hq => (List.mem_filter.mp hq).1, fun x hx => ?_⟩
    obtain ⟨hu', hm, h2, t, g⟩ := b
    obtain ⟨y, hy, hne⟩ : ∃ y ∈ L, y ≠ x := by
      match L, h2, hu' with
      | a :: b :: r, _, hu' =>
        have hab := (List.pairwise_cons.mp hu').1 b (by simp)
        by_cases e : a = x
        · exact ⟨b, by simp, by omega⟩
        · exact ⟨a, by simp, e⟩
    have hxy : Ld (both (T.filter fun q => decide (q.1 ∈ cls T (rg n) u))) L x y := (g.h y hy).trans ((g.h x hx).symm g.tm)
    rcases hxy.first with e | ⟨z, hz⟩
    · exact absurd e hne
    · rcases mem_both.mp hz with hz | hz
      · have h1 := List.mem_filter.mp hz
        exact (cl _ _ h1.1).mp (of_decide_eq_true h1.2)
      · exact of_decide_eq_true (List.mem_filter.mp hz).2
  · rintro ⟨⟨hu', hm, h2, t, g⟩, hs⟩
    refine ⟨hu', hm, h2, t, g.m, g.tm, g.a, fun x hx => ?_⟩
    have key : ∀ y, Ld (both T) L t y → Ld (both (T.filter fun q => decide (q.1 ∈ cls T (rg n) u))) L t y := fun y hy => by
      induction hy with
      | here => exact .here
      | @step x y a b c ih =>
        have my : y ∈ L := by
          rcases a.mem with e | e
          · rw [e]; exact g.tm
          · exact e
        refine .step ih (mem_both.mpr ?_) c
        rcases mem_both.mp b with b | b
        · exact .inl (List.mem_filter.mpr ⟨b, decide_eq_true (hs _ c)⟩)
        · exact .inr (List.mem_filter.mpr ⟨b, decide_eq_true (hs _ my)⟩)
    exact key x (g.h x hx)
theorem PlanOk.lessA {m n : Int} {A T B : List P2} (h : PlanOk m n A T) (hn : B.Nodup) (hs : ∀ q ∈ B, q ∈ A) : PlanOk m n B T := ⟨h.n0, h.n1, hn, h.tn, h.t, fun q hq => h.a q (hs q hq), let ⟨o, a, b⟩ := h.o; ⟨o, a, fun q hq => b q (hs q hq)⟩⟩
theorem Dr.comp_sub {X : Type} {c : X → PM Bool} : ∀ (xs : List X), (∀ x ∈ xs, Dr (c x) fun _ => True) → Dr (compM (compF c fun x => pure x) xs) fun ys => ys.Sublist xs
  | [], _ => Dr.ret (by simp)
  | x :: xs, h => by
    show Dr (compF c (fun x => pure x) x >>= fun y => compM _ xs >>= fun r => _) _
    refine Dr.bind (P := fun y => y = some x ∨ y = none) ?_ fun y hy => ?_
    · show Dr (c x >>= fun b => if b = true then (pure x : PM X) >>= fun z => pure (some z) else pure none) _
      exact Dr.bind (h x (by simp)) fun b _ => Dr.ite (fun _ => Dr.ret (.inl rfl)) fun _ => Dr.ret (.inr rfl)
    · refine Dr.bind (Dr.comp_sub xs fun x hx => h x (by simp [hx])) fun ys hys => Dr.ret ?_
      rcases hy with rfl | rfl
      · exact hys.cons₂ x
      · exact hys.cons x
end
end Mb

set_option Elab.async false
set_option linter.all false
set_option maxRecDepth 100000
set_option maxHeartbeats 1000000
/-! Mb15: trees of arrows to a head, trees of ties. -/
namespace Mb
open Tp PySem
open L2 (atI)
section
variable {A T F : List P2} {L M o : List Int} {n t x : Int}
theorem cut_to {X : Type} (xs : List X) {s : Int} (h0 : 0 ≤ s) (h : s ≤ xs.length) : cut xs none (some s) = xs.take s.toNat := by
  unfold cut HT.sIx
  simp only [List.drop_zero]
  congr 1
  split <;> first | omega | skip
theorem cut_from {X : Type} (xs : List X) {s : Int} (h0 : 0 ≤ s) (h : s ≤ xs.length) : cut xs (some s) none = xs.drop s.toNat := by
  have e : cut xs (some s) none = (xs.drop s.toNat).take (xs.length - s.toNat) := by
    unfold cut
    have e1 : HT.sIx xs.length 0 (some s) = s.toNat := by
      show (if s < 0 then _ else min s.toNat xs.length) = _
      rw [if_neg (by omega)]
      omega
    have e2 : HT.sIx xs.length xs.length none = xs.length := rfl
    rw [e1, e2]
  rw [e, List.take_of_length_le (by rw [List.length_drop]; omega)]
theorem upTo_up (i : Int) (n : Nat) : Up (Tp.upTo i n) := by
  unfold Tp.upTo
  rw [Up, List.pairwise_map]
  exact List.pairwise_lt_range.imp fun h => by omega
/-- arrows, each but the last one's going on -/
structure BA (o : List Int) (p : List Int) (A : List P2) : Prop where
  e : ∀ q ∈ A, ∃ i j : Nat, i < j ∧ j < o.length ∧ (i : Int) ∈ p ∧ q = (th o i, th o j)
  f : ∀ i : Nat, (i : Int) ∈ p → ∃ j : Nat, i < j ∧ j < o.length ∧ (th o i, th o j) ∈ A
  n : A.Nodup
  u : ∀ q ∈ A, ∀ r ∈ A, q.1 = r.1 → q = r
theorem BA.start : BA o [] [] := ⟨by simp, by simp, by simp, by simp⟩
theorem BA.step {p : List Int} (on : o.Nodup) (h : BA o p A) (hx : x ∉ p) (h0 : 0 ≤ x) {y : Nat} (hxy : x.toNat < y) (hy : y < o.length) : BA o (p ++ [x]) (A ++ [(th o x.toNat, th o y)]) := by
  have new : ∀ q ∈ A, q.1 ≠ th o x.toNat := fun q hq e => by
    obtain ⟨i, j, h1, h2, h3, rfl⟩ := h.e q hq
    have : i = x.toNat := th_inj on (by omega) (by omega) e
    subst this
    exact hx (by rwa [Int.toNat_of_nonneg h0] at h3)
  refine ⟨fun q hq => ?_, fun i hi => ?_, nodup_snoc h.n fun q => new _ q rfl, fun q hq r hr e => ?_⟩
  · rcases List.mem_append.mp hq with hq | hq
    · obtain ⟨i, j, h1, h2, h3, e⟩ := h.e q hq
      exact ⟨i, j, h1, h2, by simp [h3], e⟩
    · simp at hq; subst hq
      exact ⟨x.toNat, y, hxy, hy, by simp; omega, rfl⟩
  · rcases List.mem_append.mp hi with hi | hi
    · obtain ⟨j, h1, h2, h3⟩ := h.f i hi
      exact ⟨j, h1, h2, List.mem_append.mpr (.inl h3)⟩
    · simp at hi
      have : i = x.toNat := by omega
      subst this
      exact ⟨y, hxy, hy, by simp⟩
  · rcases List.mem_append.mp hq with hq | hq <;> rcases List.mem_append.mp hr with hr | hr
    · exact h.u q hq r hr e
    · simp at hr; subst hr; exact absurd e (new q hq)
    · simp at hq; subst hq; exact absurd e.symm (new r hr)
    · simp at hq hr; rw [hq, hr]
theorem BA.lead {k : Nat} (h : ∀ i : Nat, i + 1 < o.length → ∃ j : Nat, i < j ∧ j < o.length ∧ (th o i, th o j) ∈ A) (hL : ∀ x ∈ o, x ∈ L) : ∀ i : Nat, i < o.length → o.length ≤ i + k → Ld A L (th o (o.length - 1)) (th o i) := by
  induction k with
  | zero => intro i h1 h2; omega
  | succ k ih =>
    intro i h1 h2
    by_cases e : i + 1 = o.length
    · rw [show o.length - 1 = i by omega]; exact .here
    · obtain ⟨j, a, b, c⟩ := h i (by omega)
      exact .step (ih j b (by omega)) c (hL _ (th_mem h1))
/-- ties, each thing but the first one's to an earlier one -/
structure BT (u : List Int) (p : List Int) (T : List P2) : Prop where
  e : ∀ q ∈ T, ∃ a b : Nat, b < a ∧ a < u.length ∧ (a : Int) ∈ p ∧ q = mm (th u a) (th u b)
  f : ∀ a : Nat, (a : Int) ∈ p → ∃ b : Nat, b < a ∧ a < u.length ∧ mm (th u a) (th u b) ∈ T
  n : T.Nodup
  l : T.length = p.length
theorem BT.start : BT o [] [] := ⟨by simp, by simp, by simp, rfl⟩
theorem BT.step {p : List Int} (on : o.Nodup) (h : BT o p T) (hx : ∀ a ∈ p, a < x) (h0 : 0 ≤ x) {y : Nat} (hxy : y < x.toNat) (hl : x.toNat < o.length) : BT o (p ++ [x]) (T ++ [mm (th o x.toNat) (th o y)]) := by
  have new : mm (th o x.toNat) (th o y) ∉ T := fun hq => by
    obtain ⟨a, b, h1, h2, h3, e⟩ := h.e _ hq
    have := hx _ h3
    rcases mm_inj e with ⟨e1, e2⟩ | ⟨e1, e2⟩
    · have := th_inj on hl (by omega) e1; omega
    · have := th_inj on hl (by omega) e1; omega
  refine ⟨fun q hq => ?_, fun i hi => ?_, nodup_snoc h.n new, by simp [h.l]⟩
  · rcases List.mem_append.mp hq with hq | hq
    · obtain ⟨i, j, h1, h2, h3, e⟩ := h.e q hq
      exact ⟨i, j, h1, h2, by simp [h3], e⟩
    · simp at hq; subst hq
      exact ⟨x.toNat, y, hxy, hl, by simp; omega, rfl⟩
  · rcases List.mem_append.mp hi with hi | hi
    · obtain ⟨j, h1, h2, h3⟩ := h.f i hi
      exact ⟨j, h1, h2, List.mem_append.mpr (.inl h3)⟩
    · simp at hi
      have : i = x.toNat := by omega
      subst this
      exact ⟨y, hxy, hl, by simp⟩
theorem mem_both_mm {a b : Int} (h : mm a b ∈ T) : (a, b) ∈ both T ∧ (b, a) ∈ both T := by
  rcases mm_cases a b with e | e <;> rw [e] at h
  · exact ⟨mem_both.mpr (.inl h), mem_both.mpr (.inr h)⟩
  · exact ⟨mem_both.mpr (.inr h), mem_both.mpr (.inl h)⟩
theorem BT.hang {u : List Int} (h : ∀ a : Nat, 0 < a → a < u.length → ∃ b : Nat, b < a ∧ mm (th u a) (th u b) ∈ T) (hL : ∀ x ∈ u, x ∈ L) : ∀ k a : Nat, a ≤ k → a < u.length → Ld (both T) L (th u 0) (th u a) := by
  intro k
  induction k with
  | zero => intro a h1 h2; rw [show a = 0 by omega]; exact .here
  | succ k ih =>
    intro a h1 h2
    by_cases e : a = 0
    · subst e; exact .here
    · obtain ⟨b, hb, hm⟩ := h a (by omega) h2
      exact .step (ih b (by omega) (by omega)) (mem_both_mm hm).1 (hL _ (th_mem h2))
/-- parts and ties together are as many as the things at least -/
theorem prt_many (hL : Up L) : ∀ T : List P2, (∀ q ∈ T, q.1 ∈ L ∧ q.2 ∈ L) → L.length ≤ (prt T L).length + T.length := by
  have key : ∀ (k : Nat) (T : List P2), T.length = k → (∀ q ∈ T, q.1 ∈ L ∧ q.2 ∈ L) → L.length ≤ (prt T L).length + T.length := by
    intro k
    induction k with
    | zero =>
      intro T hT _
      have : T = [] := List.length_eq_zero_iff.mp hT
      subst this
      have hn : (L.map fun t => cls [] L t).Nodup := nodup_map hL.nodup fun x hx y hy e => (ld_cls hy hx e.symm).nil
      have := hn.length_le_of_subset (l₂ := prt [] L) fun p hp => by
        obtain ⟨t, ht, rfl⟩ := List.mem_map.mp hp
        exact (mem_prt hL).mpr ⟨t, ht, rfl⟩
      rw [List.length_map] at this
      simpa using this
    | succ k ih =>
      intro T hT hq
      rcases List.eq_nil_or_concat T with rfl | ⟨U, q, rfl⟩
      · simp at hT
      · rw [List.concat_eq_append] at *
        simp at hT
        have h1 := ih U hT fun r hr => hq r (by simp [hr])
        have h2 := hq q (by simp)
        have := prt_len (T := U) hL h2.1 h2.2
        simp only [List.length_append, List.length_cons, List.length_nil]
        rw [show (q.1, q.2) = q from rfl] at this
        omega
  exact fun T => key _ T rfl
theorem tie_count (hL : Up L) (ht : ∀ q ∈ T, q.1 ∈ L ∧ q.2 ∈ L) (hc : ∀ a ∈ L, ∀ x ∈ L, Ld (both T) L a x) : L.length ≤ T.length + 1 := by
  have h1 := prt_many hL T ht
  have h2 : (prt T L).length ≤ 1 := one_len (prt_nodup hL) fun p hp q hq => by
    obtain ⟨s, hs, rfl⟩ := (mem_prt hL).mp hp
    obtain ⟨r, hr, rfl⟩ := (mem_prt hL).mp hq
    exact cls_eq hs (hc s hs r hr)
  omega
theorem Bar.other (b : Bar A T n L) (hx : x ∈ L) : ∃ y ∈ L, y ≠ x := by
  obtain ⟨hu', hm, h2, t, g⟩ := b
  match L, h2, hu' with
  | a :: b :: r, _, hu' =>
    have hab := (List.pairwise_cons.mp hu').1 b (by simp)
    by_cases e : a = x
    · exact ⟨b, by simp, by omega⟩
    · exact ⟨a, by simp, e⟩
/-- each thing of a barred lot is at a tie -/
theorem Bar.ends (b : Bar A T n L) (hx : x ∈ L) : ∃ q ∈ T, x = q.1 ∨ x = q.2 := by
  obtain ⟨y, hy, hne⟩ := b.other hx
  obtain ⟨hu', hm, h2, t, g⟩ := b
  rcases (show Ld (both T) L x y from (g.h y hy).trans ((g.h x hx).symm g.tm)).first with e | ⟨z, hz⟩
  · exact absurd e hne
  · rcases mem_both.mp hz with hz | hz
    · exact ⟨_, hz, .inr rfl⟩
    · exact ⟨_, hz, .inl rfl⟩
/-- the last step of a way -/
theorem Ld.last (h : Ld A L t x) : x = t ∨ ∃ y, (x, y) ∈ A ∧ (y = t ∨ y ∈ L) := by
  cases h with
  | here => exact .inl rfl
  | step a b c => exact .inr ⟨_, b, a.mem⟩
/-- a lot with its tree of arrows to the last thing and its tree of ties, and what is beside -/
structure Blt (n : Int) (o bey : List Int) (A F T : List P2) : Prop where
  on : o.Nodup
  pm : (o ++ bey).Perm (rg n)
  l2 : 2 ≤ o.length
  ba : BA o (rg ((o.length : Int) - 1)) A
  tt : ∀ q ∈ T, q.1 ∈ o ∧ q.2 ∈ o
  tc : ∀ L : List Int, (∀ x ∈ o, x ∈ L) → ∀ x ∈ o, ∀ y ∈ o, Ld (both T) L x y
  tl : T.length + 1 = o.length
  ff : ∀ q ∈ F, (q.1 ∈ bey ∧ q.2 ∈ o) ∨ (q.1 = th o (o.length - 1) ∧ q.2 ∈ bey)
  pl : PlanOk n n (A ++ F) T
variable {bey : List Int}
theorem Blt.m (h : Blt n o bey A F T) : ∀ x ∈ o, x ∈ rg n := fun x hx => h.pm.mem_iff.mp (List.mem_append_left _ hx)
theorem Blt.dis (h : Blt n o bey A F T) : ∀ x ∈ o, x ∉ bey := fun x hx hb => by
  have := (h.pm.nodup_iff.mpr (rg_nodup n))
  exact (List.nodup_append.mp this).2.2 x hx x hb rfl
theorem Blt.lastm (h : Blt n o bey A F T) : th o (o.length - 1) ∈ o := th_mem (by have := h.l2; omega)
theorem Blt.up (h : Blt n o bey A F T) : Up (srt o) := srt_up h.on
theorem Blt.good (h : Blt n o bey A F T) : Good (A ++ F) T n (th o (o.length - 1)) (srt o) := by
  have hs : ∀ x ∈ o, x ∈ srt o := fun x hx => mem_srt.mpr hx
  refine ⟨fun x hx => h.m x (mem_srt.mp hx), hs _ h.lastm, fun x hx => ?_, fun x hx => h.tc _ hs _ h.lastm _ (mem_srt.mp hx)⟩
  obtain ⟨i, hi, e⟩ := List.getElem_of_mem (mem_srt.mp hx)
  rw [← e, ← th_eq hi]
  refine (BA.lead (k := o.length) (A := A) (L := srt o) (fun i hi => ?_) hs i hi (by omega)).mono (fun q hq => List.mem_append_left _ hq) fun _ h => h
  exact h.ba.f i (mem_rg.mpr ⟨by omega, by omega⟩)
theorem Blt.len (h : Blt n o bey A F T) : (srt o).length = o.length := List.length_mergeSort _
theorem Blt.bar (h : Blt n o bey A F T) : Bar (A ++ F) T n (srt o) := ⟨h.up, fun x hx => h.m x (mem_srt.mp hx), by rw [h.len]; have := h.l2; omega, _, h.good⟩
theorem Blt.bars (h : Blt n o bey A F T) {B U : List P2} (hU : ∀ q ∈ U, q ∈ T) (b : Bar B U n M) : ∀ x ∈ M, x ∈ srt o := fun x hx => by
  obtain ⟨q, hq, e⟩ := b.ends hx
  have := h.tt q (hU q hq)
  rcases e with rfl | rfl
  · exact mem_srt.mpr this.1
  · exact mem_srt.mpr this.2
theorem Blt.gr_last (h : Blt n o bey A F T) : gr (A ++ F) T n (th o (o.length - 1)) = srt o := by
  have ht := h.m _ h.lastm
  refine up_ext gr_up h.up fun x => ⟨?_, gr_max h.good x⟩
  refine h.bars (B := A ++ F) (fun _ h => h) (gr_bar ht ?_) x
  have := h.up.nodup.length_le_of_subset (gr_max h.good)
  rw [h.len] at this
  have := h.l2
  omega
theorem Blt.gr_bey (h : Blt n o bey A F T) (hx : x ∈ bey) : gr (A ++ F) T n x = [x] := by
  have ht : x ∈ rg n := h.pm.mem_iff.mp (List.mem_append_right _ hx)
  have h1 := (gr_good (A := A ++ F) (T := T) ht).tm
  have h0 := List.length_pos_of_mem h1
  by_cases h2 : 1 < (gr (A ++ F) T n x).length
  · exact absurd hx (h.dis x (mem_srt.mp (h.bars (B := A ++ F) (fun _ h => h) (gr_bar ht h2) x h1)))
  · obtain ⟨y, hy⟩ := List.length_eq_one_iff.mp (show (gr (A ++ F) T n x).length = 1 by omega)
    rw [hy] at h1 ⊢
    simp at h1; rw [h1]
/-- a tie less: they hang together no more -/
theorem Blt.cut (h : Blt n o bey A F T) {q : P2} {U : List P2} (hq : q ∈ T) (hU : U = T.filter fun r => !decide (r = q)) : ¬ ∀ a ∈ srt o, ∀ x ∈ srt o, Ld (both U) (srt o) a x := fun hc => by
  have hs : ∀ r ∈ U, r ∈ T := fun r hr => by rw [hU] at hr; exact (List.mem_filter.mp hr).1
  have h1 := tie_count (T := U) h.up (fun r hr => ⟨mem_srt.mpr (h.tt r (hs r hr)).1, mem_srt.mpr (h.tt r (hs r hr)).2⟩) hc
  have h2 : U.length < T.length := by
    rw [hU]
    refine Nat.lt_of_le_of_ne (List.length_filter_le _ _) fun e => ?_
    have := (List.length_filter_eq_length_iff.mp e) q hq
    simp at this
  rw [h.len] at h1
  have := h.tl
  omega
/-- an arrow less: no thing heads them -/
theorem Blt.less (h : Blt n o bey A F T) {q : P2} {B : List P2} (hq : q ∈ A) (hB : B = (A ++ F).filter fun r => !decide (r = q)) : ∀ t ∈ srt o, ¬ ∀ x ∈ srt o, Ld B (srt o) t x := fun t ht hc => by
  obtain ⟨i, j, h1, h2, h3, e⟩ := h.ba.e q hq
  have m1 : q.1 ∈ o := by rw [e]; exact th_mem (by omega)
  have ne : q.1 ≠ th o (o.length - 1) := by rw [e]; exact th_ne h.on (by omega) (by omega) (by omega)
  have none : ∀ y, (q.1, y) ∉ B := fun y hy => by
    rw [hB] at hy
    have hy' := List.mem_filter.mp hy
    rcases List.mem_append.mp hy'.1 with k | k
    · have := h.ba.u _ k q hq rfl
      rw [this] at hy'
      simp at hy'
    · rcases h.ff _ k with k | k
      · exact h.dis _ m1 k.1
      · exact ne k.1
  have e1 : q.1 = t := by
    rcases (hc q.1 (mem_srt.mpr m1)).last with k | ⟨y, k, _⟩
    · exact k
    · exact absurd k (none y)
  rcases (hc _ (mem_srt.mpr h.lastm)).last with k | ⟨y, k, l⟩
  · exact ne (e1.trans k.symm)
  · have yo : y ∈ o := by
      rcases l with l | l
      · rw [l, ← e1]; exact m1
      · exact mem_srt.mp l
    rw [hB] at k
    have k' := (List.mem_filter.mp k).1
    rcases List.mem_append.mp k' with k | k
    · obtain ⟨i, j, h1, h2, h3, e⟩ := h.ba.e _ k
      have h3' := mem_rg.mp h3
      have := th_inj h.on (by omega) (by omega) (congrArg Prod.fst e)
      omega
    · rcases h.ff _ k with k | k
      · exact h.dis _ h.lastm k.1
      · exact h.dis _ yo k.2
/-- each barred lot lies on one side -/
theorem side_ok {U : List P2} {B : List P2} {s : Int} (hs : s ∈ L) (b : Bar B U n M) (hM : ∀ x ∈ M, x ∈ L) : (∀ x ∈ M, x ∈ cls U L s) ∨ ∀ x ∈ M, x ∉ cls U L s := by
  by_cases h : ∃ x ∈ M, x ∈ cls U L s
  · obtain ⟨x, hx, hc⟩ := h
    left
    obtain ⟨hu, hm, h2, t, g⟩ := b
    intro y hy
    have : Ld (both U) L x y := ((g.h y hy).trans ((g.h x hx).symm g.tm)).mono (fun _ h => h) hM
    exact mem_cls.mpr ⟨hM y hy, this.trans (mem_cls.mp hc).2⟩
  · right
    exact fun x hx hc => h ⟨x, hx, hc⟩
end
end Mb

set_option Elab.async false
set_option linter.all false
set_option maxRecDepth 100000
set_option maxHeartbeats 4000000
namespace La
open PySem PySem.Spec L2 Tp
open PyProof.Rows hiding St
def top (i : Nat) : Stmt := PySem.Challenge.pw_toldpushes_k49_whole_built_barred_lots.main.body.getD i (.Pass ⟨0, 0, 0, 0⟩)
abbrev s7 : Stmt := top 10
def d7 : He.DefD := ⟨("is_integer", none), "is_integer", "is_integer", defArgs s7, defBody s7, defScope s7, [], []⟩
abbrev s8 : Stmt := top 11
def d8 : He.DefD := ⟨("is_count", none), "is_count", "is_count", defArgs s8, defBody s8, defScope s8, [], []⟩
abbrev s9 : Stmt := top 12
def d9 : He.DefD := ⟨("is_list", none), "is_list", "is_list", defArgs s9, defBody s9, defScope s9, [], []⟩
abbrev s10 : Stmt := top 15
def d10 : He.DefD := ⟨("is_thing", none), "is_thing", "is_thing", defArgs s10, defBody s10, defScope s10, [], []⟩
abbrev s11 : Stmt := top 16
def d11 : He.DefD := ⟨("is_arrow", none), "is_arrow", "is_arrow", defArgs s11, defBody s11, defScope s11, [], []⟩
abbrev s12 : Stmt := top 17
def d12 : He.DefD := ⟨("is_tie", none), "is_tie", "is_tie", defArgs s12, defBody s12, defScope s12, [], []⟩
abbrev s13 : Stmt := top 18
def d13 : He.DefD := ⟨("all_unlike", none), "all_unlike", "all_unlike", defArgs s13, defBody s13, defScope s13, [], []⟩
abbrev s14 : Stmt := top 19
def d14 : He.DefD := ⟨("arrows_in", none), "arrows_in", "arrows_in", defArgs s14, defBody s14, defScope s14, [], []⟩
abbrev s15 : Stmt := top 20
def d15 : He.DefD := ⟨("ties_in", none), "ties_in", "ties_in", defArgs s15, defBody s15, defScope s15, [], []⟩
abbrev s16 : Stmt := top 21
def d16 : He.DefD := ⟨("lot_in", none), "lot_in", "lot_in", defArgs s16, defBody s16, defScope s16, [], []⟩
abbrev s17 : Stmt := top 22
def d17 : He.DefD := ⟨("order_of", none), "order_of", "order_of", defArgs s17, defBody s17, defScope s17, [], []⟩
abbrev s18 : Stmt := top 23
def d18 : He.DefD := ⟨("are_unlike", none), "are_unlike", "are_unlike", defArgs s18, defBody s18, defScope s18, [], []⟩
abbrev s20 : Stmt := inClass (top 25) 0
def d20 : He.DefD := ⟨("Plan", some "__init__"), "__init__", "Plan.__init__", defArgs s20, defBody s20, defScope s20, [.adr (He.dflAt ("Plan", some "__init__") 0), .adr (He.dflAt ("Plan", some "__init__") 1)], []⟩
abbrev s26 : Stmt := top 26
def d26 : He.DefD := ⟨("want_plan", none), "want_plan", "want_plan", defArgs s26, defBody s26, defScope s26, [], []⟩
abbrev s27 : Stmt := top 27
def d27 : He.DefD := ⟨("want_thing", none), "want_thing", "want_thing", defArgs s27, defBody s27, defScope s27, [], []⟩
abbrev s28 : Stmt := top 28
def d28 : He.DefD := ⟨("want_lot", none), "want_lot", "want_lot", defArgs s28, defBody s28, defScope s28, [], []⟩
abbrev s29 : Stmt := top 30
def d29 : He.DefD := ⟨("leaders", none), "leaders", "leaders", defArgs s29, defBody s29, defScope s29, [], []⟩
abbrev s30 : Stmt := top 31
def d30 : He.DefD := ⟨("part_in", none), "part_in", "part_in", defArgs s30, defBody s30, defScope s30, [], []⟩
abbrev s31 : Stmt := top 33
def d31 : He.DefD := ⟨("head_of", none), "head_of", "head_of", defArgs s31, defBody s31, defScope s31, [], []⟩
abbrev s32 : Stmt := top 34
def d32 : He.DefD := ⟨("hangs_of", none), "hangs_of", "hangs_of", defArgs s32, defBody s32, defScope s32, [], []⟩
abbrev s33 : Stmt := top 35
def d33 : He.DefD := ⟨("is_bar", none), "is_bar", "is_bar", defArgs s33, defBody s33, defScope s33, [], []⟩
abbrev s34 : Stmt := top 36
def d34 : He.DefD := ⟨("head", none), "head", "head", defArgs s34, defBody s34, defScope s34, [], []⟩
abbrev s35 : Stmt := top 37
def d35 : He.DefD := ⟨("hangs", none), "hangs", "hangs", defArgs s35, defBody s35, defScope s35, [], []⟩
abbrev s36 : Stmt := top 38
def d36 : He.DefD := ⟨("is_barred", none), "is_barred", "is_barred", defArgs s36, defBody s36, defScope s36, [], []⟩
abbrev s37 : Stmt := top 40
def d37 : He.DefD := ⟨("greatest_of", none), "greatest_of", "greatest_of", defArgs s37, defBody s37, defScope s37, [], []⟩
abbrev s38 : Stmt := top 41
def d38 : He.DefD := ⟨("all_lots", none), "all_lots", "all_lots", defArgs s38, defBody s38, defScope s38, [], []⟩
abbrev s39 : Stmt := top 42
def d39 : He.DefD := ⟨("bars_of", none), "bars_of", "bars_of", defArgs s39, defBody s39, defScope s39, [], []⟩
abbrev s40 : Stmt := top 43
def d40 : He.DefD := ⟨("plain_of", none), "plain_of", "plain_of", defArgs s40, defBody s40, defScope s40, [], []⟩
abbrev s41 : Stmt := top 44
def d41 : He.DefD := ⟨("lies_in", none), "lies_in", "lies_in", defArgs s41, defBody s41, defScope s41, [], []⟩
abbrev s42 : Stmt := top 45
def d42 : He.DefD := ⟨("greatest_lot", none), "greatest_lot", "greatest_lot", defArgs s42, defBody s42, defScope s42, [], []⟩
abbrev s43 : Stmt := top 46
def d43 : He.DefD := ⟨("barred_lots", none), "barred_lots", "barred_lots", defArgs s43, defBody s43, defScope s43, [], []⟩
abbrev s44 : Stmt := top 47
def d44 : He.DefD := ⟨("least_bars", none), "least_bars", "least_bars", defArgs s44, defBody s44, defScope s44, [], []⟩
abbrev s45 : Stmt := top 48
def d45 : He.DefD := ⟨("is_plain", none), "is_plain", "is_plain", defArgs s45, defBody s45, defScope s45, [], []⟩
abbrev s46 : Stmt := top 49
def d46 : He.DefD := ⟨("bar_of", none), "bar_of", "bar_of", defArgs s46, defBody s46, defScope s46, [], []⟩
abbrev s47 : Stmt := top 51
def d47 : He.DefD := ⟨("_law_pot", none), "_law_pot", "_law_pot", defArgs s47, defBody s47, defScope s47, [], []⟩
abbrev s48 : Stmt := top 52
def d48 : He.DefD := ⟨("_law_draw", none), "_law_draw", "_law_draw", defArgs s48, defBody s48, defScope s48, [], []⟩
abbrev s49 : Stmt := top 53
def d49 : He.DefD := ⟨("_law_pick", none), "_law_pick", "_law_pick", defArgs s49, defBody s49, defScope s49, [], []⟩
abbrev s50 : Stmt := top 54
def d50 : He.DefD := ⟨("_law_hung", none), "_law_hung", "_law_hung", defArgs s50, defBody s50, defScope s50, [], []⟩
abbrev s51 : Stmt := top 55
def d51 : He.DefD := ⟨("_law_order", none), "_law_order", "_law_order", defArgs s51, defBody s51, defScope s51, [], []⟩
abbrev s52 : Stmt := top 56
def d52 : He.DefD := ⟨("_law_made", none), "_law_made", "_law_made", defArgs s52, defBody s52, defScope s52, [], []⟩
abbrev s53 : Stmt := top 57
def d53 : He.DefD := ⟨("_law_built", none), "_law_built", "_law_built", defArgs s53, defBody s53, defScope s53, [], []⟩
abbrev s54 : Stmt := top 58
def d54 : He.DefD := ⟨("_law_left_out_right", none), "_law_left_out_right", "_law_left_out_right", defArgs s54, defBody s54, defScope s54, [], []⟩
abbrev s55 : Stmt := top 59
def d55 : He.DefD := ⟨("_law_right", none), "_law_right", "_law_right", defArgs s55, defBody s55, defScope s55, [], []⟩
abbrev s56 : Stmt := top 60
def d56 : He.DefD := ⟨("law", none), "law", "law", defArgs s56, defBody s56, defScope s56, [], []⟩
def fa : List He.Fa := [.free "divmod", .free "int", .glo "_law_draw", .free "list", .free "range", .free "len", .glo "_law_order", .free "min", .free "max", .glo "_law_built", .free "sorted", .free "tuple", .free "isinstance", .glo "Known", .free "bool", .glo "is_integer", .glo "is_count", .int "MOST_SIZE" 6, .glo "is_list", .free "all", .glo "is_thing", .glo "is_arrow", .glo "arrows_in", .cls "Plan", .noat "Plan" "own_arrows", .free "zip", .glo "all_unlike", .free "any", .glo "order_of", .glo "are_unlike", .glo "is_tie", .glo "ties_in", .noat "Plan" "own_ties", .noat "Plan" "own_width", .glo "Plan", .mkr "Plan", .glo "_law_made", .glo "want_plan", .glo "lot_in", .glo "leaders", .glo "head_of", .glo "part_in", .glo "hangs_of", .glo "is_bar", .glo "is_barred", .glo "want_lot", .glo "head", .glo "want_thing", .glo "greatest_of", .glo "greatest_lot", .glo "plain_of", .glo "is_plain", .glo "bar_of", .glo "all_lots", .glo "bars_of", .glo "barred_lots", .glo "lies_in", .glo "least_bars", .glo "_law_pick", .glo "hangs", .glo "_law_hung", .glo "_law_left_out_right", .glo "_law_right", .free "abs", .glo "_law_pot", .glo "law"]
def fb : List Fb := [.kitT "int" "Known" false, .kitC "Plan" "Plan" true, .ins "Plan"]
def fn : List He.DefD := [d7, d8, d9, d10, d11, d12, d13, d14, d15, d16, d17, d18, d20, d26, d27, d28, d29, d30, d31, d32, d33, d34, d35, d36, d37, d38, d39, d40, d41, d42, d43, d44, d45, d46, d47, d48, d49, d50, d51, d52, d53, d54, d55, d56]
def pn : List DefP := []
abbrev Hf (T : Wd) : Prop := Says fa fb fn pn T
abbrev fI_Plan : List (Str × TY) := [("own_width", TY.int), ("own_arrows", (TY.list (TY.tup2 TY.int TY.int))), ("own_ties", (TY.list (TY.tup2 TY.int TY.int)))]
abbrev tI_Plan : TY := TY.ins "Plan" fI_Plan
abbrev aI_Plan := FT fI_Plan
def N_law_draw : List Str := ["_law_pot_here", "_law_size", "_law_digit"]
theorem sc_law_draw : FnScope N_law_draw ["_law_pot_here", "_law_size"] (defScope s48) := ⟨rfl, rfl, rfl, by decide +kernel, rfl, by decide +kernel, by decide +kernel⟩
def x_law_draw {T : Wd} (hf : Hf T) : SJ PM ⟨T, N_law_draw, defScope s48, 1, 0, fun _ => true⟩ [] [(1, (.sh TY.int))] (defBody s48) (OZ.r [] (.sh TY.int)) :=
  (SJ.ifRr (rwa := []) (TJ.cmp cm2_gt EJ.pot0 (EP.toEJ EP.int)) (SJ.pot0 2 (EJ.divmod EJ.pot0 (EP.toEJ (EP.var 1)) (Says.free hf 0)) (SJ.retP (EP.var 2))) (SJ.pot1 (EJ.binR o2_mod (EJ.fn1 fn_intI (Bt.ty bt_int) (Says.free hf 1) (EJ.bin op2_add (EJ.binR o2_mul EJ.pot1 (EP.toEJ EP.int)) (EP.toEJ EP.int))) (EP.toEJ EP.int)) (SJ.ret (EJ.binR o2_mod (EJ.fn1 fn_intI (Bt.ty bt_int) (Says.free hf 1) (EJ.binR o2_div (EJ.binR o2_mod (EJ.fn1 fn_intI (Bt.ty bt_int) (Says.free hf 1) (EJ.binR o2_mul EJ.pot1 EJ.pot1)) (EP.toEJ EP.int)) (EP.toEJ EP.int))) (EP.toEJ (EP.var 1))))))
def m_law_draw (size : Int) : PM Int :=
  ((PM.get0 >>= fun (v1 : Int) => pure (decide (0 < v1))) >>= fun (b16 : Bool) => (if b16 = true then ((PM.get0 >>= fun (v2 : Int) => (optM (dmO v2 size))) >>= fun (y3 : Int × Int) => (PM.put0 y3.1 >>= fun (_ : Unit) => pure y3.2)) else (((((PM.get1 >>= fun (v4 : Int) => (optM (mulO v4 39541))) >>= fun (v5 : Int) => pure (v5 + 6947)) >>= fun (v6 : Int) => pure v6) >>= fun (v7 : Int) => (optM (modO v7 2147483549))) >>= fun (v15 : Int) => (PM.put1 v15 >>= fun (_ : Unit) => ((((((PM.get1 >>= fun (v8 : Int) => (PM.get1 >>= fun (v9 : Int) => (optM (mulO v8 v9)))) >>= fun (v10 : Int) => pure v10) >>= fun (v11 : Int) => (optM (modO v11 2147483543))) >>= fun (v12 : Int) => (optM (divO v12 23))) >>= fun (v13 : Int) => pure v13) >>= fun (v14 : Int) => (optM (modO v14 size)))))))
theorem e_law_draw {T : Wd} (hf : Hf T) : (x_law_draw hf).den = fun _ s => m_law_draw s.1 := by
  funext c s
  unfold x_law_draw m_law_draw
  dsimp only [SJ.ifRr, TJ.cmp, EJ.pot0, EP.toEJ, EP.int, SJ.pot0, EJ.divmod, EP.var, SJ.retP, SJ.pot1, EJ.binR, EJ.fn1, EJ.bin, EJ.pot1, SJ.ret, turnF, VJ.cons, EP.ofJ, R.pbind, PM.pbind]
  repeat' (first
    | with_reducible rfl
    | refine mapc (fun _ => ?_) ?_
    | refine loopNc (fun _ _ => ?_) ?_ ?_
    | refine loopFc (fun _ _ => ?_) ?_ ?_
    | refine whileNc (fun _ => ?_) (fun _ => ?_) ?_
    | refine whileFc (fun _ => ?_) (fun _ => ?_) ?_
    | refine compc (fun _ => ?_) (fun _ => ?_) ?_
    | refine noerc ?_
    | refine bindFL ?_ (fun _ => ?_) (fun _ => ?_)
    | refine bindc ?_ (fun _ => ?_)
    | refine itec ?_ ?_ ?_
    | rfl)
theorem F_law_draw {T : Wd} (hf : Hf T) : Fn T 2 "_law_draw" ["_law_pot_here", "_law_size"] (spF PM T.K 2 0 [] [(1, (.sh TY.int))] (.sh TY.int) (fun _ s => m_law_draw s.1)) := by
  obtain ⟨fd, F⟩ := hf.c.def_ 35 (d := d48) rfl
  have h := fn_ok F sc_law_draw (x_law_draw hf)
  rw [e_law_draw hf] at h
  exact Fn.mk' F (Says.glo hf 2) (FunD.bindsN F fun _ _ _ _ _ _ us hl => match us, hl with | [_, _], _ => rfl) h
def N_law_order : List Str := ["_law_pot_here", "_law_many", "_law_left", "_law_found", "_law_turn"]
theorem sc_law_order : FnScope N_law_order ["_law_pot_here", "_law_many"] (defScope s51) := ⟨rfl, rfl, rfl, by decide +kernel, rfl, by decide +kernel, by decide +kernel⟩
def x_law_order {T : Wd} (hf : Hf T) : SJ PM ⟨T, N_law_order, defScope s51, 2, 0, fun _ => true⟩ [] [(1, (.sh TY.int))] (defBody s51) (OZ.r [] (.o1 TY.int)) :=
  (SJ.par2 (i := 2) (j := 3) (VJ.cons (EJ.listRg1 (EP.toEJ (EP.var 1)) (Says.free hf 3) (Says.free hf 4)) (VJ.cons (EJ.lst (LP.toLJ (LP.nil (t := TY.int)))) VJ.nil)) (SJ.forN [2, 3] (IJ.range1 (EP.toEJ (EP.var 1)) (Says.free hf 4)) (TG1.name 4) (SJ.expr (EM.mu1 3 mu_append PySem.F.plainAttrs_list PySem.F.slot_list_append PySem.F.type_list_append (EM.mu1 2 mu_popAt PySem.F.plainAttrs_list PySem.F.slot_list_pop PySem.F.type_list_pop (EJ.toM (EJ.frz [2] (EJ.callW (F_law_draw hf) (AP.toJ (AP.cons (EP.fn1 fn_len (Bt.fn bt_len) (Says.free hf 5) (EP.var 2)) (AP.nil 2)))))))) SJ.nil) (SJ.retM (EM.move 3))) (fun env h => by cases env; cases h; rfl))
def m_law_order (many : Int) : PM (List Int) :=
  (((optM (rgL 0 many)) >>= fun (x21 : (List Int)) => pure (x21, ([] : List Int), ())) >>= fun (v22 : (List Int) × (List Int) × Unit) => (((optM (rng1 many)) >>= fun (l32 : List Int) => (Tp.loopN (fun (y23 : Int) (s24 : (List Int) × (List Int) × Unit) => (((((((Eff.noer (m_law_draw (s24.1.length : Int))) >>= fun (v25 : Int) => pure ((y23, s24.1, s24.2.1, ()), v25)) >>= fun (y26 : (Int × (List Int) × (List Int) × Unit) × Int) => ((optM (popB y26.1.2.1 y26.2)) >>= fun (z27 : List Int × Int) => pure ((y26.1.1, z27.1, y26.1.2.2.1, ()), z27.2))) >>= fun (y28 : (Int × (List Int) × (List Int) × Unit) × Int) => ((optM (appO y28.1.2.2.1 y28.2)) >>= fun (z29 : List Int × Unit) => pure ((y28.1.1, y28.1.2.1, z29.1, ()), ()))) >>= fun (y30 : (Int × (List Int) × (List Int) × Unit) × Unit) => pure (y30.1.1, y30.1.2.1, y30.1.2.2.1, ())) >>= fun (e31 : Int × (List Int) × (List Int) × Unit) => pure (e31.2.1, e31.2.2.1, ())) : PM ((List Int) × (List Int) × Unit))) l32 (v22.1, v22.2.1, ()) >>= fun (m33 : (List Int) × (List Int) × Unit) => pure (many, m33.1, m33.2.1, ()))) >>= fun (s34 : Int × (List Int) × (List Int) × Unit) => pure s34.2.2.1))
theorem e_law_order {T : Wd} (hf : Hf T) : (x_law_order hf).den = fun _ s => m_law_order s.1 := by
  funext c s
  unfold x_law_order m_law_order
  dsimp only [SJ.par2, VJ.cons, EJ.listRg1, EP.toEJ, EP.var, EJ.lst, LP.toLJ, LP.nil, VJ.nil, SJ.forN, IJ.range1, TG1.name, SJ.expr, EM.mu1, EJ.toM, EJ.frz, EJ.callW, AP.toJ, AP.cons, EP.fn1, AP.nil, SJ.nil, SJ.retM, EM.move, turnF, VJ.cons, EP.ofJ, R.pbind, PM.pbind]
  repeat' (first
    | with_reducible rfl
    | refine mapc (fun _ => ?_) ?_
    | refine loopNc (fun _ _ => ?_) ?_ ?_
    | refine loopFc (fun _ _ => ?_) ?_ ?_
    | refine whileNc (fun _ => ?_) (fun _ => ?_) ?_
    | refine whileFc (fun _ => ?_) (fun _ => ?_) ?_
    | refine compc (fun _ => ?_) (fun _ => ?_) ?_
    | refine noerc ?_
    | refine bindFL ?_ (fun _ => ?_) (fun _ => ?_)
    | refine bindc ?_ (fun _ => ?_)
    | refine itec ?_ ?_ ?_
    | rfl)
theorem F_law_order {T : Wd} (hf : Hf T) : Fn T 3 "_law_order" ["_law_pot_here", "_law_many"] (spF PM T.K 2 0 [] [(1, (.sh TY.int))] (.o1 TY.int) (fun _ s => m_law_order s.1)) := by
  obtain ⟨fd, F⟩ := hf.c.def_ 38 (d := d51) rfl
  have h := fn_ok F sc_law_order (x_law_order hf)
  rw [e_law_order hf] at h
  exact Fn.mk' F (Says.glo hf 6) (FunD.bindsN F fun _ _ _ _ _ _ us hl => match us, hl with | [_, _], _ => rfl) h
def N_law_built : List Str := ["_law_pot_here", "_law_order_here", "_law_arrows", "_law_ties", "_law_at", "_law_to", "_law_mixed", "_law_one", "_law_other"]
theorem sc_law_built : FnScope N_law_built ["_law_pot_here", "_law_order_here"] (defScope s53) := ⟨rfl, rfl, rfl, by decide +kernel, rfl, by decide +kernel, by decide +kernel⟩
def x_law_built {T : Wd} (hf : Hf T) : SJ PM ⟨T, N_law_built, defScope s53, 3, 0, fun _ => true⟩ [] [(1, (.sh (TY.list TY.int)))] (defBody s53) (OZ.r [] (.sh (TY.tup2 (TY.list (TY.tup2 TY.int TY.int)) (TY.list (TY.tup2 TY.int TY.int))))) :=
  (SJ.par2 (i := 2) (j := 3) (VJ.cons (EJ.lst (LP.toLJ (LP.nil (t := (TY.tup2 TY.int TY.int))))) (VJ.cons (EJ.lst (LP.toLJ (LP.nil (t := (TY.tup2 TY.int TY.int))))) VJ.nil)) (SJ.forN [2] (IJ.range1 (EP.toEJ (EP.bin op2_sub (EP.fn1 fn_len (Bt.fn bt_len) (Says.free hf 5) (EP.var 1)) EP.int)) (Says.free hf 4)) (TG1.name 4) (SJ.set 5 (EJ.bin op2_add (EP.toEJ (EP.bin op2_add (EP.var 4) EP.int)) (EJ.callW (F_law_draw hf) (AP.toJ (AP.cons (EP.bin op2_sub (EP.bin op2_sub (EP.fn1 fn_len (Bt.fn bt_len) (Says.free hf 5) (EP.var 1)) EP.int) (EP.var 4)) (AP.nil 2))))) (SJ.expr (EM.mu1 2 mu_append PySem.F.plainAttrs_list PySem.F.slot_list_append PySem.F.type_list_append (EJ.toM (EJ.tup2 (EJ.ix ix_lst (EP.toEJ (EP.var 1)) (EP.toEJ (EP.var 4))) (EJ.ix ix_lst (EP.toEJ (EP.var 1)) (EP.toEJ (EP.var 5)))))) SJ.nil)) (SJ.set 6 (EJ.share (EJ.callW (F_law_order hf) (AP.toJ (AP.cons (EP.fn1 fn_len (Bt.fn bt_len) (Says.free hf 5) (EP.var 1)) (AP.nil 2))))) (SJ.forN [3] (IJ.range2 (EP.toEJ EP.int) (EP.toEJ (EP.fn1 fn_len (Bt.fn bt_len) (Says.free hf 5) (EP.var 1))) (Says.free hf 4)) (TG1.name 4) (SJ.par2 (i := 7) (j := 8) (VJ.cons (EJ.ix ix_lst (EP.toEJ (EP.var 1)) (EJ.ix ix_lst (EP.toEJ (EP.var 6)) (EP.toEJ (EP.var 4)))) (VJ.cons (EJ.ix ix_lst (EP.toEJ (EP.var 1)) (EJ.ix ix_lst (EP.toEJ (EP.var 6)) (EJ.callW (F_law_draw hf) (AP.toJ (AP.cons (EP.var 4) (AP.nil 2)))))) VJ.nil)) (SJ.expr (EM.mu1 3 mu_append PySem.F.plainAttrs_list PySem.F.slot_list_append PySem.F.type_list_append (EJ.toM (EP.toEJ (EP.tup2 (EP.fn2 fn_min2 (Bt.fn bt_min) (Says.free hf 7) (EP.var 7) (EP.var 8)) (EP.fn2 fn_max2 (Bt.fn bt_max) (Says.free hf 8) (EP.var 7) (EP.var 8)))))) SJ.nil) (fun env h => by cases env; cases h; rfl)) (SJ.give [2, 3] (SJ.retP (EP.tup2 (EP.var 2) (EP.var 3))))))) (fun env h => by cases env; cases h; rfl))
def m_law_built (order_here : (List Int)) : PM ((List (Int × Int)) × (List (Int × Int))) :=
  (((optM (rng1 ((order_here.length : Int) - 1))) >>= fun (l47 : List Int) => (Tp.loopN (fun (y36 : Int) (s37 : (List (Int × Int)) × Unit) => (((((m_law_draw (((order_here.length : Int) - 1) - y36)) >>= fun (v38 : Int) => pure ((y36 + 1) + v38)) >>= fun (to39 : Int) => (((((optM (atI order_here y36)) >>= fun (v40 : Int) => ((optM (atI order_here to39)) >>= fun (v41 : Int) => pure (v40, v41))) >>= fun (v42 : (Int × Int)) => pure ((y36, s37.1, to39, ()), v42)) >>= fun (y43 : (Int × (List (Int × Int)) × Int × Unit) × (Int × Int)) => ((optM (appO y43.1.2.1 y43.2)) >>= fun (z44 : List (Int × Int) × Unit) => pure ((y43.1.1, z44.1, y43.1.2.2.1, ()), ()))) >>= fun (y45 : (Int × (List (Int × Int)) × Int × Unit) × Unit) => pure (y45.1.1, y45.1.2.1, y45.1.2.2.1, ()))) >>= fun (e46 : Int × (List (Int × Int)) × Int × Unit) => pure (e46.2.1, ())) : PM ((List (Int × Int)) × Unit))) l47 (([] : List (Int × Int)), ()) >>= fun (m48 : (List (Int × Int)) × Unit) => pure (order_here, m48.1, ([] : List (Int × Int)), ()))) >>= fun (s49 : (List Int) × (List (Int × Int)) × (List (Int × Int)) × Unit) => ((m_law_order (s49.1.length : Int)) >>= fun (mixed50 : (List Int)) => (((optM (rng2 1 (s49.1.length : Int))) >>= fun (l63 : List Int) => (Tp.loopN (fun (y51 : Int) (s52 : (List (Int × Int)) × Unit) => ((((((optM (atI mixed50 y51)) >>= fun (v53 : Int) => (optM (atI s49.1 v53))) >>= fun (x57 : Int) => (((((m_law_draw y51) >>= fun (v54 : Int) => (optM (atI mixed50 v54))) >>= fun (v55 : Int) => (optM (atI s49.1 v55))) >>= fun (x56 : Int) => pure (x56, ())) >>= fun (a58 : Int × Unit) => pure (x57, a58))) >>= fun (v59 : Int × Int × Unit) => (((optM (appO s52.1 ((if v59.2.1 < v59.1 then v59.2.1 else v59.1), (if v59.2.1 > v59.1 then v59.2.1 else v59.1)))) >>= fun (z60 : List (Int × Int) × Unit) => pure ((y51, z60.1, v59.1, v59.2.1, ()), ())) >>= fun (y61 : (Int × (List (Int × Int)) × Int × Int × Unit) × Unit) => pure (y61.1.1, y61.1.2.1, y61.1.2.2.1, y61.1.2.2.2.1, ()))) >>= fun (e62 : Int × (List (Int × Int)) × Int × Int × Unit) => pure (e62.2.1, ())) : PM ((List (Int × Int)) × Unit))) l63 (s49.2.2.1, ()) >>= fun (m64 : (List (Int × Int)) × Unit) => pure (s49.1, s49.2.1, m64.1, mixed50, ()))) >>= fun (s65 : (List Int) × (List (Int × Int)) × (List (Int × Int)) × (List Int) × Unit) => pure (s65.2.1, s65.2.2.1))))
theorem e_law_built {T : Wd} (hf : Hf T) : (x_law_built hf).den = fun _ s => m_law_built s.1 := by
  funext c s
  unfold x_law_built m_law_built
  dsimp only [SJ.par2, VJ.cons, EJ.lst, LP.toLJ, LP.nil, VJ.nil, SJ.forN, IJ.range1, EP.toEJ, EP.bin, EP.fn1, EP.var, EP.int, TG1.name, SJ.set, EJ.bin, EJ.callW, AP.toJ, AP.cons, AP.nil, SJ.expr, EM.mu1, EJ.toM, EJ.tup2, EJ.ix, SJ.nil, EJ.share, IJ.range2, EP.tup2, EP.fn2, SJ.give, SJ.retP, turnF, VJ.cons, EP.ofJ, R.pbind, PM.pbind]
  repeat' (first
    | with_reducible rfl
    | refine mapc (fun _ => ?_) ?_
    | refine loopNc (fun _ _ => ?_) ?_ ?_
    | refine loopFc (fun _ _ => ?_) ?_ ?_
    | refine whileNc (fun _ => ?_) (fun _ => ?_) ?_
    | refine whileFc (fun _ => ?_) (fun _ => ?_) ?_
    | refine compc (fun _ => ?_) (fun _ => ?_) ?_
    | refine noerc ?_
    | refine bindFL ?_ (fun _ => ?_) (fun _ => ?_)
    | refine bindc ?_ (fun _ => ?_)
    | refine itec ?_ ?_ ?_
    | rfl)
theorem F_law_built {T : Wd} (hf : Hf T) : Fn T 4 "_law_built" ["_law_pot_here", "_law_order_here"] (spF PM T.K 2 0 [] [(1, (.sh (TY.list TY.int)))] (.sh (TY.tup2 (TY.list (TY.tup2 TY.int TY.int)) (TY.list (TY.tup2 TY.int TY.int)))) (fun _ s => m_law_built s.1)) := by
  obtain ⟨fd, F⟩ := hf.c.def_ 40 (d := d53) rfl
  have h := fn_ok F sc_law_built (x_law_built hf)
  rw [e_law_built hf] at h
  exact Fn.mk' F (Says.glo hf 9) (FunD.bindsN F fun _ _ _ _ _ _ us hl => match us, hl with | [_, _], _ => rfl) h
def N_is_integer : List Str := ["value"]
theorem sc_is_integer : FnScope N_is_integer ["value"] (defScope s7) := ⟨rfl, rfl, rfl, by decide +kernel, rfl, by decide +kernel, by decide +kernel⟩
def x_is_integer {T : Wd} (hf : Hf T) : SJ R ⟨T, N_is_integer, defScope s7, 1, 1, fun _ => true⟩ [] [(0, (.sh TY.int))] (defBody s7) (OZ.r [] (.sh TY.bool)) :=
  (SJ.retP (EP.and (EP.isi (EP.var 0) TagT.int (CE.ty "int" (Says.free hf 1) bt_int) true (kit_ty (by decide +kernel)) (Says.free hf 12) bt_isinstance) (EP.one (EP.not (EP.isi (EP.var 0) TagT.int (CE.ty "bool" (Says.free hf 14) bt_bool) false (kit_ty (by decide +kernel)) (Says.free hf 12) bt_isinstance)))))
def m_is_integer (value : Int) : R Bool :=
  pure (true && (!false))
theorem e_is_integer {T : Wd} (hf : Hf T) : (x_is_integer hf).den = fun _ s => m_is_integer s.1 := by
  funext c s
  unfold x_is_integer m_is_integer
  dsimp only [SJ.retP, EP.and, EP.isi, EP.var, EP.one, EP.not, turnF, VJ.cons, EP.ofJ, R.pbind, PM.pbind]
  repeat' (first
    | with_reducible rfl
    | refine mapc (fun _ => ?_) ?_
    | refine loopNc (fun _ _ => ?_) ?_ ?_
    | refine loopFc (fun _ _ => ?_) ?_ ?_
    | refine whileNc (fun _ => ?_) (fun _ => ?_) ?_
    | refine whileFc (fun _ => ?_) (fun _ => ?_) ?_
    | refine compc (fun _ => ?_) (fun _ => ?_) ?_
    | refine noerc ?_
    | refine bindFL ?_ (fun _ => ?_) (fun _ => ?_)
    | refine bindc ?_ (fun _ => ?_)
    | refine itec ?_ ?_ ?_
    | rfl)
def g_is_integer (value : Int) : Bool :=
  (true && (!false))
theorem h_is_integer (value : Int) : m_is_integer value = .ok (g_is_integer value) := by
  unfold m_is_integer g_is_integer
  (repeat' split) <;> rfl
theorem F_is_integer {T : Wd} (hf : Hf T) : Fn T 2 "is_integer" ["value"] (spF R T.K 1 1 [] [(0, (.sh TY.int))] (.sh TY.bool) (fun _ s => m_is_integer s.1)) := by
  obtain ⟨fd, F⟩ := hf.c.def_ 0 (d := d7) rfl
  have h := fn_ok F sc_is_integer (x_is_integer hf)
  rw [e_is_integer hf] at h
  exact Fn.mk' F (Says.glo hf 15) (FunD.bindsN F fun _ _ _ _ _ _ us hl => match us, hl with | [_], _ => rfl) h
def N_is_count : List Str := ["value"]
theorem sc_is_count : FnScope N_is_count ["value"] (defScope s8) := ⟨rfl, rfl, rfl, by decide +kernel, rfl, by decide +kernel, by decide +kernel⟩
def x_is_count {T : Wd} (hf : Hf T) : SJ R ⟨T, N_is_count, defScope s8, 2, 1, fun _ => true⟩ [] [(0, (.sh TY.int))] (defBody s8) (OZ.r [] (.sh TY.bool)) :=
  (SJ.retP (EP.and (EP.call (F_is_integer hf) (fun a => g_is_integer a.1) (fun a => h_is_integer a.1) (AP.cons (EP.var 0) (AP.nil 1))) (EP.one (EP.cmp cm2_ge (EP.var 0) EP.int))))
def m_is_count (value : Int) : R Bool :=
  pure ((g_is_integer value) && (decide (0 ≤ value)))
theorem e_is_count {T : Wd} (hf : Hf T) : (x_is_count hf).den = fun _ s => m_is_count s.1 := by
  funext c s
  unfold x_is_count m_is_count
  dsimp only [SJ.retP, EP.and, EP.call, AP.cons, EP.var, AP.nil, EP.one, EP.cmp, EP.int, turnF, VJ.cons, EP.ofJ, R.pbind, PM.pbind]
  repeat' (first
    | with_reducible rfl
    | refine mapc (fun _ => ?_) ?_
    | refine loopNc (fun _ _ => ?_) ?_ ?_
    | refine loopFc (fun _ _ => ?_) ?_ ?_
    | refine whileNc (fun _ => ?_) (fun _ => ?_) ?_
    | refine whileFc (fun _ => ?_) (fun _ => ?_) ?_
    | refine compc (fun _ => ?_) (fun _ => ?_) ?_
    | refine noerc ?_
    | refine bindFL ?_ (fun _ => ?_) (fun _ => ?_)
    | refine bindc ?_ (fun _ => ?_)
    | refine itec ?_ ?_ ?_
    | rfl)
def g_is_count (value : Int) : Bool :=
  ((g_is_integer value) && (decide (0 ≤ value)))
theorem h_is_count (value : Int) : m_is_count value = .ok (g_is_count value) := by
  unfold m_is_count g_is_count
  (repeat' split) <;> rfl
theorem F_is_count {T : Wd} (hf : Hf T) : Fn T 3 "is_count" ["value"] (spF R T.K 1 1 [] [(0, (.sh TY.int))] (.sh TY.bool) (fun _ s => m_is_count s.1)) := by
  obtain ⟨fd, F⟩ := hf.c.def_ 1 (d := d8) rfl
  have h := fn_ok F sc_is_count (x_is_count hf)
  rw [e_is_count hf] at h
  exact Fn.mk' F (Says.glo hf 16) (FunD.bindsN F fun _ _ _ _ _ _ us hl => match us, hl with | [_], _ => rfl) h
def N_is_list : List Str := ["value"]
theorem sc_is_list : FnScope N_is_list ["value"] (defScope s9) := ⟨rfl, rfl, rfl, by decide +kernel, rfl, by decide +kernel, by decide +kernel⟩
def x_is_list {T : Wd} (hf : Hf T) : SJ R ⟨T, N_is_list, defScope s9, 1, 1, fun _ => true⟩ [] [(0, (.sh (TY.list (TY.tup2 TY.int TY.int))))] (defBody s9) (OZ.r [] (.sh TY.bool)) :=
  (SJ.retP (EP.isi2 (EP.var 0) TagT.list (CE.ty "list" (Says.free hf 3) bt_list) (CE.ty "tuple" (Says.free hf 11) bt_tuple) true (kit_tys (a := "list") (b := "list") (c := "tuple") (r1 := true) (r2 := false) (by decide +kernel)) (Says.free hf 12) bt_isinstance))
def m_is_list (value : (List (Int × Int))) : R Bool :=
  pure true
theorem e_is_list {T : Wd} (hf : Hf T) : (x_is_list hf).den = fun _ s => m_is_list s.1 := by
  funext c s
  unfold x_is_list m_is_list
  dsimp only [SJ.retP, EP.isi2, EP.var, turnF, VJ.cons, EP.ofJ, R.pbind, PM.pbind]
  repeat' (first
    | with_reducible rfl
    | refine mapc (fun _ => ?_) ?_
    | refine loopNc (fun _ _ => ?_) ?_ ?_
    | refine loopFc (fun _ _ => ?_) ?_ ?_
    | refine whileNc (fun _ => ?_) (fun _ => ?_) ?_
    | refine whileFc (fun _ => ?_) (fun _ => ?_) ?_
    | refine compc (fun _ => ?_) (fun _ => ?_) ?_
    | refine noerc ?_
    | refine bindFL ?_ (fun _ => ?_) (fun _ => ?_)
    | refine bindc ?_ (fun _ => ?_)
    | refine itec ?_ ?_ ?_
    | rfl)
def g_is_list (value : (List (Int × Int))) : Bool :=
  true
theorem h_is_list (value : (List (Int × Int))) : m_is_list value = .ok (g_is_list value) := by
  unfold m_is_list g_is_list
  (repeat' split) <;> rfl
theorem F_is_list {T : Wd} (hf : Hf T) : Fn T 2 "is_list" ["value"] (spF R T.K 1 1 [] [(0, (.sh (TY.list (TY.tup2 TY.int TY.int))))] (.sh TY.bool) (fun _ s => m_is_list s.1)) := by
  obtain ⟨fd, F⟩ := hf.c.def_ 2 (d := d9) rfl
  have h := fn_ok F sc_is_list (x_is_list hf)
  rw [e_is_list hf] at h
  exact Fn.mk' F (Says.glo hf 18) (FunD.bindsN F fun _ _ _ _ _ _ us hl => match us, hl with | [_], _ => rfl) h
def N_is_thing : List Str := ["width", "value"]
theorem sc_is_thing : FnScope N_is_thing ["width", "value"] (defScope s10) := ⟨rfl, rfl, rfl, by decide +kernel, rfl, by decide +kernel, by decide +kernel⟩
def x_is_thing {T : Wd} (hf : Hf T) : SJ R ⟨T, N_is_thing, defScope s10, 3, 2, fun _ => true⟩ [] [(0, (.sh TY.int)), (1, (.sh TY.int))] (defBody s10) (OZ.r [] (.sh TY.bool)) :=
  (SJ.retP (EP.and (EP.call (F_is_count hf) (fun a => g_is_count a.1) (fun a => h_is_count a.1) (AP.cons (EP.var 1) (AP.nil 1))) (EP.one (EP.cmp cm2_lt (EP.var 1) (EP.var 0)))))
def m_is_thing (width : Int) (value : Int) : R Bool :=
  pure ((g_is_count value) && (decide (value < width)))
theorem e_is_thing {T : Wd} (hf : Hf T) : (x_is_thing hf).den = fun _ s => m_is_thing s.1 s.2.1 := by
  funext c s
  unfold x_is_thing m_is_thing
  dsimp only [SJ.retP, EP.and, EP.call, AP.cons, EP.var, AP.nil, EP.one, EP.cmp, turnF, VJ.cons, EP.ofJ, R.pbind, PM.pbind]
  repeat' (first
    | with_reducible rfl
    | refine mapc (fun _ => ?_) ?_
    | refine loopNc (fun _ _ => ?_) ?_ ?_
    | refine loopFc (fun _ _ => ?_) ?_ ?_
    | refine whileNc (fun _ => ?_) (fun _ => ?_) ?_
    | refine whileFc (fun _ => ?_) (fun _ => ?_) ?_
    | refine compc (fun _ => ?_) (fun _ => ?_) ?_
    | refine noerc ?_
    | refine bindFL ?_ (fun _ => ?_) (fun _ => ?_)
    | refine bindc ?_ (fun _ => ?_)
    | refine itec ?_ ?_ ?_
    | rfl)
def g_is_thing (width : Int) (value : Int) : Bool :=
  ((g_is_count value) && (decide (value < width)))
theorem h_is_thing (width : Int) (value : Int) : m_is_thing width value = .ok (g_is_thing width value) := by
  unfold m_is_thing g_is_thing
  (repeat' split) <;> rfl
theorem F_is_thing {T : Wd} (hf : Hf T) : Fn T 4 "is_thing" ["width", "value"] (spF R T.K 2 2 [] [(0, (.sh TY.int)), (1, (.sh TY.int))] (.sh TY.bool) (fun _ s => m_is_thing s.1 s.2.1)) := by
  obtain ⟨fd, F⟩ := hf.c.def_ 3 (d := d10) rfl
  have h := fn_ok F sc_is_thing (x_is_thing hf)
  rw [e_is_thing hf] at h
  exact Fn.mk' F (Says.glo hf 20) (FunD.bindsN F fun _ _ _ _ _ _ us hl => match us, hl with | [_, _], _ => rfl) h
def N_is_arrow : List Str := ["width", "value", "thing"]
theorem sc_is_arrow : FnScope N_is_arrow ["width", "value"] (defScope s11) := ⟨rfl, rfl, rfl, by decide +kernel, rfl, by decide +kernel, by decide +kernel⟩
def x_is_arrow {T : Wd} (hf : Hf T) : SJ R ⟨T, N_is_arrow, defScope s11, 4, 3, fun _ => true⟩ [] [(0, (.sh TY.int)), (1, (.sh (TY.tup2 TY.int TY.int)))] (defBody s11) (OZ.r [] (.sh TY.bool)) :=
  (SJ.ifRr (rwa := []) (TP.toJ (WP.T (WP.or (TP.not (EP.toT (EP.isi (EP.var 1) TagT.tup2 (CE.ty "tuple" (Says.free hf 11) bt_tuple) true (kit_ty (by decide +kernel)) (Says.free hf 12) bt_isinstance))) (WP.or (TP.cmp cm2_neI (EP.fn1 (fn_lenT (t := (TY.tup2 TY.int TY.int)) (n := fun _ => 2) (fun _ => ⟨_, rfl, rfl⟩)) (Bt.fn bt_len) (Says.free hf 5) (EP.var 1)) EP.int) (WP.or1 (TP.not (EP.toT (EP.fn1 fn_all (Bt.fn bt_all) (Says.free hf 19) (EP.lcM [("thing", 2)] (IP.tup RowU.tup2 (EP.var 1)) (TG1.name 2) (EP.call (F_is_thing hf) (fun a => g_is_thing a.1 a.2.1) (fun a => h_is_thing a.1 a.2.1) (AP.cons (EP.var 0) (AP.cons (EP.var 2) (AP.nil 2))))))))))))) (SJ.retP EP.bl) (SJ.retP (EP.cmp cm2_neI (EP.part (a := (TY.tup2 TY.int TY.int)) (b := TY.int) 0 (fun x => x.1) (EP.var 1)) (EP.part (a := (TY.tup2 TY.int TY.int)) (b := TY.int) 1 (fun x => x.2) (EP.var 1)))))
def m_is_arrow (width : Int) (value : (Int × Int)) : R Bool :=
  (if ((!true) || ((!decide ((2 : Int) = 2)) || (!(List.all (List.map (fun (y77 : Int) => (g_is_thing width y77)) [value.1, value.2]) id)))) = true then pure false else pure (!decide (value.1 = value.2)))
theorem e_is_arrow {T : Wd} (hf : Hf T) : (x_is_arrow hf).den = fun _ s => m_is_arrow s.1 s.2.1 := by
  funext c s
  unfold x_is_arrow m_is_arrow
  dsimp only [SJ.ifRr, TP.toJ, WP.T, WP.or, TP.not, EP.toT, EP.isi, EP.var, TP.cmp, EP.fn1, EP.int, WP.or1, EP.lcM, IP.tup, RowU.tup2, TG1.name, EP.call, AP.cons, AP.nil, SJ.retP, EP.bl, EP.cmp, EP.part, turnF, VJ.cons, EP.ofJ, R.pbind, PM.pbind]
  repeat' (first
    | with_reducible rfl
    | refine mapc (fun _ => ?_) ?_
    | refine loopNc (fun _ _ => ?_) ?_ ?_
    | refine loopFc (fun _ _ => ?_) ?_ ?_
    | refine whileNc (fun _ => ?_) (fun _ => ?_) ?_
    | refine whileFc (fun _ => ?_) (fun _ => ?_) ?_
    | refine compc (fun _ => ?_) (fun _ => ?_) ?_
    | refine noerc ?_
    | refine bindFL ?_ (fun _ => ?_) (fun _ => ?_)
    | refine bindc ?_ (fun _ => ?_)
    | refine itec ?_ ?_ ?_
    | rfl)
def g_is_arrow (width : Int) (value : (Int × Int)) : Bool :=
  (if ((!true) || ((!decide ((2 : Int) = 2)) || (!(List.all (List.map (fun (y77 : Int) => (g_is_thing width y77)) [value.1, value.2]) id)))) = true then false else (!decide (value.1 = value.2)))
theorem h_is_arrow (width : Int) (value : (Int × Int)) : m_is_arrow width value = .ok (g_is_arrow width value) := by
  unfold m_is_arrow g_is_arrow
  (repeat' split) <;> rfl
theorem F_is_arrow {T : Wd} (hf : Hf T) : Fn T 5 "is_arrow" ["width", "value"] (spF R T.K 2 3 [] [(0, (.sh TY.int)), (1, (.sh (TY.tup2 TY.int TY.int)))] (.sh TY.bool) (fun _ s => m_is_arrow s.1 s.2.1)) := by
  obtain ⟨fd, F⟩ := hf.c.def_ 4 (d := d11) rfl
  have h := fn_ok F sc_is_arrow (x_is_arrow hf)
  rw [e_is_arrow hf] at h
  exact Fn.mk' F (Says.glo hf 21) (FunD.bindsN F fun _ _ _ _ _ _ us hl => match us, hl with | [_, _], _ => rfl) h
def N_arrows_in : List Str := ["width", "value", "one"]
theorem sc_arrows_in : FnScope N_arrows_in ["width", "value"] (defScope s14) := ⟨rfl, rfl, rfl, by decide +kernel, rfl, by decide +kernel, by decide +kernel⟩
def x_arrows_in {T : Wd} (hf : Hf T) : SJ R ⟨T, N_arrows_in, defScope s14, 5, 3, fun _ => true⟩ [] [(0, (.sh TY.int)), (1, (.sh (TY.list (TY.tup2 TY.int TY.int))))] (defBody s14) (OZ.r [] (.sh (TY.opt (TY.list (TY.tup2 TY.int TY.int))))) :=
  (SJ.ifRr (rwa := []) (TP.toJ (WP.T (WP.or (TP.not (EP.toT (EP.call (F_is_list hf) (fun a => g_is_list a.1) (fun a => h_is_list a.1) (AP.cons (EP.var 1) (AP.nil 1))))) (WP.or1 (TP.not (EP.toT (EP.fn1 fn_all (Bt.fn bt_all) (Says.free hf 19) (EP.lcM [("one", 2)] (IP.list (EP.var 1)) (TG1.name 2) (EP.call (F_is_arrow hf) (fun a => g_is_arrow a.1 a.2.1) (fun a => h_is_arrow a.1 a.2.1) (AP.cons (EP.var 0) (AP.cons (EP.var 2) (AP.nil 2)))))))))))) (SJ.retP (EP.nonOpt (t := (TY.list (TY.tup2 TY.int TY.int))) EP.non)) (SJ.retP (EP.toOpt (EP.fnL (fl_sorted SortT.ii) (Bt.fn bt_sorted) (Says.free hf 10) (EP.var 1)))))
def m_arrows_in (width : Int) (value : (List (Int × Int))) : R (Option (List (Int × Int))) :=
  (if ((!(g_is_list value)) || (!(List.all (List.map (fun (y76 : (Int × Int)) => (g_is_arrow width y76)) value) id))) = true then pure none else pure (some (List.mergeSort value (SortT.ii).le)))
theorem e_arrows_in {T : Wd} (hf : Hf T) : (x_arrows_in hf).den = fun _ s => m_arrows_in s.1 s.2.1 := by
  funext c s
  unfold x_arrows_in m_arrows_in
  dsimp only [SJ.ifRr, TP.toJ, WP.T, WP.or, TP.not, EP.toT, EP.call, AP.cons, EP.var, AP.nil, WP.or1, EP.fn1, EP.lcM, IP.list, TG1.name, SJ.retP, EP.nonOpt, EP.non, EP.toOpt, EP.fnL, turnF, VJ.cons, EP.ofJ, R.pbind, PM.pbind]
  repeat' (first
    | with_reducible rfl
    | refine mapc (fun _ => ?_) ?_
    | refine loopNc (fun _ _ => ?_) ?_ ?_
    | refine loopFc (fun _ _ => ?_) ?_ ?_
    | refine whileNc (fun _ => ?_) (fun _ => ?_) ?_
    | refine whileFc (fun _ => ?_) (fun _ => ?_) ?_
    | refine compc (fun _ => ?_) (fun _ => ?_) ?_
    | refine noerc ?_
    | refine bindFL ?_ (fun _ => ?_) (fun _ => ?_)
    | refine bindc ?_ (fun _ => ?_)
    | refine itec ?_ ?_ ?_
    | rfl)
def g_arrows_in (width : Int) (value : (List (Int × Int))) : (Option (List (Int × Int))) :=
  (if ((!(g_is_list value)) || (!(List.all (List.map (fun (y76 : (Int × Int)) => (g_is_arrow width y76)) value) id))) = true then none else (some (List.mergeSort value (SortT.ii).le)))
theorem h_arrows_in (width : Int) (value : (List (Int × Int))) : m_arrows_in width value = .ok (g_arrows_in width value) := by
  unfold m_arrows_in g_arrows_in
  (repeat' split) <;> rfl
theorem F_arrows_in {T : Wd} (hf : Hf T) : Fn T 6 "arrows_in" ["width", "value"] (spF R T.K 2 3 [] [(0, (.sh TY.int)), (1, (.sh (TY.list (TY.tup2 TY.int TY.int))))] (.sh (TY.opt (TY.list (TY.tup2 TY.int TY.int)))) (fun _ s => m_arrows_in s.1 s.2.1)) := by
  obtain ⟨fd, F⟩ := hf.c.def_ 7 (d := d14) rfl
  have h := fn_ok F sc_arrows_in (x_arrows_in hf)
  rw [e_arrows_in hf] at h
  exact Fn.mk' F (Says.glo hf 22) (FunD.bindsN F fun _ _ _ _ _ _ us hl => match us, hl with | [_, _], _ => rfl) h
def N_all_unlike : List Str := ["some", "near", "far"]
theorem sc_all_unlike : FnScope N_all_unlike ["some"] (defScope s13) := ⟨rfl, rfl, rfl, by decide +kernel, rfl, by decide +kernel, by decide +kernel⟩
def x_all_unlike {T : Wd} (hf : Hf T) : SJ R ⟨T, N_all_unlike, defScope s13, 1, 3, fun _ => true⟩ [] [(0, (.sh (TY.list (TY.tup2 TY.int TY.int))))] (defBody s13) (OZ.r [] (.sh TY.bool)) :=
  (SJ.retP (EP.fn1 fn_all (Bt.fn bt_all) (Says.free hf 19) (EP.lcM [("near", 1), ("far", 2)] (IP.zip (EP.var 0) (EP.slice sl_lst (EP.var 0) (OP.some EP.int) OP.none) (Says.free hf 25)) (TG1.pair (TG1.name 1) (TG1.name 2)) (EP.cmp (cm2_ne (EqT.tup2 EqT.int EqT.int)) (EP.var 1) (EP.var 2)))))
def m_all_unlike (some_ : (List (Int × Int))) : R Bool :=
  pure (List.all (List.map (fun (y78 : ((Int × Int) × (Int × Int))) => (!((EqT.tup2 EqT.int EqT.int)).b y78.1 y78.2)) (List.zip some_ (cut some_ (some 1) none))) id)
theorem e_all_unlike {T : Wd} (hf : Hf T) : (x_all_unlike hf).den = fun _ s => m_all_unlike s.1 := by
  funext c s
  unfold x_all_unlike m_all_unlike
  dsimp only [SJ.retP, EP.fn1, EP.lcM, IP.zip, EP.var, EP.slice, OP.some, EP.int, OP.none, TG1.pair, TG1.name, EP.cmp, turnF, VJ.cons, EP.ofJ, R.pbind, PM.pbind]
  repeat' (first
    | with_reducible rfl
    | refine mapc (fun _ => ?_) ?_
    | refine loopNc (fun _ _ => ?_) ?_ ?_
    | refine loopFc (fun _ _ => ?_) ?_ ?_
    | refine whileNc (fun _ => ?_) (fun _ => ?_) ?_
    | refine whileFc (fun _ => ?_) (fun _ => ?_) ?_
    | refine compc (fun _ => ?_) (fun _ => ?_) ?_
    | refine noerc ?_
    | refine bindFL ?_ (fun _ => ?_) (fun _ => ?_)
    | refine bindc ?_ (fun _ => ?_)
    | refine itec ?_ ?_ ?_
    | rfl)
def g_all_unlike (some_ : (List (Int × Int))) : Bool :=
  (List.all (List.map (fun (y78 : ((Int × Int) × (Int × Int))) => (!((EqT.tup2 EqT.int EqT.int)).b y78.1 y78.2)) (List.zip some_ (cut some_ (some 1) none))) id)
theorem h_all_unlike (some_ : (List (Int × Int))) : m_all_unlike some_ = .ok (g_all_unlike some_) := by
  unfold m_all_unlike g_all_unlike
  (repeat' split) <;> rfl
theorem F_all_unlike {T : Wd} (hf : Hf T) : Fn T 2 "all_unlike" ["some"] (spF R T.K 1 3 [] [(0, (.sh (TY.list (TY.tup2 TY.int TY.int))))] (.sh TY.bool) (fun _ s => m_all_unlike s.1)) := by
  obtain ⟨fd, F⟩ := hf.c.def_ 6 (d := d13) rfl
  have h := fn_ok F sc_all_unlike (x_all_unlike hf)
  rw [e_all_unlike hf] at h
  exact Fn.mk' F (Says.glo hf 26) (FunD.bindsN F fun _ _ _ _ _ _ us hl => match us, hl with | [_], _ => rfl) h
def N_order_of : List Str := ["width", "arrows", "found", "left", "able", "thing", "start", "end"]
theorem sc_order_of : FnScope N_order_of ["width", "arrows"] (defScope s17) := ⟨rfl, rfl, rfl, by decide +kernel, rfl, by decide +kernel, by decide +kernel⟩
def x_order_of {T : Wd} (hf : Hf T) : SJ R ⟨T, N_order_of, defScope s17, 1, 8, fun _ => true⟩ [] [(0, (.sh TY.int)), (1, (.sh (TY.list (TY.tup2 TY.int TY.int))))] (defBody s17) (OZ.r [] (.sh (TY.opt (TY.list TY.int)))) :=
  (SJ.tupT (is := [2, 3]) (TN.cons (TN.cons TN.nil)) (VJ.cons (EJ.lst (LP.toLJ (LP.nil (t := TY.int)))) (VJ.cons (EJ.listRg1 (EP.toEJ (EP.var 0)) (Says.free hf 3) (Says.free hf 4)) VJ.nil)) (SJ.whileB 1000 [2, 3] (TP.toJ (TP.frz [3] (TP.cmp (cm2_ne (EqT.list EqT.int)) (EP.var 3) (EP.lst (LP.nil (t := TY.int)))))) (SJ.setC 4 (EC.share (EC.frz [3] (EC.lcF [("thing", 5)] (IP.toIJ (IP.list (EP.var 3))) (TG1.name 5) (TP.not (EP.toT (EP.fn1 fn_any (Bt.fn bt_any) (Says.free hf 27) (EP.lcM [("start", 6), ("end", 7)] (IP.list (EP.var 1)) (TG1.pair (TG1.name 6) (TG1.name 7)) (EP.and (EP.cmp cm2_eqI (EP.var 7) (EP.var 5)) (EP.one (EP.inn (in2_in EqT.int) RowT.list (EP.var 6) (EP.var 3)))))))) (EP.var 5)))) (SJ.ifR (rwa := []) (TP.toJ (TP.cmp (cm2_eq (EqT.list EqT.int)) (EP.var 4) (EP.lst (LP.nil (t := TY.int))))) (SJ.retP (EP.nonOpt (t := (TY.list TY.int)) EP.non)) (SJ.expr (EM.mu1 2 mu_append PySem.F.plainAttrs_list PySem.F.slot_list_append PySem.F.type_list_append (EJ.toM (EJ.ix ix_lst (EP.toEJ (EP.var 4)) (EP.toEJ EP.int)))) (SJ.expr (EM.mu1 3 mu_remove PySem.F.plainAttrs_list PySem.F.slot_list_remove PySem.F.type_list_remove (EJ.toM (EJ.ix ix_lst (EP.toEJ (EP.var 4)) (EP.toEJ EP.int)))) SJ.nilB)) FL.rt)) (SJ.give [2] (SJ.retP (EP.toOpt (EP.var 2)))) (fun v => v)) (fun env h => by cases env; cases h; rfl))
def m_order_of (width : Int) (arrows : (List (Int × Int))) : R (Option (List Int)) :=
  ((((optM (rgL 0 width)) >>= fun (x79 : (List Int)) => pure (x79, ())) >>= fun (a80 : (List Int) × Unit) => pure (([] : List Int), a80)) >>= fun (v81 : (List Int) × (List Int) × Unit) => ((Tp.whileF (fun (s82 : (List Int) × (List Int) × Unit) => (pure (!((EqT.list EqT.int)).b s82.2.1 ([] : List Int)) : R Bool)) (fun (s83 : (List Int) × (List Int) × Unit) => ((((Eff.noer (pure (List.map (fun (y84 : Int) => y84) (List.filter (fun (y84 : Int) => (!(List.any (List.map (fun (y85 : (Int × Int)) => ((decide (y85.2 = y84)) && ((EqT.int).mem y85.1 s83.2.1))) arrows) id))) s83.2.1)))) >>= fun (able86 : (List Int)) => (if (((EqT.list EqT.int)).b able86 ([] : List Int)) = true then pure (FL.rt none) else ((((optM (atI able86 0)) >>= fun (v87 : Int) => pure ((s83.1, s83.2.1, able86, ()), v87)) >>= fun (y88 : ((List Int) × (List Int) × (List Int) × Unit) × Int) => ((optM (appO y88.1.1 y88.2)) >>= fun (z89 : List Int × Unit) => pure ((z89.1, y88.1.2.1, y88.1.2.2.1, ()), ()))) >>= fun (y90 : ((List Int) × (List Int) × (List Int) × Unit) × Unit) => ((((optM (atI y90.1.2.2.1 0)) >>= fun (v91 : Int) => pure ((y90.1.1, y90.1.2.1, y90.1.2.2.1, ()), v91)) >>= fun (y92 : ((List Int) × (List Int) × (List Int) × Unit) × Int) => ((optM (remO y92.1.2.1 y92.2)) >>= fun (z93 : List Int × Unit) => pure ((y92.1.1, z93.1, y92.1.2.2.1, ()), ()))) >>= fun (y94 : ((List Int) × (List Int) × (List Int) × Unit) × Unit) => pure (FL.nx (y94.1.1, y94.1.2.1, y94.1.2.2.1, ())))))) >>= fun (z96 : FL ((List Int) × (List Int) × (List Int) × Unit) (Option (List Int))) => pure (FL.map (fun (e95 : (List Int) × (List Int) × (List Int) × Unit) => (e95.1, e95.2.1, ())) z96)) : R (FL ((List Int) × (List Int) × Unit) (Option (List Int))))) 1000 (v81.1, v81.2.1, ()) >>= fun (fl : FL ((List Int) × (List Int) × Unit) (Option (List Int))) => pure (FL.map (fun (m97 : (List Int) × (List Int) × Unit) => (width, arrows, m97.1, m97.2.1, ())) fl)) >>= fun (o99 : FL (Int × (List (Int × Int)) × (List Int) × (List Int) × Unit) (Option (List Int))) => match o99 with | .nx s98 => pure (some s98.2.2.1) | .rt w100 => pure w100))
theorem e_order_of {T : Wd} (hf : Hf T) : (x_order_of hf).den = fun _ s => m_order_of s.1 s.2.1 := by
  funext c s
  unfold x_order_of m_order_of
  dsimp only [SJ.tupT, VJ.cons, EJ.lst, LP.toLJ, LP.nil, EJ.listRg1, EP.toEJ, EP.var, VJ.nil, SJ.whileB, TP.toJ, TP.frz, TP.cmp, EP.lst, SJ.setC, EC.share, EC.frz, EC.lcF, IP.toIJ, IP.list, TG1.name, TP.not, EP.toT, EP.fn1, EP.lcM, TG1.pair, EP.and, EP.cmp, EP.one, EP.inn, RowT.list, SJ.ifR, SJ.retP, EP.nonOpt, EP.non, SJ.expr, EM.mu1, EJ.toM, EJ.ix, EP.int, SJ.nilB, SJ.give, EP.toOpt, turnF, VJ.cons, EP.ofJ, R.pbind, PM.pbind]
  repeat' (first
    | with_reducible rfl
    | refine mapc (fun _ => ?_) ?_
    | refine loopNc (fun _ _ => ?_) ?_ ?_
    | refine loopFc (fun _ _ => ?_) ?_ ?_
    | refine whileNc (fun _ => ?_) (fun _ => ?_) ?_
    | refine whileFc (fun _ => ?_) (fun _ => ?_) ?_
    | refine compc (fun _ => ?_) (fun _ => ?_) ?_
    | refine noerc ?_
    | refine bindFL ?_ (fun _ => ?_) (fun _ => ?_)
    | refine bindc ?_ (fun _ => ?_)
    | refine itec ?_ ?_ ?_
    | rfl)
theorem F_order_of {T : Wd} (hf : Hf T) : Fn T 2 "order_of" ["width", "arrows"] (spF R T.K 2 8 [] [(0, (.sh TY.int)), (1, (.sh (TY.list (TY.tup2 TY.int TY.int))))] (.sh (TY.opt (TY.list TY.int))) (fun _ s => m_order_of s.1 s.2.1)) := by
  obtain ⟨fd, F⟩ := hf.c.def_ 10 (d := d17) rfl
  have h := fn_ok F sc_order_of (x_order_of hf)
  rw [e_order_of hf] at h
  exact Fn.mk' F (Says.glo hf 28) (FunD.bindsN F fun _ _ _ _ _ _ us hl => match us, hl with | [_, _], _ => rfl) h
def N_are_unlike : List Str := ["width", "arrows"]
theorem sc_are_unlike : FnScope N_are_unlike ["width", "arrows"] (defScope s18) := ⟨rfl, rfl, rfl, by decide +kernel, rfl, by decide +kernel, by decide +kernel⟩
def x_are_unlike {T : Wd} (hf : Hf T) : SJ R ⟨T, N_are_unlike, defScope s18, 2, 2, fun _ => true⟩ [] [(0, (.sh TY.int)), (1, (.sh (TY.list (TY.tup2 TY.int TY.int))))] (defBody s18) (OZ.r [] (.sh TY.bool)) :=
  (SJ.ret (EJ.and (EP.toEJ (EP.call (F_all_unlike hf) (fun a => g_all_unlike a.1) (fun a => h_all_unlike a.1) (AP.cons (EP.var 1) (AP.nil 1)))) (EJ.one (EJ.cmp (cm2_notN (t := (TY.list TY.int))) (EJ.call (F_order_of hf) (AP.toJ (AP.cons (EP.var 0) (AP.cons (EP.var 1) (AP.nil 2))))) (EP.toEJ EP.non)))))
def m_are_unlike (width : Int) (arrows : (List (Int × Int))) : R Bool :=
  (if (g_all_unlike arrows) = true then ((m_order_of width arrows) >>= fun (v101 : (Option (List Int))) => pure (!(v101).isNone)) else pure false)
theorem e_are_unlike {T : Wd} (hf : Hf T) : (x_are_unlike hf).den = fun _ s => m_are_unlike s.1 s.2.1 := by
  funext c s
  unfold x_are_unlike m_are_unlike
  dsimp only [SJ.ret, EJ.and, EP.toEJ, EP.call, AP.cons, EP.var, AP.nil, EJ.one, EJ.cmp, EJ.call, AP.toJ, EP.non, turnF, VJ.cons, EP.ofJ, R.pbind, PM.pbind]
  repeat' (first
    | with_reducible rfl
    | refine mapc (fun _ => ?_) ?_
    | refine loopNc (fun _ _ => ?_) ?_ ?_
    | refine loopFc (fun _ _ => ?_) ?_ ?_
    | refine whileNc (fun _ => ?_) (fun _ => ?_) ?_
    | refine whileFc (fun _ => ?_) (fun _ => ?_) ?_
    | refine compc (fun _ => ?_) (fun _ => ?_) ?_
    | refine noerc ?_
    | refine bindFL ?_ (fun _ => ?_) (fun _ => ?_)
    | refine bindc ?_ (fun _ => ?_)
    | refine itec ?_ ?_ ?_
    | rfl)
theorem F_are_unlike {T : Wd} (hf : Hf T) : Fn T 3 "are_unlike" ["width", "arrows"] (spF R T.K 2 2 [] [(0, (.sh TY.int)), (1, (.sh (TY.list (TY.tup2 TY.int TY.int))))] (.sh TY.bool) (fun _ s => m_are_unlike s.1 s.2.1)) := by
  obtain ⟨fd, F⟩ := hf.c.def_ 11 (d := d18) rfl
  have h := fn_ok F sc_are_unlike (x_are_unlike hf)
  rw [e_are_unlike hf] at h
  exact Fn.mk' F (Says.glo hf 29) (FunD.bindsN F fun _ _ _ _ _ _ us hl => match us, hl with | [_, _], _ => rfl) h
def x_is_list1 {T : Wd} (hf : Hf T) : SJ R ⟨T, N_is_list, defScope s9, 1, 1, fun _ => true⟩ [] [(0, (.sh (TY.tupl (TY.tup2 TY.int TY.int))))] (defBody s9) (OZ.r [] (.sh TY.bool)) :=
  (SJ.retP (EP.isi2 (EP.var 0) TagT.tupl (CE.ty "list" (Says.free hf 3) bt_list) (CE.ty "tuple" (Says.free hf 11) bt_tuple) true (kit_tys (a := "tuple") (b := "list") (c := "tuple") (r1 := false) (r2 := true) (by decide +kernel)) (Says.free hf 12) bt_isinstance))
def m_is_list1 (value : (List (Int × Int))) : R Bool :=
  pure true
theorem e_is_list1 {T : Wd} (hf : Hf T) : (x_is_list1 hf).den = fun _ s => m_is_list1 s.1 := by
  funext c s
  unfold x_is_list1 m_is_list1
  dsimp only [SJ.retP, EP.isi2, EP.var, turnF, VJ.cons, EP.ofJ, R.pbind, PM.pbind]
  repeat' (first
    | with_reducible rfl
    | refine mapc (fun _ => ?_) ?_
    | refine loopNc (fun _ _ => ?_) ?_ ?_
    | refine loopFc (fun _ _ => ?_) ?_ ?_
    | refine whileNc (fun _ => ?_) (fun _ => ?_) ?_
    | refine whileFc (fun _ => ?_) (fun _ => ?_) ?_
    | refine compc (fun _ => ?_) (fun _ => ?_) ?_
    | refine noerc ?_
    | refine bindFL ?_ (fun _ => ?_) (fun _ => ?_)
    | refine bindc ?_ (fun _ => ?_)
    | refine itec ?_ ?_ ?_
    | rfl)
def g_is_list1 (value : (List (Int × Int))) : Bool :=
  true
theorem h_is_list1 (value : (List (Int × Int))) : m_is_list1 value = .ok (g_is_list1 value) := by
  unfold m_is_list1 g_is_list1
  (repeat' split) <;> rfl
theorem F_is_list1 {T : Wd} (hf : Hf T) : Fn T 2 "is_list" ["value"] (spF R T.K 1 1 [] [(0, (.sh (TY.tupl (TY.tup2 TY.int TY.int))))] (.sh TY.bool) (fun _ s => m_is_list1 s.1)) := by
  obtain ⟨fd, F⟩ := hf.c.def_ 2 (d := d9) rfl
  have h := fn_ok F sc_is_list (x_is_list1 hf)
  rw [e_is_list1 hf] at h
  exact Fn.mk' F (Says.glo hf 18) (FunD.bindsN F fun _ _ _ _ _ _ us hl => match us, hl with | [_], _ => rfl) h
def x_arrows_in1 {T : Wd} (hf : Hf T) : SJ R ⟨T, N_arrows_in, defScope s14, 5, 3, fun _ => true⟩ [] [(0, (.sh TY.int)), (1, (.sh (TY.tupl (TY.tup2 TY.int TY.int))))] (defBody s14) (OZ.r [] (.sh (TY.opt (TY.list (TY.tup2 TY.int TY.int))))) :=
  (SJ.ifRr (rwa := []) (TP.toJ (WP.T (WP.or (TP.not (EP.toT (EP.call (F_is_list1 hf) (fun a => g_is_list1 a.1) (fun a => h_is_list1 a.1) (AP.cons (EP.var 1) (AP.nil 1))))) (WP.or1 (TP.not (EP.toT (EP.fn1 fn_all (Bt.fn bt_all) (Says.free hf 19) (EP.lcM [("one", 2)] (IP.tup RowU.tupl (EP.var 1)) (TG1.name 2) (EP.call (F_is_arrow hf) (fun a => g_is_arrow a.1 a.2.1) (fun a => h_is_arrow a.1 a.2.1) (AP.cons (EP.var 0) (AP.cons (EP.var 2) (AP.nil 2)))))))))))) (SJ.retP (EP.nonOpt (t := (TY.list (TY.tup2 TY.int TY.int))) EP.non)) (SJ.retP (EP.toOpt (EP.fnL (fl_sortedT SortT.ii) (Bt.fn bt_sorted) (Says.free hf 10) (EP.var 1)))))
def m_arrows_in1 (width : Int) (value : (List (Int × Int))) : R (Option (List (Int × Int))) :=
  (if ((!(g_is_list1 value)) || (!(List.all (List.map (fun (y108 : (Int × Int)) => (g_is_arrow width y108)) value) id))) = true then pure none else pure (some (List.mergeSort value (SortT.ii).le)))
theorem e_arrows_in1 {T : Wd} (hf : Hf T) : (x_arrows_in1 hf).den = fun _ s => m_arrows_in1 s.1 s.2.1 := by
  funext c s
  unfold x_arrows_in1 m_arrows_in1
  dsimp only [SJ.ifRr, TP.toJ, WP.T, WP.or, TP.not, EP.toT, EP.call, AP.cons, EP.var, AP.nil, WP.or1, EP.fn1, EP.lcM, IP.tup, RowU.tupl, TG1.name, SJ.retP, EP.nonOpt, EP.non, EP.toOpt, EP.fnL, turnF, VJ.cons, EP.ofJ, R.pbind, PM.pbind]
  repeat' (first
    | with_reducible rfl
    | refine mapc (fun _ => ?_) ?_
    | refine loopNc (fun _ _ => ?_) ?_ ?_
    | refine loopFc (fun _ _ => ?_) ?_ ?_
    | refine whileNc (fun _ => ?_) (fun _ => ?_) ?_
    | refine whileFc (fun _ => ?_) (fun _ => ?_) ?_
    | refine compc (fun _ => ?_) (fun _ => ?_) ?_
    | refine noerc ?_
    | refine bindFL ?_ (fun _ => ?_) (fun _ => ?_)
    | refine bindc ?_ (fun _ => ?_)
    | refine itec ?_ ?_ ?_
    | rfl)
def g_arrows_in1 (width : Int) (value : (List (Int × Int))) : (Option (List (Int × Int))) :=
  (if ((!(g_is_list1 value)) || (!(List.all (List.map (fun (y108 : (Int × Int)) => (g_is_arrow width y108)) value) id))) = true then none else (some (List.mergeSort value (SortT.ii).le)))
theorem h_arrows_in1 (width : Int) (value : (List (Int × Int))) : m_arrows_in1 width value = .ok (g_arrows_in1 width value) := by
  unfold m_arrows_in1 g_arrows_in1
  (repeat' split) <;> rfl
theorem F_arrows_in1 {T : Wd} (hf : Hf T) : Fn T 6 "arrows_in" ["width", "value"] (spF R T.K 2 3 [] [(0, (.sh TY.int)), (1, (.sh (TY.tupl (TY.tup2 TY.int TY.int))))] (.sh (TY.opt (TY.list (TY.tup2 TY.int TY.int)))) (fun _ s => m_arrows_in1 s.1 s.2.1)) := by
  obtain ⟨fd, F⟩ := hf.c.def_ 7 (d := d14) rfl
  have h := fn_ok F sc_arrows_in (x_arrows_in1 hf)
  rw [e_arrows_in1 hf] at h
  exact Fn.mk' F (Says.glo hf 22) (FunD.bindsN F fun _ _ _ _ _ _ us hl => match us, hl with | [_, _], _ => rfl) h
def N_is_tie : List Str := ["width", "value"]
theorem sc_is_tie : FnScope N_is_tie ["width", "value"] (defScope s12) := ⟨rfl, rfl, rfl, by decide +kernel, rfl, by decide +kernel, by decide +kernel⟩
def x_is_tie {T : Wd} (hf : Hf T) : SJ R ⟨T, N_is_tie, defScope s12, 5, 2, fun _ => true⟩ [] [(0, (.sh TY.int)), (1, (.sh (TY.tup2 TY.int TY.int)))] (defBody s12) (OZ.r [] (.sh TY.bool)) :=
  (SJ.retP (EP.and (EP.call (F_is_arrow hf) (fun a => g_is_arrow a.1 a.2.1) (fun a => h_is_arrow a.1 a.2.1) (AP.cons (EP.var 0) (AP.cons (EP.var 1) (AP.nil 2)))) (EP.one (EP.cmp cm2_lt (EP.part (a := (TY.tup2 TY.int TY.int)) (b := TY.int) 0 (fun x => x.1) (EP.var 1)) (EP.part (a := (TY.tup2 TY.int TY.int)) (b := TY.int) 1 (fun x => x.2) (EP.var 1))))))
def m_is_tie (width : Int) (value : (Int × Int)) : R Bool :=
  pure ((g_is_arrow width value) && (decide (value.1 < value.2)))
theorem e_is_tie {T : Wd} (hf : Hf T) : (x_is_tie hf).den = fun _ s => m_is_tie s.1 s.2.1 := by
  funext c s
  unfold x_is_tie m_is_tie
  dsimp only [SJ.retP, EP.and, EP.call, AP.cons, EP.var, AP.nil, EP.one, EP.cmp, EP.part, turnF, VJ.cons, EP.ofJ, R.pbind, PM.pbind]
  repeat' (first
    | with_reducible rfl
    | refine mapc (fun _ => ?_) ?_
    | refine loopNc (fun _ _ => ?_) ?_ ?_
    | refine loopFc (fun _ _ => ?_) ?_ ?_
    | refine whileNc (fun _ => ?_) (fun _ => ?_) ?_
    | refine whileFc (fun _ => ?_) (fun _ => ?_) ?_
    | refine compc (fun _ => ?_) (fun _ => ?_) ?_
    | refine noerc ?_
    | refine bindFL ?_ (fun _ => ?_) (fun _ => ?_)
    | refine bindc ?_ (fun _ => ?_)
    | refine itec ?_ ?_ ?_
    | rfl)
def g_is_tie (width : Int) (value : (Int × Int)) : Bool :=
  ((g_is_arrow width value) && (decide (value.1 < value.2)))
theorem h_is_tie (width : Int) (value : (Int × Int)) : m_is_tie width value = .ok (g_is_tie width value) := by
  unfold m_is_tie g_is_tie
  (repeat' split) <;> rfl
theorem F_is_tie {T : Wd} (hf : Hf T) : Fn T 6 "is_tie" ["width", "value"] (spF R T.K 2 2 [] [(0, (.sh TY.int)), (1, (.sh (TY.tup2 TY.int TY.int)))] (.sh TY.bool) (fun _ s => m_is_tie s.1 s.2.1)) := by
  obtain ⟨fd, F⟩ := hf.c.def_ 5 (d := d12) rfl
  have h := fn_ok F sc_is_tie (x_is_tie hf)
  rw [e_is_tie hf] at h
  exact Fn.mk' F (Says.glo hf 30) (FunD.bindsN F fun _ _ _ _ _ _ us hl => match us, hl with | [_, _], _ => rfl) h
def N_ties_in : List Str := ["width", "value", "found", "one"]
theorem sc_ties_in : FnScope N_ties_in ["width", "value"] (defScope s15) := ⟨rfl, rfl, rfl, by decide +kernel, rfl, by decide +kernel, by decide +kernel⟩
def x_ties_in {T : Wd} (hf : Hf T) : SJ R ⟨T, N_ties_in, defScope s15, 6, 4, fun _ => true⟩ [] [(0, (.sh TY.int)), (1, (.sh (TY.tupl (TY.tup2 TY.int TY.int))))] (defBody s15) (OZ.r [] (.sh (TY.opt (TY.list (TY.tup2 TY.int TY.int))))) :=
  (SJ.setP 2 (EP.call (F_arrows_in1 hf) (fun a => g_arrows_in1 a.1 a.2.1) (fun a => h_arrows_in1 a.1 a.2.1) (AP.cons (EP.var 0) (AP.cons (EP.var 1) (AP.nil 2)))) (SJ.ret (EJ.ite (WJ.T (WJ.and (TP.toJ (TP.cmp (cm2_notN (t := (TY.list (TY.tup2 TY.int TY.int)))) (EP.var 2) EP.non)) (WJ.and1 (EJ.toT (EJ.fn1 fn_all (Bt.fn bt_all) (Says.free hf 19) (EJ.share (EJ.lcM [("one", 3)] (IJ.list (EJ.unopt (EP.toEJ (EP.var 2)))) (TG1.name 3) (EP.call (F_is_tie hf) (fun a => g_is_tie a.1 a.2.1) (fun a => h_is_tie a.1 a.2.1) (AP.cons (EP.var 0) (AP.cons (EP.var 3) (AP.nil 2))))))))))) (EP.toEJ (EP.var 2)) (EP.toEJ (EP.nonOpt (t := (TY.list (TY.tup2 TY.int TY.int))) EP.non)))))
def m_ties_in (width : Int) (value : (List (Int × Int))) : R (Option (List (Int × Int))) :=
  ((if (!((g_arrows_in1 width value)).isNone) = true then (((optM (g_arrows_in1 width value)) >>= fun (l110 : List (Int × Int)) => pure (List.map (fun (y109 : (Int × Int)) => (g_is_tie width y109)) l110)) >>= fun (v111 : (List Bool)) => pure (List.all v111 id)) else pure false) >>= fun (b112 : Bool) => (if b112 = true then pure (g_arrows_in1 width value) else pure none))
theorem e_ties_in {T : Wd} (hf : Hf T) : (x_ties_in hf).den = fun _ s => m_ties_in s.1 s.2.1 := by
  funext c s
  unfold x_ties_in m_ties_in
  dsimp only [SJ.setP, EP.call, AP.cons, EP.var, AP.nil, SJ.ret, EJ.ite, WJ.T, WJ.and, TP.toJ, TP.cmp, EP.non, WJ.and1, EJ.toT, EJ.fn1, EJ.share, EJ.lcM, IJ.list, EJ.unopt, EP.toEJ, TG1.name, EP.nonOpt, turnF, VJ.cons, EP.ofJ, R.pbind, PM.pbind]
  repeat' (first
    | with_reducible rfl
    | refine mapc (fun _ => ?_) ?_
    | refine loopNc (fun _ _ => ?_) ?_ ?_
    | refine loopFc (fun _ _ => ?_) ?_ ?_
    | refine whileNc (fun _ => ?_) (fun _ => ?_) ?_
    | refine whileFc (fun _ => ?_) (fun _ => ?_) ?_
    | refine compc (fun _ => ?_) (fun _ => ?_) ?_
    | refine noerc ?_
    | refine bindFL ?_ (fun _ => ?_) (fun _ => ?_)
    | refine bindc ?_ (fun _ => ?_)
    | refine itec ?_ ?_ ?_
    | rfl)
theorem F_ties_in {T : Wd} (hf : Hf T) : Fn T 7 "ties_in" ["width", "value"] (spF R T.K 2 4 [] [(0, (.sh TY.int)), (1, (.sh (TY.tupl (TY.tup2 TY.int TY.int))))] (.sh (TY.opt (TY.list (TY.tup2 TY.int TY.int)))) (fun _ s => m_ties_in s.1 s.2.1)) := by
  obtain ⟨fd, F⟩ := hf.c.def_ 8 (d := d15) rfl
  have h := fn_ok F sc_ties_in (x_ties_in hf)
  rw [e_ties_in hf] at h
  exact Fn.mk' F (Says.glo hf 31) (FunD.bindsN F fun _ _ _ _ _ _ us hl => match us, hl with | [_, _], _ => rfl) h
def N_Plan_init : List Str := ["self", "size", "arrows", "ties"]
theorem sc_Plan_init : FnScope N_Plan_init ["self", "size", "arrows", "ties"] (defScope s20) := ⟨rfl, rfl, rfl, by decide +kernel, rfl, by decide +kernel, by decide +kernel⟩
def x_Plan_init {T : Wd} (hf : Hf T) : SJ R ⟨T, N_Plan_init, defScope s20, 7, 0, fun _ => true⟩ [] [(0, (.oi "Plan" [])), (1, (.sh TY.int)), (2, (.sh (TY.list (TY.tup2 TY.int TY.int)))), (3, (.sh (TY.tupl (TY.tup2 TY.int TY.int))))] (defBody s20) (OZ.n [(0, (.oi "Plan" [("own_width", TY.int), ("own_arrows", (TY.opt (TY.list (TY.tup2 TY.int TY.int)))), ("own_ties", (TY.opt (TY.list (TY.tup2 TY.int TY.int))))])), (1, (.sh TY.int)), (2, (.sh (TY.list (TY.tup2 TY.int TY.int)))), (3, (.sh (TY.tupl (TY.tup2 TY.int TY.int))))] (.sh .non)) :=
  (SJ.ifN (TP.toJ (EP.toT (EP.isi (EP.var 1) TagT.int (CE.cls (He.ga T.K "Known") (Says.glo hf 13)) false (kitT_ok (hf.c.factB 0 (f := Fb.kitT "int" "Known" false))) (Says.free hf 12) bt_isinstance))) SJ.never (SJ.ifN (TP.toJ (WP.T (WP.or (TP.not (EP.toT (EP.call (F_is_count hf) (fun a => g_is_count a.1) (fun a => h_is_count a.1) (AP.cons (EP.var 1) (AP.nil 1))))) (WP.or1 (TP.cmp cm2_gt (EP.var 1) (EP.gint 6 (Says.int hf 17))))))) SJ.never SJ.nil (SJ.setF 0 (fs := []) (fs' := [("own_width", TY.int)]) (EP.toEJ (EP.var 1)) (Says.fld hf 23 33) (fun (y : FT []) (z : Int) => ((z, ()) : FT [("own_width", TY.int)])) (SJ.setF 0 (fs := [("own_width", TY.int)]) (fs' := [("own_width", TY.int), ("own_arrows", (TY.opt (TY.list (TY.tup2 TY.int TY.int))))]) (EP.toEJ (EP.call (F_arrows_in hf) (fun a => g_arrows_in a.1 a.2.1) (fun a => h_arrows_in a.1 a.2.1) (AP.cons (EP.var 1) (AP.cons (EP.var 2) (AP.nil 2))))) (Says.fld hf 23 24) (fun (y : FT [("own_width", TY.int)]) (z : (Option (List (Int × Int)))) => ((y.1, z, ()) : FT [("own_width", TY.int), ("own_arrows", (TY.opt (TY.list (TY.tup2 TY.int TY.int))))])) (SJ.ifN (WJ.T (WJ.or (TP.toJ (TP.cmp (cm2_isN (t := (TY.list (TY.tup2 TY.int TY.int)))) (EP.fldO 0 (fs := [("own_width", TY.int), ("own_arrows", (TY.opt (TY.list (TY.tup2 TY.int TY.int))))]) (t := (TY.opt (TY.list (TY.tup2 TY.int TY.int)))) (Says.fld hf 23 24) (fun x => x.2.1)) EP.non)) (WJ.or1 (TJ.not (EJ.toT (EJ.call (F_are_unlike hf) (AJ.consP (EP.var 1) (AJ.cons (EJ.unopt (EP.toEJ (EP.fldO 0 (fs := [("own_width", TY.int), ("own_arrows", (TY.opt (TY.list (TY.tup2 TY.int TY.int))))]) (t := (TY.opt (TY.list (TY.tup2 TY.int TY.int)))) (Says.fld hf 23 24) (fun x => x.2.1)))) (AJ.nil 2))))))))) SJ.never SJ.nil (SJ.setF 0 (fs := [("own_width", TY.int), ("own_arrows", (TY.opt (TY.list (TY.tup2 TY.int TY.int))))]) (fs' := [("own_width", TY.int), ("own_arrows", (TY.opt (TY.list (TY.tup2 TY.int TY.int)))), ("own_ties", (TY.opt (TY.list (TY.tup2 TY.int TY.int))))]) (EJ.call (F_ties_in hf) (AP.toJ (AP.cons (EP.var 1) (AP.cons (EP.var 3) (AP.nil 2))))) (Says.fld hf 23 32) (fun (y : FT [("own_width", TY.int), ("own_arrows", (TY.opt (TY.list (TY.tup2 TY.int TY.int))))]) (z : (Option (List (Int × Int)))) => ((y.1, y.2.1, z, ()) : FT [("own_width", TY.int), ("own_arrows", (TY.opt (TY.list (TY.tup2 TY.int TY.int)))), ("own_ties", (TY.opt (TY.list (TY.tup2 TY.int TY.int))))])) (SJ.ifN (WJ.T (WJ.or (TP.toJ (TP.cmp (cm2_isN (t := (TY.list (TY.tup2 TY.int TY.int)))) (EP.fldO 0 (fs := [("own_width", TY.int), ("own_arrows", (TY.opt (TY.list (TY.tup2 TY.int TY.int)))), ("own_ties", (TY.opt (TY.list (TY.tup2 TY.int TY.int))))]) (t := (TY.opt (TY.list (TY.tup2 TY.int TY.int)))) (Says.fld hf 23 32) (fun x => x.2.2.1)) EP.non)) (WJ.or1 (TJ.not (EJ.toT (EJ.call (F_all_unlike hf) (AJ.cons (EJ.unopt (EP.toEJ (EP.fldO 0 (fs := [("own_width", TY.int), ("own_arrows", (TY.opt (TY.list (TY.tup2 TY.int TY.int)))), ("own_ties", (TY.opt (TY.list (TY.tup2 TY.int TY.int))))]) (t := (TY.opt (TY.list (TY.tup2 TY.int TY.int)))) (Says.fld hf 23 32) (fun x => x.2.2.1)))) (AJ.nil 1)))))))) SJ.never SJ.nil SJ.nil)))))) SJ.nil)
def m_Plan_init (size : Int) (arrows : (List (Int × Int))) (ties : (List (Int × Int))) : R (Int × (Option (List (Int × Int))) × (Option (List (Int × Int))) × Unit) :=
  R.map (fun (e : (Int × (Option (List (Int × Int))) × (Option (List (Int × Int))) × Unit) × Int × (List (Int × Int)) × (List (Int × Int)) × Unit) => e.1) (((if ((!(g_is_count size)) || (decide (6 < size))) = true then Eff.bad else pure ((), size, arrows, ties, ())) >>= fun (s75 : (Unit) × Int × (List (Int × Int)) × (List (Int × Int)) × Unit) => (((if ((g_arrows_in s75.2.1 s75.2.2.1)).isNone = true then pure true else (((((optM (g_arrows_in s75.2.1 s75.2.2.1)) >>= fun (x102 : (List (Int × Int))) => pure (x102, ())) >>= fun (a103 : (List (Int × Int)) × Unit) => pure (s75.2.1, a103)) >>= fun (a104 : Int × (List (Int × Int)) × Unit) => (m_are_unlike a104.1 a104.2.1)) >>= fun (v105 : Bool) => pure (!v105))) >>= fun (b106 : Bool) => (if b106 = true then Eff.bad else pure ((s75.2.1, (g_arrows_in s75.2.1 s75.2.2.1), ()), s75.2.1, s75.2.2.1, s75.2.2.2.1, ()))) >>= fun (s107 : (Int × (Option (List (Int × Int))) × Unit) × Int × (List (Int × Int)) × (List (Int × Int)) × Unit) => ((m_ties_in s107.2.1 s107.2.2.2.1) >>= fun (own_ties113 : (Option (List (Int × Int)))) => (((if (own_ties113).isNone = true then pure true else ((((optM own_ties113) >>= fun (x114 : (List (Int × Int))) => pure (x114, ())) >>= fun (a115 : (List (Int × Int)) × Unit) => (m_all_unlike a115.1)) >>= fun (v116 : Bool) => pure (!v116))) >>= fun (b117 : Bool) => (if b117 = true then Eff.bad else pure ((s107.1.1, s107.1.2.1, own_ties113, ()), s107.2.1, s107.2.2.1, s107.2.2.2.1, ()))) >>= fun (s118 : (Int × (Option (List (Int × Int))) × (Option (List (Int × Int))) × Unit) × Int × (List (Int × Int)) × (List (Int × Int)) × Unit) => pure (s118.1, s118.2.1, s118.2.2.1, s118.2.2.2.1, ()))))) >>= fun (s119 : (Int × (Option (List (Int × Int))) × (Option (List (Int × Int))) × Unit) × Int × (List (Int × Int)) × (List (Int × Int)) × Unit) => pure (s119.1, s119.2.1, s119.2.2.1, s119.2.2.2.1, ()))
theorem e_Plan_init {T : Wd} (hf : Hf T) : (fun s => R.map (fun e => cast (congrArg SE.T (rfl : at_ 0 [(0, (.oi "Plan" [("own_width", TY.int), ("own_arrows", (TY.opt (TY.list (TY.tup2 TY.int TY.int)))), ("own_ties", (TY.opt (TY.list (TY.tup2 TY.int TY.int))))])), (1, (.sh TY.int)), (2, (.sh (TY.list (TY.tup2 TY.int TY.int)))), (3, (.sh (TY.tupl (TY.tup2 TY.int TY.int))))] = .oi "Plan" [("own_width", TY.int), ("own_arrows", (TY.opt (TY.list (TY.tup2 TY.int TY.int)))), ("own_ties", (TY.opt (TY.list (TY.tup2 TY.int TY.int))))])) (ST.get 0 [(0, (.oi "Plan" [("own_width", TY.int), ("own_arrows", (TY.opt (TY.list (TY.tup2 TY.int TY.int)))), ("own_ties", (TY.opt (TY.list (TY.tup2 TY.int TY.int))))])), (1, (.sh TY.int)), (2, (.sh (TY.list (TY.tup2 TY.int TY.int)))), (3, (.sh (TY.tupl (TY.tup2 TY.int TY.int))))] e)) ((x_Plan_init hf).den () s)) = (fun s : ST [(0, (.oi "Plan" [])), (1, (.sh TY.int)), (2, (.sh (TY.list (TY.tup2 TY.int TY.int)))), (3, (.sh (TY.tupl (TY.tup2 TY.int TY.int))))] => m_Plan_init s.2.1 s.2.2.1 s.2.2.2.1) := by
  funext s
  unfold x_Plan_init m_Plan_init
  dsimp only [SJ.ifN, TP.toJ, EP.toT, EP.isi, EP.var, SJ.never, WP.T, WP.or, TP.not, EP.call, AP.cons, AP.nil, WP.or1, TP.cmp, EP.gint, SJ.nil, SJ.setF, EP.toEJ, WJ.T, WJ.or, EP.fldO, EP.non, WJ.or1, TJ.not, EJ.toT, EJ.call, AJ.consP, AJ.cons, EJ.unopt, AJ.nil, AP.toJ, turnF, VJ.cons, EP.ofJ, R.pbind, PM.pbind]
  repeat' (first
    | with_reducible rfl
    | refine mapc (fun _ => ?_) ?_
    | refine loopNc (fun _ _ => ?_) ?_ ?_
    | refine loopFc (fun _ _ => ?_) ?_ ?_
    | refine whileNc (fun _ => ?_) (fun _ => ?_) ?_
    | refine whileFc (fun _ => ?_) (fun _ => ?_) ?_
    | refine compc (fun _ => ?_) (fun _ => ?_) ?_
    | refine noerc ?_
    | refine bindFL ?_ (fun _ => ?_) (fun _ => ?_)
    | refine bindc ?_ (fun _ => ?_)
    | refine itec ?_ ?_ ?_
    | rfl)
theorem F_Plan_init {T : Wd} (hf : Hf T) : Ini T 8 "Plan" ["self", "size", "arrows", "ties"] 4 (spI T.K 4 0 [(0, (.oi "Plan" [])), (1, (.sh TY.int)), (2, (.sh (TY.list (TY.tup2 TY.int TY.int)))), (3, (.sh (TY.tupl (TY.tup2 TY.int TY.int))))] "Plan" [("own_width", TY.int), ("own_arrows", (TY.opt (TY.list (TY.tup2 TY.int TY.int)))), ("own_ties", (TY.opt (TY.list (TY.tup2 TY.int TY.int))))] (fun s => m_Plan_init s.2.1 s.2.2.1 s.2.2.2.1)) := by
  obtain ⟨fd, F⟩ := hf.c.def_ 12 (d := d20) rfl
  obtain ⟨ds, h1, h2⟩ := (FunD.binds1 (ps := ["self", "size", "arrows", "ties"]) F 4 2 (by exact fun h => nomatch h) rfl fun _ _ _ _ _ _ _ us its h1 h2 => match us, its, h1, h2 with | [_, _, _, _], [_, _], _, _ => ⟨_, rfl, by rfl⟩)
  have h := init_ok (fs := [("own_width", TY.int), ("own_arrows", (TY.opt (TY.list (TY.tup2 TY.int TY.int)))), ("own_ties", (TY.opt (TY.list (TY.tup2 TY.int TY.int))))]) F sc_Plan_init (x_Plan_init hf) rfl (by decide)
  rw [e_Plan_init hf] at h
  exact ⟨_, fd, ds, _, (Says.glo hf 34), He.mkr_ok (hf.c.fact 35), h, h2, h1, rfl⟩
def as_Plan_init (p : FT [("own_width", TY.int), ("own_arrows", (TY.opt (TY.list (TY.tup2 TY.int TY.int)))), ("own_ties", (TY.opt (TY.list (TY.tup2 TY.int TY.int))))]) : Option (FT [("own_width", TY.int), ("own_arrows", (TY.list (TY.tup2 TY.int TY.int))), ("own_ties", (TY.list (TY.tup2 TY.int TY.int)))]) := Option.bind p.2.1 fun q1 => Option.bind p.2.2.1 fun q2 => some (p.1, q1, q2, ())
theorem as_Plan_init_ok : ∀ x y, as_Plan_init x = some y → FT.enc [("own_width", TY.int), ("own_arrows", (TY.list (TY.tup2 TY.int TY.int))), ("own_ties", (TY.list (TY.tup2 TY.int TY.int)))] y = FT.enc [("own_width", TY.int), ("own_arrows", (TY.opt (TY.list (TY.tup2 TY.int TY.int)))), ("own_ties", (TY.opt (TY.list (TY.tup2 TY.int TY.int))))] x := by
  rintro ⟨q0, q1, q2, u⟩ y h
  cases q1 <;> cases q2 <;> first | (cases h; rfl) | (cases h)
def x_ties_in1 {T : Wd} (hf : Hf T) : SJ R ⟨T, N_ties_in, defScope s15, 6, 4, fun _ => true⟩ [] [(0, (.sh TY.int)), (1, (.sh (TY.list (TY.tup2 TY.int TY.int))))] (defBody s15) (OZ.r [] (.sh (TY.opt (TY.list (TY.tup2 TY.int TY.int))))) :=
  (SJ.setP 2 (EP.call (F_arrows_in hf) (fun a => g_arrows_in a.1 a.2.1) (fun a => h_arrows_in a.1 a.2.1) (AP.cons (EP.var 0) (AP.cons (EP.var 1) (AP.nil 2)))) (SJ.ret (EJ.ite (WJ.T (WJ.and (TP.toJ (TP.cmp (cm2_notN (t := (TY.list (TY.tup2 TY.int TY.int)))) (EP.var 2) EP.non)) (WJ.and1 (EJ.toT (EJ.fn1 fn_all (Bt.fn bt_all) (Says.free hf 19) (EJ.share (EJ.lcM [("one", 3)] (IJ.list (EJ.unopt (EP.toEJ (EP.var 2)))) (TG1.name 3) (EP.call (F_is_tie hf) (fun a => g_is_tie a.1 a.2.1) (fun a => h_is_tie a.1 a.2.1) (AP.cons (EP.var 0) (AP.cons (EP.var 3) (AP.nil 2))))))))))) (EP.toEJ (EP.var 2)) (EP.toEJ (EP.nonOpt (t := (TY.list (TY.tup2 TY.int TY.int))) EP.non)))))
def m_ties_in1 (width : Int) (value : (List (Int × Int))) : R (Option (List (Int × Int))) :=
  ((if (!((g_arrows_in width value)).isNone) = true then (((optM (g_arrows_in width value)) >>= fun (l130 : List (Int × Int)) => pure (List.map (fun (y129 : (Int × Int)) => (g_is_tie width y129)) l130)) >>= fun (v131 : (List Bool)) => pure (List.all v131 id)) else pure false) >>= fun (b132 : Bool) => (if b132 = true then pure (g_arrows_in width value) else pure none))
theorem e_ties_in1 {T : Wd} (hf : Hf T) : (x_ties_in1 hf).den = fun _ s => m_ties_in1 s.1 s.2.1 := by
  funext c s
  unfold x_ties_in1 m_ties_in1
  dsimp only [SJ.setP, EP.call, AP.cons, EP.var, AP.nil, SJ.ret, EJ.ite, WJ.T, WJ.and, TP.toJ, TP.cmp, EP.non, WJ.and1, EJ.toT, EJ.fn1, EJ.share, EJ.lcM, IJ.list, EJ.unopt, EP.toEJ, TG1.name, EP.nonOpt, turnF, VJ.cons, EP.ofJ, R.pbind, PM.pbind]
  repeat' (first
    | with_reducible rfl
    | refine mapc (fun _ => ?_) ?_
    | refine loopNc (fun _ _ => ?_) ?_ ?_
    | refine loopFc (fun _ _ => ?_) ?_ ?_
    | refine whileNc (fun _ => ?_) (fun _ => ?_) ?_
    | refine whileFc (fun _ => ?_) (fun _ => ?_) ?_
    | refine compc (fun _ => ?_) (fun _ => ?_) ?_
    | refine noerc ?_
    | refine bindFL ?_ (fun _ => ?_) (fun _ => ?_)
    | refine bindc ?_ (fun _ => ?_)
    | refine itec ?_ ?_ ?_
    | rfl)
theorem F_ties_in1 {T : Wd} (hf : Hf T) : Fn T 7 "ties_in" ["width", "value"] (spF R T.K 2 4 [] [(0, (.sh TY.int)), (1, (.sh (TY.list (TY.tup2 TY.int TY.int))))] (.sh (TY.opt (TY.list (TY.tup2 TY.int TY.int)))) (fun _ s => m_ties_in1 s.1 s.2.1)) := by
  obtain ⟨fd, F⟩ := hf.c.def_ 8 (d := d15) rfl
  have h := fn_ok F sc_ties_in (x_ties_in1 hf)
  rw [e_ties_in1 hf] at h
  exact Fn.mk' F (Says.glo hf 31) (FunD.bindsN F fun _ _ _ _ _ _ us hl => match us, hl with | [_, _], _ => rfl) h
def x_Plan_init1 {T : Wd} (hf : Hf T) : SJ R ⟨T, N_Plan_init, defScope s20, 7, 0, fun _ => true⟩ [] [(0, (.oi "Plan" [])), (1, (.sh TY.int)), (2, (.sh (TY.list (TY.tup2 TY.int TY.int)))), (3, (.sh (TY.list (TY.tup2 TY.int TY.int))))] (defBody s20) (OZ.n [(0, (.oi "Plan" [("own_width", TY.int), ("own_arrows", (TY.opt (TY.list (TY.tup2 TY.int TY.int)))), ("own_ties", (TY.opt (TY.list (TY.tup2 TY.int TY.int))))])), (1, (.sh TY.int)), (2, (.sh (TY.list (TY.tup2 TY.int TY.int)))), (3, (.sh (TY.list (TY.tup2 TY.int TY.int))))] (.sh .non)) :=
  (SJ.ifN (TP.toJ (EP.toT (EP.isi (EP.var 1) TagT.int (CE.cls (He.ga T.K "Known") (Says.glo hf 13)) false (kitT_ok (hf.c.factB 0 (f := Fb.kitT "int" "Known" false))) (Says.free hf 12) bt_isinstance))) SJ.never (SJ.ifN (TP.toJ (WP.T (WP.or (TP.not (EP.toT (EP.call (F_is_count hf) (fun a => g_is_count a.1) (fun a => h_is_count a.1) (AP.cons (EP.var 1) (AP.nil 1))))) (WP.or1 (TP.cmp cm2_gt (EP.var 1) (EP.gint 6 (Says.int hf 17))))))) SJ.never SJ.nil (SJ.setF 0 (fs := []) (fs' := [("own_width", TY.int)]) (EP.toEJ (EP.var 1)) (Says.fld hf 23 33) (fun (y : FT []) (z : Int) => ((z, ()) : FT [("own_width", TY.int)])) (SJ.setF 0 (fs := [("own_width", TY.int)]) (fs' := [("own_width", TY.int), ("own_arrows", (TY.opt (TY.list (TY.tup2 TY.int TY.int))))]) (EP.toEJ (EP.call (F_arrows_in hf) (fun a => g_arrows_in a.1 a.2.1) (fun a => h_arrows_in a.1 a.2.1) (AP.cons (EP.var 1) (AP.cons (EP.var 2) (AP.nil 2))))) (Says.fld hf 23 24) (fun (y : FT [("own_width", TY.int)]) (z : (Option (List (Int × Int)))) => ((y.1, z, ()) : FT [("own_width", TY.int), ("own_arrows", (TY.opt (TY.list (TY.tup2 TY.int TY.int))))])) (SJ.ifN (WJ.T (WJ.or (TP.toJ (TP.cmp (cm2_isN (t := (TY.list (TY.tup2 TY.int TY.int)))) (EP.fldO 0 (fs := [("own_width", TY.int), ("own_arrows", (TY.opt (TY.list (TY.tup2 TY.int TY.int))))]) (t := (TY.opt (TY.list (TY.tup2 TY.int TY.int)))) (Says.fld hf 23 24) (fun x => x.2.1)) EP.non)) (WJ.or1 (TJ.not (EJ.toT (EJ.call (F_are_unlike hf) (AJ.consP (EP.var 1) (AJ.cons (EJ.unopt (EP.toEJ (EP.fldO 0 (fs := [("own_width", TY.int), ("own_arrows", (TY.opt (TY.list (TY.tup2 TY.int TY.int))))]) (t := (TY.opt (TY.list (TY.tup2 TY.int TY.int)))) (Says.fld hf 23 24) (fun x => x.2.1)))) (AJ.nil 2))))))))) SJ.never SJ.nil (SJ.setF 0 (fs := [("own_width", TY.int), ("own_arrows", (TY.opt (TY.list (TY.tup2 TY.int TY.int))))]) (fs' := [("own_width", TY.int), ("own_arrows", (TY.opt (TY.list (TY.tup2 TY.int TY.int)))), ("own_ties", (TY.opt (TY.list (TY.tup2 TY.int TY.int))))]) (EJ.call (F_ties_in1 hf) (AP.toJ (AP.cons (EP.var 1) (AP.cons (EP.var 3) (AP.nil 2))))) (Says.fld hf 23 32) (fun (y : FT [("own_width", TY.int), ("own_arrows", (TY.opt (TY.list (TY.tup2 TY.int TY.int))))]) (z : (Option (List (Int × Int)))) => ((y.1, y.2.1, z, ()) : FT [("own_width", TY.int), ("own_arrows", (TY.opt (TY.list (TY.tup2 TY.int TY.int)))), ("own_ties", (TY.opt (TY.list (TY.tup2 TY.int TY.int))))])) (SJ.ifN (WJ.T (WJ.or (TP.toJ (TP.cmp (cm2_isN (t := (TY.list (TY.tup2 TY.int TY.int)))) (EP.fldO 0 (fs := [("own_width", TY.int), ("own_arrows", (TY.opt (TY.list (TY.tup2 TY.int TY.int)))), ("own_ties", (TY.opt (TY.list (TY.tup2 TY.int TY.int))))]) (t := (TY.opt (TY.list (TY.tup2 TY.int TY.int)))) (Says.fld hf 23 32) (fun x => x.2.2.1)) EP.non)) (WJ.or1 (TJ.not (EJ.toT (EJ.call (F_all_unlike hf) (AJ.cons (EJ.unopt (EP.toEJ (EP.fldO 0 (fs := [("own_width", TY.int), ("own_arrows", (TY.opt (TY.list (TY.tup2 TY.int TY.int)))), ("own_ties", (TY.opt (TY.list (TY.tup2 TY.int TY.int))))]) (t := (TY.opt (TY.list (TY.tup2 TY.int TY.int)))) (Says.fld hf 23 32) (fun x => x.2.2.1)))) (AJ.nil 1)))))))) SJ.never SJ.nil SJ.nil)))))) SJ.nil)
def m_Plan_init1 (size : Int) (arrows : (List (Int × Int))) (ties : (List (Int × Int))) : R (Int × (Option (List (Int × Int))) × (Option (List (Int × Int))) × Unit) :=
  R.map (fun (e : (Int × (Option (List (Int × Int))) × (Option (List (Int × Int))) × Unit) × Int × (List (Int × Int)) × (List (Int × Int)) × Unit) => e.1) (((if ((!(g_is_count size)) || (decide (6 < size))) = true then Eff.bad else pure ((), size, arrows, ties, ())) >>= fun (s122 : (Unit) × Int × (List (Int × Int)) × (List (Int × Int)) × Unit) => (((if ((g_arrows_in s122.2.1 s122.2.2.1)).isNone = true then pure true else (((((optM (g_arrows_in s122.2.1 s122.2.2.1)) >>= fun (x123 : (List (Int × Int))) => pure (x123, ())) >>= fun (a124 : (List (Int × Int)) × Unit) => pure (s122.2.1, a124)) >>= fun (a125 : Int × (List (Int × Int)) × Unit) => (m_are_unlike a125.1 a125.2.1)) >>= fun (v126 : Bool) => pure (!v126))) >>= fun (b127 : Bool) => (if b127 = true then Eff.bad else pure ((s122.2.1, (g_arrows_in s122.2.1 s122.2.2.1), ()), s122.2.1, s122.2.2.1, s122.2.2.2.1, ()))) >>= fun (s128 : (Int × (Option (List (Int × Int))) × Unit) × Int × (List (Int × Int)) × (List (Int × Int)) × Unit) => ((m_ties_in1 s128.2.1 s128.2.2.2.1) >>= fun (own_ties133 : (Option (List (Int × Int)))) => (((if (own_ties133).isNone = true then pure true else ((((optM own_ties133) >>= fun (x134 : (List (Int × Int))) => pure (x134, ())) >>= fun (a135 : (List (Int × Int)) × Unit) => (m_all_unlike a135.1)) >>= fun (v136 : Bool) => pure (!v136))) >>= fun (b137 : Bool) => (if b137 = true then Eff.bad else pure ((s128.1.1, s128.1.2.1, own_ties133, ()), s128.2.1, s128.2.2.1, s128.2.2.2.1, ()))) >>= fun (s138 : (Int × (Option (List (Int × Int))) × (Option (List (Int × Int))) × Unit) × Int × (List (Int × Int)) × (List (Int × Int)) × Unit) => pure (s138.1, s138.2.1, s138.2.2.1, s138.2.2.2.1, ()))))) >>= fun (s139 : (Int × (Option (List (Int × Int))) × (Option (List (Int × Int))) × Unit) × Int × (List (Int × Int)) × (List (Int × Int)) × Unit) => pure (s139.1, s139.2.1, s139.2.2.1, s139.2.2.2.1, ()))
theorem e_Plan_init1 {T : Wd} (hf : Hf T) : (fun s => R.map (fun e => cast (congrArg SE.T (rfl : at_ 0 [(0, (.oi "Plan" [("own_width", TY.int), ("own_arrows", (TY.opt (TY.list (TY.tup2 TY.int TY.int)))), ("own_ties", (TY.opt (TY.list (TY.tup2 TY.int TY.int))))])), (1, (.sh TY.int)), (2, (.sh (TY.list (TY.tup2 TY.int TY.int)))), (3, (.sh (TY.list (TY.tup2 TY.int TY.int))))] = .oi "Plan" [("own_width", TY.int), ("own_arrows", (TY.opt (TY.list (TY.tup2 TY.int TY.int)))), ("own_ties", (TY.opt (TY.list (TY.tup2 TY.int TY.int))))])) (ST.get 0 [(0, (.oi "Plan" [("own_width", TY.int), ("own_arrows", (TY.opt (TY.list (TY.tup2 TY.int TY.int)))), ("own_ties", (TY.opt (TY.list (TY.tup2 TY.int TY.int))))])), (1, (.sh TY.int)), (2, (.sh (TY.list (TY.tup2 TY.int TY.int)))), (3, (.sh (TY.list (TY.tup2 TY.int TY.int))))] e)) ((x_Plan_init1 hf).den () s)) = (fun s : ST [(0, (.oi "Plan" [])), (1, (.sh TY.int)), (2, (.sh (TY.list (TY.tup2 TY.int TY.int)))), (3, (.sh (TY.list (TY.tup2 TY.int TY.int))))] => m_Plan_init1 s.2.1 s.2.2.1 s.2.2.2.1) := by
  funext s
  unfold x_Plan_init1 m_Plan_init1
  dsimp only [SJ.ifN, TP.toJ, EP.toT, EP.isi, EP.var, SJ.never, WP.T, WP.or, TP.not, EP.call, AP.cons, AP.nil, WP.or1, TP.cmp, EP.gint, SJ.nil, SJ.setF, EP.toEJ, WJ.T, WJ.or, EP.fldO, EP.non, WJ.or1, TJ.not, EJ.toT, EJ.call, AJ.consP, AJ.cons, EJ.unopt, AJ.nil, AP.toJ, turnF, VJ.cons, EP.ofJ, R.pbind, PM.pbind]
  repeat' (first
    | with_reducible rfl
    | refine mapc (fun _ => ?_) ?_
    | refine loopNc (fun _ _ => ?_) ?_ ?_
    | refine loopFc (fun _ _ => ?_) ?_ ?_
    | refine whileNc (fun _ => ?_) (fun _ => ?_) ?_
    | refine whileFc (fun _ => ?_) (fun _ => ?_) ?_
    | refine compc (fun _ => ?_) (fun _ => ?_) ?_
    | refine noerc ?_
    | refine bindFL ?_ (fun _ => ?_) (fun _ => ?_)
    | refine bindc ?_ (fun _ => ?_)
    | refine itec ?_ ?_ ?_
    | rfl)
theorem F_Plan_init1 {T : Wd} (hf : Hf T) : Ini T 8 "Plan" ["self", "size", "arrows", "ties"] 4 (spI T.K 4 0 [(0, (.oi "Plan" [])), (1, (.sh TY.int)), (2, (.sh (TY.list (TY.tup2 TY.int TY.int)))), (3, (.sh (TY.list (TY.tup2 TY.int TY.int))))] "Plan" [("own_width", TY.int), ("own_arrows", (TY.opt (TY.list (TY.tup2 TY.int TY.int)))), ("own_ties", (TY.opt (TY.list (TY.tup2 TY.int TY.int))))] (fun s => m_Plan_init1 s.2.1 s.2.2.1 s.2.2.2.1)) := by
  obtain ⟨fd, F⟩ := hf.c.def_ 12 (d := d20) rfl
  obtain ⟨ds, h1, h2⟩ := (FunD.binds1 (ps := ["self", "size", "arrows", "ties"]) F 4 2 (by exact fun h => nomatch h) rfl fun _ _ _ _ _ _ _ us its h1 h2 => match us, its, h1, h2 with | [_, _, _, _], [_, _], _, _ => ⟨_, rfl, by rfl⟩)
  have h := init_ok (fs := [("own_width", TY.int), ("own_arrows", (TY.opt (TY.list (TY.tup2 TY.int TY.int)))), ("own_ties", (TY.opt (TY.list (TY.tup2 TY.int TY.int))))]) F sc_Plan_init (x_Plan_init1 hf) rfl (by decide)
  rw [e_Plan_init1 hf] at h
  exact ⟨_, fd, ds, _, (Says.glo hf 34), He.mkr_ok (hf.c.fact 35), h, h2, h1, rfl⟩
def as_Plan_init1 (p : FT [("own_width", TY.int), ("own_arrows", (TY.opt (TY.list (TY.tup2 TY.int TY.int)))), ("own_ties", (TY.opt (TY.list (TY.tup2 TY.int TY.int))))]) : Option (FT [("own_width", TY.int), ("own_arrows", (TY.list (TY.tup2 TY.int TY.int))), ("own_ties", (TY.list (TY.tup2 TY.int TY.int)))]) := Option.bind p.2.1 fun q1 => Option.bind p.2.2.1 fun q2 => some (p.1, q1, q2, ())
theorem as_Plan_init1_ok : ∀ x y, as_Plan_init1 x = some y → FT.enc [("own_width", TY.int), ("own_arrows", (TY.list (TY.tup2 TY.int TY.int))), ("own_ties", (TY.list (TY.tup2 TY.int TY.int)))] y = FT.enc [("own_width", TY.int), ("own_arrows", (TY.opt (TY.list (TY.tup2 TY.int TY.int)))), ("own_ties", (TY.opt (TY.list (TY.tup2 TY.int TY.int))))] x := by
  rintro ⟨q0, q1, q2, u⟩ y h
  cases q1 <;> cases q2 <;> first | (cases h; rfl) | (cases h)
def N_law_made : List Str := ["_law_pot_here", "_law_world", "_law_arrows", "_law_ties"]
theorem sc_law_made : FnScope N_law_made ["_law_pot_here", "_law_world"] (defScope s52) := ⟨rfl, rfl, rfl, by decide +kernel, rfl, by decide +kernel, by decide +kernel⟩
def x_law_made {T : Wd} (hf : Hf T) : SJ PM ⟨T, N_law_made, defScope s52, 9, 0, fun _ => true⟩ [] [(1, (.sh (TY.tup3 TY.int (TY.list (TY.tup2 TY.int TY.int)) (TY.list (TY.tup2 TY.int TY.int)))))] (defBody s52) (OZ.r [] (.sh tI_Plan)) :=
  (SJ.par2 (i := 2) (j := 3) (VJ.consP (EP.fnL fl_list (Bt.ty bt_list) (Says.free hf 3) (EP.part (a := (TY.tup3 TY.int (TY.list (TY.tup2 TY.int TY.int)) (TY.list (TY.tup2 TY.int TY.int)))) (b := (TY.list (TY.tup2 TY.int TY.int))) 1 (fun x => x.2.1) (EP.var 1))) (VJ.consP (EP.fnL fl_list (Bt.ty bt_list) (Says.free hf 3) (EP.part (a := (TY.tup3 TY.int (TY.list (TY.tup2 TY.int TY.int)) (TY.list (TY.tup2 TY.int TY.int)))) (b := (TY.list (TY.tup2 TY.int TY.int))) 2 (fun x => x.2.2) (EP.var 1))) VJ.nil)) (SJ.ifS (TJ.cmp cm2_eqI (EJ.callW (F_law_draw hf) (AP.toJ (AP.cons EP.int (AP.nil 2)))) (EP.toEJ EP.int)) (SJ.par2 (i := 2) (j := 3) (VJ.consP (EP.revL (EP.var 2)) (VJ.consP (EP.tupL (Says.free hf 11) (EP.var 3)) VJ.nil)) SJ.nil (fun env h => by cases env; cases h; rfl)) (SJ.ret (EJ.shareI (EJ.asI (EJ.make (F_Plan_init hf) (AP.toJ (AP.cons (EP.part (a := (TY.tup3 TY.int (TY.list (TY.tup2 TY.int TY.int)) (TY.list (TY.tup2 TY.int TY.int)))) (b := TY.int) 0 (fun x => x.1) (EP.var 1)) (AP.cons (EP.var 2) (AP.cons (EP.var 3) (AP.nil 4)))))) as_Plan_init as_Plan_init_ok))) (SJ.ret (EJ.shareI (EJ.asI (EJ.make (F_Plan_init1 hf) (AP.toJ (AP.cons (EP.part (a := (TY.tup3 TY.int (TY.list (TY.tup2 TY.int TY.int)) (TY.list (TY.tup2 TY.int TY.int)))) (b := TY.int) 0 (fun x => x.1) (EP.var 1)) (AP.cons (EP.var 2) (AP.cons (EP.var 3) (AP.nil 4)))))) as_Plan_init1 as_Plan_init1_ok)))) (fun env h => by cases env; cases h; rfl))
def m_law_made (world : (Int × (List (Int × Int)) × (List (Int × Int)))) : PM aI_Plan :=
  (((m_law_draw 2) >>= fun (v74 : Int) => pure (decide (v74 = 0))) >>= fun (b142 : Bool) => (if b142 = true then ((PM.lift (m_Plan_init world.1 (List.reverse world.2.1) world.2.2)) >>= fun (p121 : FT [("own_width", TY.int), ("own_arrows", (TY.opt (TY.list (TY.tup2 TY.int TY.int)))), ("own_ties", (TY.opt (TY.list (TY.tup2 TY.int TY.int))))]) => (optM (as_Plan_init p121))) else ((PM.lift (m_Plan_init1 world.1 world.2.1 world.2.2)) >>= fun (p141 : FT [("own_width", TY.int), ("own_arrows", (TY.opt (TY.list (TY.tup2 TY.int TY.int)))), ("own_ties", (TY.opt (TY.list (TY.tup2 TY.int TY.int))))]) => (optM (as_Plan_init1 p141)))))
theorem e_law_made {T : Wd} (hf : Hf T) : (x_law_made hf).den = fun _ s => m_law_made s.1 := by
  funext c s
  unfold x_law_made m_law_made
  dsimp only [SJ.par2, VJ.consP, EP.fnL, EP.part, EP.var, VJ.nil, SJ.ifS, TJ.cmp, EJ.callW, AP.toJ, AP.cons, EP.int, AP.nil, EP.toEJ, EP.revL, EP.tupL, SJ.nil, SJ.ret, EJ.shareI, EJ.asI, EJ.make, turnF, VJ.cons, EP.ofJ, R.pbind, PM.pbind]
  repeat' (first
    | with_reducible rfl
    | refine mapc (fun _ => ?_) ?_
    | refine loopNc (fun _ _ => ?_) ?_ ?_
    | refine loopFc (fun _ _ => ?_) ?_ ?_
    | refine whileNc (fun _ => ?_) (fun _ => ?_) ?_
    | refine whileFc (fun _ => ?_) (fun _ => ?_) ?_
    | refine compc (fun _ => ?_) (fun _ => ?_) ?_
    | refine noerc ?_
    | refine bindFL ?_ (fun _ => ?_) (fun _ => ?_)
    | refine bindc ?_ (fun _ => ?_)
    | refine itec ?_ ?_ ?_
    | rfl)
theorem F_law_made {T : Wd} (hf : Hf T) : Fn T 10 "_law_made" ["_law_pot_here", "_law_world"] (spF PM T.K 2 0 [] [(1, (.sh (TY.tup3 TY.int (TY.list (TY.tup2 TY.int TY.int)) (TY.list (TY.tup2 TY.int TY.int)))))] (.sh tI_Plan) (fun _ s => m_law_made s.1)) := by
  obtain ⟨fd, F⟩ := hf.c.def_ 39 (d := d52) rfl
  have h := fn_ok F sc_law_made (x_law_made hf)
  rw [e_law_made hf] at h
  exact Fn.mk' F (Says.glo hf 36) (FunD.bindsN F fun _ _ _ _ _ _ us hl => match us, hl with | [_, _], _ => rfl) h
def N_want_plan : List Str := ["value"]
theorem sc_want_plan : FnScope N_want_plan ["value"] (defScope s26) := ⟨rfl, rfl, rfl, by decide +kernel, rfl, by decide +kernel, by decide +kernel⟩
def x_want_plan {T : Wd} (hf : Hf T) : SJ R ⟨T, N_want_plan, defScope s26, 1, 1, fun _ => true⟩ [] [(0, (.sh tI_Plan))] (defBody s26) (OZ.r [] (.sh tI_Plan)) :=
  (SJ.ifRr (rwa := []) (TP.toJ (TP.not (EP.toT (EP.isi (EP.var 0) (TagT.ins (Says.ins hf 23 2)) (CE.cls (He.ga T.K "Plan") (Says.glo hf 34)) true (kitC_ok (hf.c.factB 1 (f := Fb.kitC "Plan" "Plan" true))) (Says.free hf 12) bt_isinstance)))) SJ.never (SJ.retP (EP.var 0)))
def m_want_plan (value : aI_Plan) : R aI_Plan :=
  pure value
theorem e_want_plan {T : Wd} (hf : Hf T) : (x_want_plan hf).den = fun _ s => m_want_plan s.1 := by
  funext c s
  unfold x_want_plan m_want_plan
  dsimp only [SJ.ifRr, TP.toJ, TP.not, EP.toT, EP.isi, EP.var, SJ.never, SJ.retP, turnF, VJ.cons, EP.ofJ, R.pbind, PM.pbind]
  repeat' (first
    | with_reducible rfl
    | refine mapc (fun _ => ?_) ?_
    | refine loopNc (fun _ _ => ?_) ?_ ?_
    | refine loopFc (fun _ _ => ?_) ?_ ?_
    | refine whileNc (fun _ => ?_) (fun _ => ?_) ?_
    | refine whileFc (fun _ => ?_) (fun _ => ?_) ?_
    | refine compc (fun _ => ?_) (fun _ => ?_) ?_
    | refine noerc ?_
    | refine bindFL ?_ (fun _ => ?_) (fun _ => ?_)
    | refine bindc ?_ (fun _ => ?_)
    | refine itec ?_ ?_ ?_
    | rfl)
def g_want_plan (value : aI_Plan) : aI_Plan :=
  value
theorem h_want_plan (value : aI_Plan) : m_want_plan value = .ok (g_want_plan value) := by
  unfold m_want_plan g_want_plan
  (repeat' split) <;> rfl
theorem F_want_plan {T : Wd} (hf : Hf T) : Fn T 2 "want_plan" ["value"] (spF R T.K 1 1 [] [(0, (.sh tI_Plan))] (.sh tI_Plan) (fun _ s => m_want_plan s.1)) := by
  obtain ⟨fd, F⟩ := hf.c.def_ 13 (d := d26) rfl
  have h := fn_ok F sc_want_plan (x_want_plan hf)
  rw [e_want_plan hf] at h
  exact Fn.mk' F (Says.glo hf 37) (FunD.bindsN F fun _ _ _ _ _ _ us hl => match us, hl with | [_], _ => rfl) h
def x_is_list2 {T : Wd} (hf : Hf T) : SJ R ⟨T, N_is_list, defScope s9, 1, 1, fun _ => true⟩ [] [(0, (.sh (TY.list TY.int)))] (defBody s9) (OZ.r [] (.sh TY.bool)) :=
  (SJ.retP (EP.isi2 (EP.var 0) TagT.list (CE.ty "list" (Says.free hf 3) bt_list) (CE.ty "tuple" (Says.free hf 11) bt_tuple) true (kit_tys (a := "list") (b := "list") (c := "tuple") (r1 := true) (r2 := false) (by decide +kernel)) (Says.free hf 12) bt_isinstance))
def m_is_list2 (value : (List Int)) : R Bool :=
  pure true
theorem e_is_list2 {T : Wd} (hf : Hf T) : (x_is_list2 hf).den = fun _ s => m_is_list2 s.1 := by
  funext c s
  unfold x_is_list2 m_is_list2
  dsimp only [SJ.retP, EP.isi2, EP.var, turnF, VJ.cons, EP.ofJ, R.pbind, PM.pbind]
  repeat' (first
    | with_reducible rfl
    | refine mapc (fun _ => ?_) ?_
    | refine loopNc (fun _ _ => ?_) ?_ ?_
    | refine loopFc (fun _ _ => ?_) ?_ ?_
    | refine whileNc (fun _ => ?_) (fun _ => ?_) ?_
    | refine whileFc (fun _ => ?_) (fun _ => ?_) ?_
    | refine compc (fun _ => ?_) (fun _ => ?_) ?_
    | refine noerc ?_
    | refine bindFL ?_ (fun _ => ?_) (fun _ => ?_)
    | refine bindc ?_ (fun _ => ?_)
    | refine itec ?_ ?_ ?_
    | rfl)
def g_is_list2 (value : (List Int)) : Bool :=
  true
theorem h_is_list2 (value : (List Int)) : m_is_list2 value = .ok (g_is_list2 value) := by
  unfold m_is_list2 g_is_list2
  (repeat' split) <;> rfl
theorem F_is_list2 {T : Wd} (hf : Hf T) : Fn T 2 "is_list" ["value"] (spF R T.K 1 1 [] [(0, (.sh (TY.list TY.int)))] (.sh TY.bool) (fun _ s => m_is_list2 s.1)) := by
  obtain ⟨fd, F⟩ := hf.c.def_ 2 (d := d9) rfl
  have h := fn_ok F sc_is_list (x_is_list2 hf)
  rw [e_is_list2 hf] at h
  exact Fn.mk' F (Says.glo hf 18) (FunD.bindsN F fun _ _ _ _ _ _ us hl => match us, hl with | [_], _ => rfl) h
def N_lot_in : List Str := ["width", "value", "thing", "near", "far"]
theorem sc_lot_in : FnScope N_lot_in ["width", "value"] (defScope s16) := ⟨rfl, rfl, rfl, by decide +kernel, rfl, by decide +kernel, by decide +kernel⟩
def x_lot_in {T : Wd} (hf : Hf T) : SJ R ⟨T, N_lot_in, defScope s16, 4, 5, fun _ => true⟩ [] [(0, (.sh TY.int)), (1, (.sh (TY.list TY.int)))] (defBody s16) (OZ.r [] (.sh (TY.opt (TY.list TY.int)))) :=
  (SJ.ifRr (rwa := []) (TP.toJ (WP.T (WP.or (TP.not (EP.toT (EP.call (F_is_list2 hf) (fun a => g_is_list2 a.1) (fun a => h_is_list2 a.1) (AP.cons (EP.var 1) (AP.nil 1))))) (WP.or1 (TP.not (EP.toT (EP.fn1 fn_all (Bt.fn bt_all) (Says.free hf 19) (EP.lcM [("thing", 2)] (IP.list (EP.var 1)) (TG1.name 2) (EP.call (F_is_thing hf) (fun a => g_is_thing a.1 a.2.1) (fun a => h_is_thing a.1 a.2.1) (AP.cons (EP.var 0) (AP.cons (EP.var 2) (AP.nil 2)))))))))))) (SJ.retP (EP.nonOpt (t := (TY.list TY.int)) EP.non)) (SJ.retP (EP.ite (EP.toT (EP.fn1 fn_all (Bt.fn bt_all) (Says.free hf 19) (EP.lcM [("near", 3), ("far", 4)] (IP.zip (EP.var 1) (EP.slice sl_lst (EP.var 1) (OP.some EP.int) OP.none) (Says.free hf 25)) (TG1.pair (TG1.name 3) (TG1.name 4)) (EP.cmp cm2_lt (EP.var 3) (EP.var 4))))) (EP.toOpt (EP.fnL fl_list (Bt.ty bt_list) (Says.free hf 3) (EP.var 1))) (EP.nonOpt (t := (TY.list TY.int)) EP.non))))
def m_lot_in (width : Int) (value : (List Int)) : R (Option (List Int)) :=
  (if ((!(g_is_list2 value)) || (!(List.all (List.map (fun (y148 : Int) => (g_is_thing width y148)) value) id))) = true then pure none else pure (if (List.all (List.map (fun (y149 : (Int × Int)) => (decide (y149.1 < y149.2))) (List.zip value (cut value (some 1) none))) id) = true then (some value) else none))
theorem e_lot_in {T : Wd} (hf : Hf T) : (x_lot_in hf).den = fun _ s => m_lot_in s.1 s.2.1 := by
  funext c s
  unfold x_lot_in m_lot_in
  dsimp only [SJ.ifRr, TP.toJ, WP.T, WP.or, TP.not, EP.toT, EP.call, AP.cons, EP.var, AP.nil, WP.or1, EP.fn1, EP.lcM, IP.list, TG1.name, SJ.retP, EP.nonOpt, EP.non, EP.ite, IP.zip, EP.slice, OP.some, EP.int, OP.none, TG1.pair, EP.cmp, EP.toOpt, EP.fnL, turnF, VJ.cons, EP.ofJ, R.pbind, PM.pbind]
  repeat' (first
    | with_reducible rfl
    | refine mapc (fun _ => ?_) ?_
    | refine loopNc (fun _ _ => ?_) ?_ ?_
    | refine loopFc (fun _ _ => ?_) ?_ ?_
    | refine whileNc (fun _ => ?_) (fun _ => ?_) ?_
    | refine whileFc (fun _ => ?_) (fun _ => ?_) ?_
    | refine compc (fun _ => ?_) (fun _ => ?_) ?_
    | refine noerc ?_
    | refine bindFL ?_ (fun _ => ?_) (fun _ => ?_)
    | refine bindc ?_ (fun _ => ?_)
    | refine itec ?_ ?_ ?_
    | rfl)
def g_lot_in (width : Int) (value : (List Int)) : (Option (List Int)) :=
  (if ((!(g_is_list2 value)) || (!(List.all (List.map (fun (y148 : Int) => (g_is_thing width y148)) value) id))) = true then none else (if (List.all (List.map (fun (y149 : (Int × Int)) => (decide (y149.1 < y149.2))) (List.zip value (cut value (some 1) none))) id) = true then (some value) else none))
theorem h_lot_in (width : Int) (value : (List Int)) : m_lot_in width value = .ok (g_lot_in width value) := by
  unfold m_lot_in g_lot_in
  (repeat' split) <;> rfl
theorem F_lot_in {T : Wd} (hf : Hf T) : Fn T 5 "lot_in" ["width", "value"] (spF R T.K 2 5 [] [(0, (.sh TY.int)), (1, (.sh (TY.list TY.int)))] (.sh (TY.opt (TY.list TY.int))) (fun _ s => m_lot_in s.1 s.2.1)) := by
  obtain ⟨fd, F⟩ := hf.c.def_ 9 (d := d16) rfl
  have h := fn_ok F sc_lot_in (x_lot_in hf)
  rw [e_lot_in hf] at h
  exact Fn.mk' F (Says.glo hf 38) (FunD.bindsN F fun _ _ _ _ _ _ us hl => match us, hl with | [_, _], _ => rfl) h
def N_leaders : List Str := ["arrows", "lot", "thing", "found", "fresh", "late", "start", "end", "one"]
theorem sc_leaders : FnScope N_leaders ["arrows", "lot", "thing"] (defScope s29) := ⟨rfl, rfl, rfl, by decide +kernel, rfl, by decide +kernel, by decide +kernel⟩
def x_leaders {T : Wd} (hf : Hf T) : SJ R ⟨T, N_leaders, defScope s29, 1, 9, fun _ => true⟩ [] [(0, (.sh (TY.list (TY.tup2 TY.int TY.int)))), (1, (.sh (TY.list TY.int))), (2, (.sh TY.int))] (defBody s29) (OZ.r [] (.o1 TY.int)) :=
  (SJ.tupT (is := [3, 4]) (TN.cons (TN.cons TN.nil)) (VJ.consP (EP.lst (LP.cons (EP.var 2) (LP.nil (t := TY.int)))) (VJ.consP (EP.lst (LP.cons (EP.var 2) (LP.nil (t := TY.int)))) VJ.nil)) (SJ.whileN 1000 [3, 4] (TP.toJ (TP.cmp (cm2_ne (EqT.list EqT.int)) (EP.var 4) (EP.lst (LP.nil (t := TY.int))))) (SJ.setL 5 (EP.toEJ (EP.lcF [("start", 6), ("end", 7)] (IP.list (EP.var 0)) (TG1.pair (TG1.name 6) (TG1.name 7)) (WP.T (WP.and (TP.inn (in2_in EqT.int) RowT.list (EP.var 7) (EP.var 4)) (WP.and (TP.inn (in2_in EqT.int) RowT.list (EP.var 6) (EP.var 1)) (WP.and1 (TP.inn (in2_notIn EqT.int) RowT.list (EP.var 6) (EP.var 3)))))) (EP.var 6))) (SJ.setL 4 (EP.toEJ (EP.lcF [("one", 8)] (IP.list (EP.var 1)) (TG1.name 8) (TP.inn (in2_in EqT.int) RowT.list (EP.var 8) (EP.var 5)) (EP.var 8))) (SJ.set 3 (EJ.share (EJ.cat (EP.toEJ (EP.var 3)) (EP.toEJ (EP.var 4)))) SJ.nil))) (SJ.ret (EJ.fnL (fl_sorted SortT.int) (Bt.fn bt_sorted) (Says.free hf 10) (EP.toEJ (EP.var 3))))) (fun env h => by cases env; cases h; rfl))
def m_leaders (arrows : (List (Int × Int))) (lot : (List Int)) (thing : Int) : R (List Int) :=
  ((Tp.whileN (fun (s152 : (List Int) × (List Int) × Unit) => (pure (!((EqT.list EqT.int)).b s152.2.1 ([] : List Int)) : R Bool)) (fun (s153 : (List Int) × (List Int) × Unit) => ((((optM (catO s153.1 (List.map (fun (y155 : Int) => y155) (List.filter (fun (y155 : Int) => ((EqT.int).mem y155 (List.map (fun (y154 : (Int × Int)) => y154.1) (List.filter (fun (y154 : (Int × Int)) => (((EqT.int).mem y154.2 s153.2.1) && (((EqT.int).mem y154.1 lot) && (!(EqT.int).mem y154.1 s153.1)))) arrows)))) lot)))) >>= fun (found156 : (List Int)) => pure (found156, (List.map (fun (y155 : Int) => y155) (List.filter (fun (y155 : Int) => ((EqT.int).mem y155 (List.map (fun (y154 : (Int × Int)) => y154.1) (List.filter (fun (y154 : (Int × Int)) => (((EqT.int).mem y154.2 s153.2.1) && (((EqT.int).mem y154.1 lot) && (!(EqT.int).mem y154.1 s153.1)))) arrows)))) lot)), (List.map (fun (y154 : (Int × Int)) => y154.1) (List.filter (fun (y154 : (Int × Int)) => (((EqT.int).mem y154.2 s153.2.1) && (((EqT.int).mem y154.1 lot) && (!(EqT.int).mem y154.1 s153.1)))) arrows)), ())) >>= fun (e157 : (List Int) × (List Int) × (List Int) × Unit) => pure (e157.1, e157.2.1, ())) : R ((List Int) × (List Int) × Unit))) 1000 ([thing], [thing], ()) >>= fun (m158 : (List Int) × (List Int) × Unit) => pure (arrows, lot, thing, m158.1, m158.2.1, ())) >>= fun (s159 : (List (Int × Int)) × (List Int) × Int × (List Int) × (List Int) × Unit) => pure (List.mergeSort s159.2.2.2.1 (SortT.int).le))
theorem e_leaders {T : Wd} (hf : Hf T) : (x_leaders hf).den = fun _ s => m_leaders s.1 s.2.1 s.2.2.1 := by
  funext c s
  unfold x_leaders m_leaders
  dsimp only [SJ.tupT, VJ.consP, EP.lst, LP.cons, EP.var, LP.nil, VJ.nil, SJ.whileN, TP.toJ, TP.cmp, SJ.setL, EP.toEJ, EP.lcF, IP.list, TG1.pair, TG1.name, WP.T, WP.and, TP.inn, RowT.list, WP.and1, SJ.set, EJ.share, EJ.cat, SJ.nil, SJ.ret, EJ.fnL, turnF, VJ.cons, EP.ofJ, R.pbind, PM.pbind]
  repeat' (first
    | with_reducible rfl
    | refine mapc (fun _ => ?_) ?_
    | refine loopNc (fun _ _ => ?_) ?_ ?_
    | refine loopFc (fun _ _ => ?_) ?_ ?_
    | refine whileNc (fun _ => ?_) (fun _ => ?_) ?_
    | refine whileFc (fun _ => ?_) (fun _ => ?_) ?_
    | refine compc (fun _ => ?_) (fun _ => ?_) ?_
    | refine noerc ?_
    | refine bindFL ?_ (fun _ => ?_) (fun _ => ?_)
    | refine bindc ?_ (fun _ => ?_)
    | refine itec ?_ ?_ ?_
    | rfl)
theorem F_leaders {T : Wd} (hf : Hf T) : Fn T 2 "leaders" ["arrows", "lot", "thing"] (spF R T.K 3 9 [] [(0, (.sh (TY.list (TY.tup2 TY.int TY.int)))), (1, (.sh (TY.list TY.int))), (2, (.sh TY.int))] (.o1 TY.int) (fun _ s => m_leaders s.1 s.2.1 s.2.2.1)) := by
  obtain ⟨fd, F⟩ := hf.c.def_ 16 (d := d29) rfl
  have h := fn_ok F sc_leaders (x_leaders hf)
  rw [e_leaders hf] at h
  exact Fn.mk' F (Says.glo hf 39) (FunD.bindsN F fun _ _ _ _ _ _ us hl => match us, hl with | [_, _, _], _ => rfl) h
def N_head_of : List Str := ["plan", "lot", "thing"]
theorem sc_head_of : FnScope N_head_of ["plan", "lot"] (defScope s31) := ⟨rfl, rfl, rfl, by decide +kernel, rfl, by decide +kernel, by decide +kernel⟩
def x_head_of {T : Wd} (hf : Hf T) : SJ R ⟨T, N_head_of, defScope s31, 2, 3, fun _ => true⟩ [] [(0, (.sh tI_Plan)), (1, (.sh (TY.list TY.int)))] (defBody s31) (OZ.r [] (.sh (TY.opt TY.int))) :=
  (SJ.forB [] (IP.toIJ (IP.list (EP.var 1))) (TG1.name 2) (SJ.ifR (rwa := []) (TJ.cmp cm2_eqI (EJ.fn1 fn_len (Bt.fn bt_len) (Says.free hf 5) (EJ.share (EJ.call (F_leaders hf) (AP.toJ (AP.cons (EP.fld (t := (TY.list (TY.tup2 TY.int TY.int))) (EP.var 0) (Says.fld hf 23 24) (fun x : FT fI_Plan => x.2.1)) (AP.cons (EP.var 1) (AP.cons (EP.var 2) (AP.nil 3)))))))) (EP.toEJ (EP.fn1 fn_len (Bt.fn bt_len) (Says.free hf 5) (EP.var 1)))) (SJ.retP (EP.toOpt (EP.var 2))) SJ.nilB FL.rt) (SJ.retP (EP.nonOpt (t := TY.int) EP.non)) (fun v => v))
def m_head_of (plan : aI_Plan) (lot : (List Int)) : R (Option Int) :=
  ((Tp.loopF (fun (y150 : Int) (s151 : Unit) => ((((((m_leaders plan.2.1 lot y150) >>= fun (v160 : (List Int)) => pure (v160.length : Int)) >>= fun (v161 : Int) => pure (decide (v161 = (lot.length : Int)))) >>= fun (b162 : Bool) => (if b162 = true then pure (FL.rt (some y150)) else pure (FL.nx (y150, ())))) >>= fun (z164 : FL (Int × Unit) (Option Int)) => pure (FL.map (fun (e163 : Int × Unit) => ()) z164)) : R (FL (Unit) (Option Int)))) lot () >>= fun (fl : FL (Unit) (Option Int)) => pure (FL.map (fun (m165 : Unit) => (plan, lot, ())) fl)) >>= fun (o167 : FL (aI_Plan × (List Int) × Unit) (Option Int)) => match o167 with | .nx s166 => pure none | .rt w168 => pure w168)
theorem e_head_of {T : Wd} (hf : Hf T) : (x_head_of hf).den = fun _ s => m_head_of s.1 s.2.1 := by
  funext c s
  unfold x_head_of m_head_of
  dsimp only [SJ.forB, IP.toIJ, IP.list, EP.var, TG1.name, SJ.ifR, TJ.cmp, EJ.fn1, EJ.share, EJ.call, AP.toJ, AP.cons, EP.fld, AP.nil, EP.toEJ, EP.fn1, SJ.retP, EP.toOpt, SJ.nilB, EP.nonOpt, EP.non, turnF, VJ.cons, EP.ofJ, R.pbind, PM.pbind]
  repeat' (first
    | with_reducible rfl
    | refine mapc (fun _ => ?_) ?_
    | refine loopNc (fun _ _ => ?_) ?_ ?_
    | refine loopFc (fun _ _ => ?_) ?_ ?_
    | refine whileNc (fun _ => ?_) (fun _ => ?_) ?_
    | refine whileFc (fun _ => ?_) (fun _ => ?_) ?_
    | refine compc (fun _ => ?_) (fun _ => ?_) ?_
    | refine noerc ?_
    | refine bindFL ?_ (fun _ => ?_) (fun _ => ?_)
    | refine bindc ?_ (fun _ => ?_)
    | refine itec ?_ ?_ ?_
    | rfl)
theorem F_head_of {T : Wd} (hf : Hf T) : Fn T 3 "head_of" ["plan", "lot"] (spF R T.K 2 3 [] [(0, (.sh tI_Plan)), (1, (.sh (TY.list TY.int)))] (.sh (TY.opt TY.int)) (fun _ s => m_head_of s.1 s.2.1)) := by
  obtain ⟨fd, F⟩ := hf.c.def_ 18 (d := d31) rfl
  have h := fn_ok F sc_head_of (x_head_of hf)
  rw [e_head_of hf] at h
  exact Fn.mk' F (Says.glo hf 40) (FunD.bindsN F fun _ _ _ _ _ _ us hl => match us, hl with | [_, _], _ => rfl) h
def N_part_in : List Str := ["ties", "lot", "thing", "both", "near", "far"]
theorem sc_part_in : FnScope N_part_in ["ties", "lot", "thing"] (defScope s30) := ⟨rfl, rfl, rfl, by decide +kernel, rfl, by decide +kernel, by decide +kernel⟩
def x_part_in {T : Wd} (hf : Hf T) : SJ R ⟨T, N_part_in, defScope s30, 2, 6, fun _ => true⟩ [] [(0, (.sh (TY.list (TY.tup2 TY.int TY.int)))), (1, (.sh (TY.list TY.int))), (2, (.sh TY.int))] (defBody s30) (OZ.r [] (.o1 TY.int)) :=
  (SJ.set 3 (EJ.share (EJ.cat (EP.toEJ (EP.var 0)) (EP.toEJ (EP.lcM [("near", 4), ("far", 5)] (IP.list (EP.var 0)) (TG1.pair (TG1.name 4) (TG1.name 5)) (EP.tup2 (EP.var 5) (EP.var 4)))))) (SJ.ret (EJ.call (F_leaders hf) (AP.toJ (AP.cons (EP.var 3) (AP.cons (EP.var 1) (AP.cons (EP.var 2) (AP.nil 3))))))))
def m_part_in (ties : (List (Int × Int))) (lot : (List Int)) (thing : Int) : R (List Int) :=
  ((optM (catO ties (List.map (fun (y170 : (Int × Int)) => (y170.2, y170.1)) ties))) >>= fun (both171 : (List (Int × Int))) => (m_leaders both171 lot thing))
theorem e_part_in {T : Wd} (hf : Hf T) : (x_part_in hf).den = fun _ s => m_part_in s.1 s.2.1 s.2.2.1 := by
  funext c s
  unfold x_part_in m_part_in
  dsimp only [SJ.set, EJ.share, EJ.cat, EP.toEJ, EP.var, EP.lcM, IP.list, TG1.pair, TG1.name, EP.tup2, SJ.ret, EJ.call, AP.toJ, AP.cons, AP.nil, turnF, VJ.cons, EP.ofJ, R.pbind, PM.pbind]
  repeat' (first
    | with_reducible rfl
    | refine mapc (fun _ => ?_) ?_
    | refine loopNc (fun _ _ => ?_) ?_ ?_
    | refine loopFc (fun _ _ => ?_) ?_ ?_
    | refine whileNc (fun _ => ?_) (fun _ => ?_) ?_
    | refine whileFc (fun _ => ?_) (fun _ => ?_) ?_
    | refine compc (fun _ => ?_) (fun _ => ?_) ?_
    | refine noerc ?_
    | refine bindFL ?_ (fun _ => ?_) (fun _ => ?_)
    | refine bindc ?_ (fun _ => ?_)
    | refine itec ?_ ?_ ?_
    | rfl)
theorem F_part_in {T : Wd} (hf : Hf T) : Fn T 3 "part_in" ["ties", "lot", "thing"] (spF R T.K 3 6 [] [(0, (.sh (TY.list (TY.tup2 TY.int TY.int)))), (1, (.sh (TY.list TY.int))), (2, (.sh TY.int))] (.o1 TY.int) (fun _ s => m_part_in s.1 s.2.1 s.2.2.1)) := by
  obtain ⟨fd, F⟩ := hf.c.def_ 17 (d := d30) rfl
  have h := fn_ok F sc_part_in (x_part_in hf)
  rw [e_part_in hf] at h
  exact Fn.mk' F (Says.glo hf 41) (FunD.bindsN F fun _ _ _ _ _ _ us hl => match us, hl with | [_, _, _], _ => rfl) h
def N_hangs_of : List Str := ["plan", "lot"]
theorem sc_hangs_of : FnScope N_hangs_of ["plan", "lot"] (defScope s32) := ⟨rfl, rfl, rfl, by decide +kernel, rfl, by decide +kernel, by decide +kernel⟩
def x_hangs_of {T : Wd} (hf : Hf T) : SJ R ⟨T, N_hangs_of, defScope s32, 3, 2, fun _ => true⟩ [] [(0, (.sh tI_Plan)), (1, (.sh (TY.list TY.int)))] (defBody s32) (OZ.r [] (.sh TY.bool)) :=
  (SJ.ret (EJ.or (EP.toEJ (EP.cmp (cm2_eq (EqT.list EqT.int)) (EP.var 1) (EP.lst (LP.nil (t := TY.int))))) (EJ.one (EJ.cmp cm2_eqI (EJ.fn1 fn_len (Bt.fn bt_len) (Says.free hf 5) (EJ.share (EJ.call (F_part_in hf) (AJ.consP (EP.fld (t := (TY.list (TY.tup2 TY.int TY.int))) (EP.var 0) (Says.fld hf 23 32) (fun x : FT fI_Plan => x.2.2.1)) (AJ.consP (EP.var 1) (AJ.cons (EJ.ix ix_lst (EP.toEJ (EP.var 1)) (EP.toEJ EP.int)) (AJ.nil 3))))))) (EP.toEJ (EP.fn1 fn_len (Bt.fn bt_len) (Says.free hf 5) (EP.var 1)))))))
def m_hangs_of (plan : aI_Plan) (lot : (List Int)) : R Bool :=
  (if (((EqT.list EqT.int)).b lot ([] : List Int)) = true then pure true else (((((((optM (atI lot 0)) >>= fun (x172 : Int) => pure (x172, ())) >>= fun (a173 : Int × Unit) => pure (lot, a173)) >>= fun (a174 : (List Int) × Int × Unit) => pure (plan.2.2.1, a174)) >>= fun (a175 : (List (Int × Int)) × (List Int) × Int × Unit) => (m_part_in a175.1 a175.2.1 a175.2.2.1)) >>= fun (v176 : (List Int)) => pure (v176.length : Int)) >>= fun (v177 : Int) => pure (decide (v177 = (lot.length : Int)))))
theorem e_hangs_of {T : Wd} (hf : Hf T) : (x_hangs_of hf).den = fun _ s => m_hangs_of s.1 s.2.1 := by
  funext c s
  unfold x_hangs_of m_hangs_of
  dsimp only [SJ.ret, EJ.or, EP.toEJ, EP.cmp, EP.var, EP.lst, LP.nil, EJ.one, EJ.cmp, EJ.fn1, EJ.share, EJ.call, AJ.consP, EP.fld, AJ.cons, EJ.ix, EP.int, AJ.nil, EP.fn1, turnF, VJ.cons, EP.ofJ, R.pbind, PM.pbind]
  repeat' (first
    | with_reducible rfl
    | refine mapc (fun _ => ?_) ?_
    | refine loopNc (fun _ _ => ?_) ?_ ?_
    | refine loopFc (fun _ _ => ?_) ?_ ?_
    | refine whileNc (fun _ => ?_) (fun _ => ?_) ?_
    | refine whileFc (fun _ => ?_) (fun _ => ?_) ?_
    | refine compc (fun _ => ?_) (fun _ => ?_) ?_
    | refine noerc ?_
    | refine bindFL ?_ (fun _ => ?_) (fun _ => ?_)
    | refine bindc ?_ (fun _ => ?_)
    | refine itec ?_ ?_ ?_
    | rfl)
theorem F_hangs_of {T : Wd} (hf : Hf T) : Fn T 4 "hangs_of" ["plan", "lot"] (spF R T.K 2 2 [] [(0, (.sh tI_Plan)), (1, (.sh (TY.list TY.int)))] (.sh TY.bool) (fun _ s => m_hangs_of s.1 s.2.1)) := by
  obtain ⟨fd, F⟩ := hf.c.def_ 19 (d := d32) rfl
  have h := fn_ok F sc_hangs_of (x_hangs_of hf)
  rw [e_hangs_of hf] at h
  exact Fn.mk' F (Says.glo hf 42) (FunD.bindsN F fun _ _ _ _ _ _ us hl => match us, hl with | [_, _], _ => rfl) h
def N_is_bar : List Str := ["plan", "lot"]
theorem sc_is_bar : FnScope N_is_bar ["plan", "lot"] (defScope s33) := ⟨rfl, rfl, rfl, by decide +kernel, rfl, by decide +kernel, by decide +kernel⟩
def x_is_bar {T : Wd} (hf : Hf T) : SJ R ⟨T, N_is_bar, defScope s33, 4, 2, fun _ => true⟩ [] [(0, (.sh tI_Plan)), (1, (.sh (TY.list TY.int)))] (defBody s33) (OZ.r [] (.sh TY.bool)) :=
  (SJ.ret (EJ.and (EP.toEJ (EP.cmp cm2_gt (EP.fn1 fn_len (Bt.fn bt_len) (Says.free hf 5) (EP.var 1)) EP.int)) (EJ.and (EJ.cmp (cm2_notN (t := TY.int)) (EJ.call (F_head_of hf) (AP.toJ (AP.cons (EP.var 0) (AP.cons (EP.var 1) (AP.nil 2))))) (EP.toEJ EP.non)) (EJ.one (EJ.call (F_hangs_of hf) (AP.toJ (AP.cons (EP.var 0) (AP.cons (EP.var 1) (AP.nil 2)))))))))
def m_is_bar (plan : aI_Plan) (lot : (List Int)) : R Bool :=
  (if (decide (1 < (lot.length : Int))) = true then (((m_head_of plan lot) >>= fun (v169 : (Option Int)) => pure (!(v169).isNone)) >>= fun (b178 : Bool) => (if b178 = true then (m_hangs_of plan lot) else pure false)) else pure false)
theorem e_is_bar {T : Wd} (hf : Hf T) : (x_is_bar hf).den = fun _ s => m_is_bar s.1 s.2.1 := by
  funext c s
  unfold x_is_bar m_is_bar
  dsimp only [SJ.ret, EJ.and, EP.toEJ, EP.cmp, EP.fn1, EP.var, EP.int, EJ.cmp, EJ.call, AP.toJ, AP.cons, AP.nil, EP.non, EJ.one, turnF, VJ.cons, EP.ofJ, R.pbind, PM.pbind]
  repeat' (first
    | with_reducible rfl
    | refine mapc (fun _ => ?_) ?_
    | refine loopNc (fun _ _ => ?_) ?_ ?_
    | refine loopFc (fun _ _ => ?_) ?_ ?_
    | refine whileNc (fun _ => ?_) (fun _ => ?_) ?_
    | refine whileFc (fun _ => ?_) (fun _ => ?_) ?_
    | refine compc (fun _ => ?_) (fun _ => ?_) ?_
    | refine noerc ?_
    | refine bindFL ?_ (fun _ => ?_) (fun _ => ?_)
    | refine bindc ?_ (fun _ => ?_)
    | refine itec ?_ ?_ ?_
    | rfl)
theorem F_is_bar {T : Wd} (hf : Hf T) : Fn T 5 "is_bar" ["plan", "lot"] (spF R T.K 2 2 [] [(0, (.sh tI_Plan)), (1, (.sh (TY.list TY.int)))] (.sh TY.bool) (fun _ s => m_is_bar s.1 s.2.1)) := by
  obtain ⟨fd, F⟩ := hf.c.def_ 20 (d := d33) rfl
  have h := fn_ok F sc_is_bar (x_is_bar hf)
  rw [e_is_bar hf] at h
  exact Fn.mk' F (Says.glo hf 43) (FunD.bindsN F fun _ _ _ _ _ _ us hl => match us, hl with | [_, _], _ => rfl) h
def N_is_barred : List Str := ["plan", "value", "here", "lot"]
theorem sc_is_barred : FnScope N_is_barred ["plan", "value"] (defScope s36) := ⟨rfl, rfl, rfl, by decide +kernel, rfl, by decide +kernel, by decide +kernel⟩
def x_is_barred {T : Wd} (hf : Hf T) : SJ R ⟨T, N_is_barred, defScope s36, 5, 4, fun _ => true⟩ [] [(0, (.sh tI_Plan)), (1, (.sh (TY.list TY.int)))] (defBody s36) (OZ.r [] (.sh TY.bool)) :=
  (SJ.setP 2 (EP.call (F_want_plan hf) (fun a => g_want_plan a.1) (fun a => h_want_plan a.1) (AP.cons (EP.var 0) (AP.nil 1))) (SJ.setP 3 (EP.call (F_lot_in hf) (fun a => g_lot_in a.1 a.2.1) (fun a => h_lot_in a.1 a.2.1) (AP.cons (EP.fld (t := TY.int) (EP.var 2) (Says.fld hf 23 33) (fun x : FT fI_Plan => x.1)) (AP.cons (EP.var 1) (AP.nil 2)))) (SJ.ret (EJ.and (EP.toEJ (EP.cmp (cm2_notN (t := (TY.list TY.int))) (EP.var 3) EP.non)) (EJ.one (EJ.call (F_is_bar hf) (AJ.consP (EP.var 2) (AJ.cons (EJ.unopt (EP.toEJ (EP.var 3))) (AJ.nil 2)))))))))
def m_is_barred (plan : aI_Plan) (value : (List Int)) : R Bool :=
  (if (!((g_lot_in ((g_want_plan plan).1) value)).isNone) = true then ((((optM (g_lot_in ((g_want_plan plan).1) value)) >>= fun (x179 : (List Int)) => pure (x179, ())) >>= fun (a180 : (List Int) × Unit) => pure ((g_want_plan plan), a180)) >>= fun (a181 : aI_Plan × (List Int) × Unit) => (m_is_bar a181.1 a181.2.1)) else pure false)
theorem e_is_barred {T : Wd} (hf : Hf T) : (x_is_barred hf).den = fun _ s => m_is_barred s.1 s.2.1 := by
  funext c s
  unfold x_is_barred m_is_barred
  dsimp only [SJ.setP, EP.call, AP.cons, EP.var, AP.nil, EP.fld, SJ.ret, EJ.and, EP.toEJ, EP.cmp, EP.non, EJ.one, EJ.call, AJ.consP, AJ.cons, EJ.unopt, AJ.nil, turnF, VJ.cons, EP.ofJ, R.pbind, PM.pbind]
  repeat' (first
    | with_reducible rfl
    | refine mapc (fun _ => ?_) ?_
    | refine loopNc (fun _ _ => ?_) ?_ ?_
    | refine loopFc (fun _ _ => ?_) ?_ ?_
    | refine whileNc (fun _ => ?_) (fun _ => ?_) ?_
    | refine whileFc (fun _ => ?_) (fun _ => ?_) ?_
    | refine compc (fun _ => ?_) (fun _ => ?_) ?_
    | refine noerc ?_
    | refine bindFL ?_ (fun _ => ?_) (fun _ => ?_)
    | refine bindc ?_ (fun _ => ?_)
    | refine itec ?_ ?_ ?_
    | rfl)
theorem F_is_barred {T : Wd} (hf : Hf T) : Fn T 6 "is_barred" ["plan", "value"] (spF R T.K 2 4 [] [(0, (.sh tI_Plan)), (1, (.sh (TY.list TY.int)))] (.sh TY.bool) (fun _ s => m_is_barred s.1 s.2.1)) := by
  obtain ⟨fd, F⟩ := hf.c.def_ 23 (d := d36) rfl
  have h := fn_ok F sc_is_barred (x_is_barred hf)
  rw [e_is_barred hf] at h
  exact Fn.mk' F (Says.glo hf 44) (FunD.bindsN F fun _ _ _ _ _ _ us hl => match us, hl with | [_, _], _ => rfl) h
def N_want_lot : List Str := ["plan", "value", "found"]
theorem sc_want_lot : FnScope N_want_lot ["plan", "value"] (defScope s28) := ⟨rfl, rfl, rfl, by decide +kernel, rfl, by decide +kernel, by decide +kernel⟩
def x_want_lot {T : Wd} (hf : Hf T) : SJ R ⟨T, N_want_lot, defScope s28, 5, 3, fun _ => true⟩ [] [(0, (.sh tI_Plan)), (1, (.sh (TY.list TY.int)))] (defBody s28) (OZ.r [] (.sh (TY.opt (TY.list TY.int)))) :=
  (SJ.setP 2 (EP.call (F_lot_in hf) (fun a => g_lot_in a.1 a.2.1) (fun a => h_lot_in a.1 a.2.1) (AP.cons (EP.fld (t := TY.int) (EP.var 0) (Says.fld hf 23 33) (fun x : FT fI_Plan => x.1)) (AP.cons (EP.var 1) (AP.nil 2)))) (SJ.ifRr (rwa := []) (TP.toJ (TP.cmp (cm2_isN (t := (TY.list TY.int))) (EP.var 2) EP.non)) (SJ.never (rw' := [])) (SJ.retP (EP.var 2))))
def m_want_lot (plan : aI_Plan) (value : (List Int)) : R (Option (List Int)) :=
  (if ((g_lot_in plan.1 value)).isNone = true then Eff.bad else pure (g_lot_in plan.1 value))
theorem e_want_lot {T : Wd} (hf : Hf T) : (x_want_lot hf).den = fun _ s => m_want_lot s.1 s.2.1 := by
  funext c s
  unfold x_want_lot m_want_lot
  dsimp only [SJ.setP, EP.call, AP.cons, EP.fld, EP.var, AP.nil, SJ.ifRr, TP.toJ, TP.cmp, EP.non, SJ.never, SJ.retP, turnF, VJ.cons, EP.ofJ, R.pbind, PM.pbind]
  repeat' (first
    | with_reducible rfl
    | refine mapc (fun _ => ?_) ?_
    | refine loopNc (fun _ _ => ?_) ?_ ?_
    | refine loopFc (fun _ _ => ?_) ?_ ?_
    | refine whileNc (fun _ => ?_) (fun _ => ?_) ?_
    | refine whileFc (fun _ => ?_) (fun _ => ?_) ?_
    | refine compc (fun _ => ?_) (fun _ => ?_) ?_
    | refine noerc ?_
    | refine bindFL ?_ (fun _ => ?_) (fun _ => ?_)
    | refine bindc ?_ (fun _ => ?_)
    | refine itec ?_ ?_ ?_
    | rfl)
theorem F_want_lot {T : Wd} (hf : Hf T) : Fn T 6 "want_lot" ["plan", "value"] (spF R T.K 2 3 [] [(0, (.sh tI_Plan)), (1, (.sh (TY.list TY.int)))] (.sh (TY.opt (TY.list TY.int))) (fun _ s => m_want_lot s.1 s.2.1)) := by
  obtain ⟨fd, F⟩ := hf.c.def_ 15 (d := d28) rfl
  have h := fn_ok F sc_want_lot (x_want_lot hf)
  rw [e_want_lot hf] at h
  exact Fn.mk' F (Says.glo hf 45) (FunD.bindsN F fun _ _ _ _ _ _ us hl => match us, hl with | [_, _], _ => rfl) h
def N_head : List Str := ["plan", "lot", "here"]
theorem sc_head : FnScope N_head ["plan", "lot"] (defScope s34) := ⟨rfl, rfl, rfl, by decide +kernel, rfl, by decide +kernel, by decide +kernel⟩
def x_head {T : Wd} (hf : Hf T) : SJ R ⟨T, N_head, defScope s34, 6, 3, fun _ => true⟩ [] [(0, (.sh tI_Plan)), (1, (.sh (TY.list TY.int)))] (defBody s34) (OZ.r [] (.sh (TY.opt TY.int))) :=
  (SJ.setP 2 (EP.call (F_want_plan hf) (fun a => g_want_plan a.1) (fun a => h_want_plan a.1) (AP.cons (EP.var 0) (AP.nil 1))) (SJ.ret (EJ.call (F_head_of hf) (AJ.consP (EP.var 2) (AJ.cons (EJ.unopt (EJ.call (F_want_lot hf) (AP.toJ (AP.cons (EP.var 2) (AP.cons (EP.var 1) (AP.nil 2)))))) (AJ.nil 2))))))
def m_head (plan : aI_Plan) (lot : (List Int)) : R (Option Int) :=
  (((((m_want_lot (g_want_plan plan) lot) >>= fun (v183 : (Option (List Int))) => (optM v183)) >>= fun (x184 : (List Int)) => pure (x184, ())) >>= fun (a185 : (List Int) × Unit) => pure ((g_want_plan plan), a185)) >>= fun (a186 : aI_Plan × (List Int) × Unit) => (m_head_of a186.1 a186.2.1))
theorem e_head {T : Wd} (hf : Hf T) : (x_head hf).den = fun _ s => m_head s.1 s.2.1 := by
  funext c s
  unfold x_head m_head
  dsimp only [SJ.setP, EP.call, AP.cons, EP.var, AP.nil, SJ.ret, EJ.call, AJ.consP, AJ.cons, EJ.unopt, AP.toJ, AJ.nil, turnF, VJ.cons, EP.ofJ, R.pbind, PM.pbind]
  repeat' (first
    | with_reducible rfl
    | refine mapc (fun _ => ?_) ?_
    | refine loopNc (fun _ _ => ?_) ?_ ?_
    | refine loopFc (fun _ _ => ?_) ?_ ?_
    | refine whileNc (fun _ => ?_) (fun _ => ?_) ?_
    | refine whileFc (fun _ => ?_) (fun _ => ?_) ?_
    | refine compc (fun _ => ?_) (fun _ => ?_) ?_
    | refine noerc ?_
    | refine bindFL ?_ (fun _ => ?_) (fun _ => ?_)
    | refine bindc ?_ (fun _ => ?_)
    | refine itec ?_ ?_ ?_
    | rfl)
theorem F_head {T : Wd} (hf : Hf T) : Fn T 7 "head" ["plan", "lot"] (spF R T.K 2 3 [] [(0, (.sh tI_Plan)), (1, (.sh (TY.list TY.int)))] (.sh (TY.opt TY.int)) (fun _ s => m_head s.1 s.2.1)) := by
  obtain ⟨fd, F⟩ := hf.c.def_ 21 (d := d34) rfl
  have h := fn_ok F sc_head (x_head hf)
  rw [e_head hf] at h
  exact Fn.mk' F (Says.glo hf 46) (FunD.bindsN F fun _ _ _ _ _ _ us hl => match us, hl with | [_, _], _ => rfl) h
def N_want_thing : List Str := ["plan", "value"]
theorem sc_want_thing : FnScope N_want_thing ["plan", "value"] (defScope s27) := ⟨rfl, rfl, rfl, by decide +kernel, rfl, by decide +kernel, by decide +kernel⟩
def x_want_thing {T : Wd} (hf : Hf T) : SJ R ⟨T, N_want_thing, defScope s27, 4, 2, fun _ => true⟩ [] [(0, (.sh tI_Plan)), (1, (.sh TY.int))] (defBody s27) (OZ.n [(0, (.sh tI_Plan)), (1, (.sh TY.int))] (.sh .non)) :=
  (SJ.ifN (TP.toJ (TP.not (EP.toT (EP.call (F_is_thing hf) (fun a => g_is_thing a.1 a.2.1) (fun a => h_is_thing a.1 a.2.1) (AP.cons (EP.fld (t := TY.int) (EP.var 0) (Says.fld hf 23 33) (fun x : FT fI_Plan => x.1)) (AP.cons (EP.var 1) (AP.nil 2))))))) SJ.never SJ.nil SJ.nil)
def m_want_thing (plan : aI_Plan) (value : Int) : R Unit :=
  (((if (!(g_is_thing plan.1 value)) = true then Eff.bad else pure (plan, value, ())) >>= fun (s190 : aI_Plan × Int × Unit) => pure (s190.1, s190.2.1, ())) >>= fun (e191 : aI_Plan × Int × Unit) => pure ())
theorem e_want_thing {T : Wd} (hf : Hf T) : (fun c s => (x_want_thing hf).den c s >>= fun _ => (pure () : R Unit)) = fun _ s => m_want_thing s.1 s.2.1 := by
  funext c s
  unfold x_want_thing m_want_thing
  dsimp only [SJ.ifN, TP.toJ, TP.not, EP.toT, EP.call, AP.cons, EP.fld, EP.var, AP.nil, SJ.never, SJ.nil, turnF, VJ.cons, EP.ofJ, R.pbind, PM.pbind]
  repeat' (first
    | with_reducible rfl
    | refine mapc (fun _ => ?_) ?_
    | refine loopNc (fun _ _ => ?_) ?_ ?_
    | refine loopFc (fun _ _ => ?_) ?_ ?_
    | refine whileNc (fun _ => ?_) (fun _ => ?_) ?_
    | refine whileFc (fun _ => ?_) (fun _ => ?_) ?_
    | refine compc (fun _ => ?_) (fun _ => ?_) ?_
    | refine noerc ?_
    | refine bindFL ?_ (fun _ => ?_) (fun _ => ?_)
    | refine bindc ?_ (fun _ => ?_)
    | refine itec ?_ ?_ ?_
    | rfl)
theorem F_want_thing {T : Wd} (hf : Hf T) : Fn T 5 "want_thing" ["plan", "value"] (spF R T.K 2 2 [] [(0, (.sh tI_Plan)), (1, (.sh TY.int))] (.sh TY.non) (fun _ s => m_want_thing s.1 s.2.1)) := by
  obtain ⟨fd, F⟩ := hf.c.def_ 14 (d := d27) rfl
  have h := fn_okN F sc_want_thing (x_want_thing hf)
  rw [e_want_thing hf] at h
  exact Fn.mk' F (Says.glo hf 47) (FunD.bindsN F fun _ _ _ _ _ _ us hl => match us, hl with | [_, _], _ => rfl) h
def N_greatest_of : List Str := ["plan", "thing", "lot", "many"]
theorem sc_greatest_of : FnScope N_greatest_of ["plan", "thing"] (defScope s37) := ⟨rfl, rfl, rfl, by decide +kernel, rfl, by decide +kernel, by decide +kernel⟩
def x_greatest_of {T : Wd} (hf : Hf T) : SJ R ⟨T, N_greatest_of, defScope s37, 3, 4, fun _ => true⟩ [] [(0, (.sh tI_Plan)), (1, (.sh TY.int))] (defBody s37) (OZ.r [] (.sh (TY.list TY.int))) :=
  (SJ.par2 (i := 2) (j := 3) (VJ.cons (EJ.share (EJ.listRg1 (EP.toEJ (EP.fld (t := TY.int) (EP.var 0) (Says.fld hf 23 33) (fun x : FT fI_Plan => x.1))) (Says.free hf 3) (Says.free hf 4))) (VJ.consP (EP.neg EP.int) VJ.nil)) (SJ.whileN 1000 [2, 3] (TP.toJ (TP.cmp cm2_neI (EP.var 3) (EP.fn1 fn_len (Bt.fn bt_len) (Says.free hf 5) (EP.var 2)))) (SJ.setP 3 (EP.fn1 fn_len (Bt.fn bt_len) (Says.free hf 5) (EP.var 2)) (SJ.set 2 (EJ.share (EJ.call (F_part_in hf) (AJ.consP (EP.fld (t := (TY.list (TY.tup2 TY.int TY.int))) (EP.var 0) (Says.fld hf 23 32) (fun x : FT fI_Plan => x.2.2.1)) (AJ.cons (EJ.share (EJ.call (F_leaders hf) (AP.toJ (AP.cons (EP.fld (t := (TY.list (TY.tup2 TY.int TY.int))) (EP.var 0) (Says.fld hf 23 24) (fun x : FT fI_Plan => x.2.1)) (AP.cons (EP.var 2) (AP.cons (EP.var 1) (AP.nil 3))))))) (AJ.consP (EP.var 1) (AJ.nil 3)))))) SJ.nil)) (SJ.retP (EP.var 2))) (fun env h => by cases env; cases h; rfl))
def m_greatest_of (plan : aI_Plan) (thing : Int) : R (List Int) :=
  (((optM (rgL 0 plan.1)) >>= fun (x205 : (List Int)) => pure (x205, (-1), ())) >>= fun (v206 : (List Int) × Int × Unit) => ((Tp.whileN (fun (s207 : (List Int) × Int × Unit) => (pure (!decide (s207.2.1 = (s207.1.length : Int))) : R Bool)) (fun (s208 : (List Int) × Int × Unit) => (((((((m_leaders plan.2.1 s208.1 thing) >>= fun (x209 : (List Int)) => pure (x209, thing, ())) >>= fun (a210 : (List Int) × Int × Unit) => pure (plan.2.2.1, a210)) >>= fun (a211 : (List (Int × Int)) × (List Int) × Int × Unit) => (m_part_in a211.1 a211.2.1 a211.2.2.1)) >>= fun (lot212 : (List Int)) => pure (lot212, (s208.1.length : Int), ())) >>= fun (e213 : (List Int) × Int × Unit) => pure (e213.1, e213.2.1, ())) : R ((List Int) × Int × Unit))) 1000 (v206.1, v206.2.1, ()) >>= fun (m214 : (List Int) × Int × Unit) => pure (plan, thing, m214.1, m214.2.1, ())) >>= fun (s215 : aI_Plan × Int × (List Int) × Int × Unit) => pure s215.2.2.1))
theorem e_greatest_of {T : Wd} (hf : Hf T) : (x_greatest_of hf).den = fun _ s => m_greatest_of s.1 s.2.1 := by
  funext c s
  unfold x_greatest_of m_greatest_of
  dsimp only [SJ.par2, VJ.cons, EJ.share, EJ.listRg1, EP.toEJ, EP.fld, EP.var, VJ.consP, EP.neg, EP.int, VJ.nil, SJ.whileN, TP.toJ, TP.cmp, EP.fn1, SJ.setP, SJ.set, EJ.call, AJ.consP, AJ.cons, AP.toJ, AP.cons, AP.nil, AJ.nil, SJ.nil, SJ.retP, turnF, VJ.cons, EP.ofJ, R.pbind, PM.pbind]
  repeat' (first
    | with_reducible rfl
    | refine mapc (fun _ => ?_) ?_
    | refine loopNc (fun _ _ => ?_) ?_ ?_
    | refine loopFc (fun _ _ => ?_) ?_ ?_
    | refine whileNc (fun _ => ?_) (fun _ => ?_) ?_
    | refine whileFc (fun _ => ?_) (fun _ => ?_) ?_
    | refine compc (fun _ => ?_) (fun _ => ?_) ?_
    | refine noerc ?_
    | refine bindFL ?_ (fun _ => ?_) (fun _ => ?_)
    | refine bindc ?_ (fun _ => ?_)
    | refine itec ?_ ?_ ?_
    | rfl)
theorem F_greatest_of {T : Wd} (hf : Hf T) : Fn T 4 "greatest_of" ["plan", "thing"] (spF R T.K 2 4 [] [(0, (.sh tI_Plan)), (1, (.sh TY.int))] (.sh (TY.list TY.int)) (fun _ s => m_greatest_of s.1 s.2.1)) := by
  obtain ⟨fd, F⟩ := hf.c.def_ 24 (d := d37) rfl
  have h := fn_ok F sc_greatest_of (x_greatest_of hf)
  rw [e_greatest_of hf] at h
  exact Fn.mk' F (Says.glo hf 48) (FunD.bindsN F fun _ _ _ _ _ _ us hl => match us, hl with | [_, _], _ => rfl) h
def N_greatest_lot : List Str := ["plan", "thing", "here"]
theorem sc_greatest_lot : FnScope N_greatest_lot ["plan", "thing"] (defScope s42) := ⟨rfl, rfl, rfl, by decide +kernel, rfl, by decide +kernel, by decide +kernel⟩
def x_greatest_lot {T : Wd} (hf : Hf T) : SJ R ⟨T, N_greatest_lot, defScope s42, 5, 3, fun _ => true⟩ [] [(0, (.sh tI_Plan)), (1, (.sh TY.int))] (defBody s42) (OZ.r [] (.sh (TY.list TY.int))) :=
  (SJ.setP 2 (EP.call (F_want_plan hf) (fun a => g_want_plan a.1) (fun a => h_want_plan a.1) (AP.cons (EP.var 0) (AP.nil 1))) (SJ.expr (EJ.toM (EJ.call (F_want_thing hf) (AP.toJ (AP.cons (EP.var 2) (AP.cons (EP.var 1) (AP.nil 2)))))) (SJ.ret (EJ.call (F_greatest_of hf) (AP.toJ (AP.cons (EP.var 2) (AP.cons (EP.var 1) (AP.nil 2))))))))
def m_greatest_lot (plan : aI_Plan) (thing : Int) : R (List Int) :=
  (((m_want_thing (g_want_plan plan) thing) >>= fun (v216 : Unit) => pure ((plan, thing, (g_want_plan plan), ()), v216)) >>= fun (y217 : (aI_Plan × Int × aI_Plan × Unit) × Unit) => (m_greatest_of y217.1.2.2.1 y217.1.2.1))
theorem e_greatest_lot {T : Wd} (hf : Hf T) : (x_greatest_lot hf).den = fun _ s => m_greatest_lot s.1 s.2.1 := by
  funext c s
  unfold x_greatest_lot m_greatest_lot
  dsimp only [SJ.setP, EP.call, AP.cons, EP.var, AP.nil, SJ.expr, EJ.toM, EJ.call, AP.toJ, SJ.ret, turnF, VJ.cons, EP.ofJ, R.pbind, PM.pbind]
  repeat' (first
    | with_reducible rfl
    | refine mapc (fun _ => ?_) ?_
    | refine loopNc (fun _ _ => ?_) ?_ ?_
    | refine loopFc (fun _ _ => ?_) ?_ ?_
    | refine whileNc (fun _ => ?_) (fun _ => ?_) ?_
    | refine whileFc (fun _ => ?_) (fun _ => ?_) ?_
    | refine compc (fun _ => ?_) (fun _ => ?_) ?_
    | refine noerc ?_
    | refine bindFL ?_ (fun _ => ?_) (fun _ => ?_)
    | refine bindc ?_ (fun _ => ?_)
    | refine itec ?_ ?_ ?_
    | rfl)
theorem F_greatest_lot {T : Wd} (hf : Hf T) : Fn T 6 "greatest_lot" ["plan", "thing"] (spF R T.K 2 3 [] [(0, (.sh tI_Plan)), (1, (.sh TY.int))] (.sh (TY.list TY.int)) (fun _ s => m_greatest_lot s.1 s.2.1)) := by
  obtain ⟨fd, F⟩ := hf.c.def_ 29 (d := d42) rfl
  have h := fn_ok F sc_greatest_lot (x_greatest_lot hf)
  rw [e_greatest_lot hf] at h
  exact Fn.mk' F (Says.glo hf 49) (FunD.bindsN F fun _ _ _ _ _ _ us hl => match us, hl with | [_, _], _ => rfl) h
def N_plain_of : List Str := ["plan", "thing"]
theorem sc_plain_of : FnScope N_plain_of ["plan"] (defScope s40) := ⟨rfl, rfl, rfl, by decide +kernel, rfl, by decide +kernel, by decide +kernel⟩
def x_plain_of {T : Wd} (hf : Hf T) : SJ R ⟨T, N_plain_of, defScope s40, 4, 2, fun _ => true⟩ [] [(0, (.sh tI_Plan))] (defBody s40) (OZ.r [] (.sh TY.bool)) :=
  (SJ.ret (EJ.fn1 fn_all (Bt.fn bt_all) (Says.free hf 19) (EJ.share (EJ.lc [("thing", 1)] (IJ.range1 (EP.toEJ (EP.fld (t := TY.int) (EP.var 0) (Says.fld hf 23 33) (fun x : FT fI_Plan => x.1))) (Says.free hf 4)) (TG1.name 1) CJ.nil (EJ.cmp cm2_eqI (EJ.fn1 fn_len (Bt.fn bt_len) (Says.free hf 5) (EJ.call (F_greatest_of hf) (AP.toJ (AP.cons (EP.var 0) (AP.cons (EP.var 1) (AP.nil 2)))))) (EP.toEJ EP.int))))))
def m_plain_of (plan : aI_Plan) : R Bool :=
  (((optM (rng1 plan.1)) >>= fun (l227 : List Int) => (Eff.noer (compM (M := R) (compF (M := R) (fun (y224 : Int) => pure true) (fun (y224 : Int) => (((m_greatest_of plan y224) >>= fun (v225 : (List Int)) => pure (v225.length : Int)) >>= fun (v226 : Int) => pure (decide (v226 = 1))))) l227))) >>= fun (v228 : (List Bool)) => pure (List.all v228 id))
theorem e_plain_of {T : Wd} (hf : Hf T) : (x_plain_of hf).den = fun _ s => m_plain_of s.1 := by
  funext c s
  unfold x_plain_of m_plain_of
  dsimp only [SJ.ret, EJ.fn1, EJ.share, EJ.lc, IJ.range1, EP.toEJ, EP.fld, EP.var, TG1.name, CJ.nil, EJ.cmp, EJ.call, AP.toJ, AP.cons, AP.nil, EP.int, turnF, VJ.cons, EP.ofJ, R.pbind, PM.pbind]
  repeat' (first
    | with_reducible rfl
    | refine mapc (fun _ => ?_) ?_
    | refine loopNc (fun _ _ => ?_) ?_ ?_
    | refine loopFc (fun _ _ => ?_) ?_ ?_
    | refine whileNc (fun _ => ?_) (fun _ => ?_) ?_
    | refine whileFc (fun _ => ?_) (fun _ => ?_) ?_
    | refine compc (fun _ => ?_) (fun _ => ?_) ?_
    | refine noerc ?_
    | refine bindFL ?_ (fun _ => ?_) (fun _ => ?_)
    | refine bindc ?_ (fun _ => ?_)
    | refine itec ?_ ?_ ?_
    | rfl)
theorem F_plain_of {T : Wd} (hf : Hf T) : Fn T 5 "plain_of" ["plan"] (spF R T.K 1 2 [] [(0, (.sh tI_Plan))] (.sh TY.bool) (fun _ s => m_plain_of s.1)) := by
  obtain ⟨fd, F⟩ := hf.c.def_ 27 (d := d40) rfl
  have h := fn_ok F sc_plain_of (x_plain_of hf)
  rw [e_plain_of hf] at h
  exact Fn.mk' F (Says.glo hf 50) (FunD.bindsN F fun _ _ _ _ _ _ us hl => match us, hl with | [_], _ => rfl) h
def N_is_plain : List Str := ["plan"]
theorem sc_is_plain : FnScope N_is_plain ["plan"] (defScope s45) := ⟨rfl, rfl, rfl, by decide +kernel, rfl, by decide +kernel, by decide +kernel⟩
def x_is_plain {T : Wd} (hf : Hf T) : SJ R ⟨T, N_is_plain, defScope s45, 5, 1, fun _ => true⟩ [] [(0, (.sh tI_Plan))] (defBody s45) (OZ.r [] (.sh TY.bool)) :=
  (SJ.ret (EJ.call (F_plain_of hf) (AP.toJ (AP.cons (EP.call (F_want_plan hf) (fun a => g_want_plan a.1) (fun a => h_want_plan a.1) (AP.cons (EP.var 0) (AP.nil 1))) (AP.nil 1)))))
def m_is_plain (plan : aI_Plan) : R Bool :=
  (m_plain_of (g_want_plan plan))
theorem e_is_plain {T : Wd} (hf : Hf T) : (x_is_plain hf).den = fun _ s => m_is_plain s.1 := by
  funext c s
  unfold x_is_plain m_is_plain
  dsimp only [SJ.ret, EJ.call, AP.toJ, AP.cons, EP.call, EP.var, AP.nil, turnF, VJ.cons, EP.ofJ, R.pbind, PM.pbind]
  repeat' (first
    | with_reducible rfl
    | refine mapc (fun _ => ?_) ?_
    | refine loopNc (fun _ _ => ?_) ?_ ?_
    | refine loopFc (fun _ _ => ?_) ?_ ?_
    | refine whileNc (fun _ => ?_) (fun _ => ?_) ?_
    | refine whileFc (fun _ => ?_) (fun _ => ?_) ?_
    | refine compc (fun _ => ?_) (fun _ => ?_) ?_
    | refine noerc ?_
    | refine bindFL ?_ (fun _ => ?_) (fun _ => ?_)
    | refine bindc ?_ (fun _ => ?_)
    | refine itec ?_ ?_ ?_
    | rfl)
theorem F_is_plain {T : Wd} (hf : Hf T) : Fn T 6 "is_plain" ["plan"] (spF R T.K 1 1 [] [(0, (.sh tI_Plan))] (.sh TY.bool) (fun _ s => m_is_plain s.1)) := by
  obtain ⟨fd, F⟩ := hf.c.def_ 32 (d := d45) rfl
  have h := fn_ok F sc_is_plain (x_is_plain hf)
  rw [e_is_plain hf] at h
  exact Fn.mk' F (Says.glo hf 51) (FunD.bindsN F fun _ _ _ _ _ _ us hl => match us, hl with | [_], _ => rfl) h
def N_bar_of : List Str := ["plan", "here", "thing", "lot"]
theorem sc_bar_of : FnScope N_bar_of ["plan"] (defScope s46) := ⟨rfl, rfl, rfl, by decide +kernel, rfl, by decide +kernel, by decide +kernel⟩
def x_bar_of {T : Wd} (hf : Hf T) : SJ R ⟨T, N_bar_of, defScope s46, 4, 4, fun _ => true⟩ [] [(0, (.sh tI_Plan))] (defBody s46) (OZ.r [] (.sh (TY.opt (TY.list TY.int)))) :=
  (SJ.setP 1 (EP.call (F_want_plan hf) (fun a => g_want_plan a.1) (fun a => h_want_plan a.1) (AP.cons (EP.var 0) (AP.nil 1))) (SJ.forB [] (IJ.range1 (EP.toEJ (EP.fld (t := TY.int) (EP.var 1) (Says.fld hf 23 33) (fun x : FT fI_Plan => x.1))) (Says.free hf 4)) (TG1.name 2) (SJ.set 3 (EJ.call (F_greatest_of hf) (AP.toJ (AP.cons (EP.var 1) (AP.cons (EP.var 2) (AP.nil 2))))) (SJ.ifR (rwa := []) (TP.toJ (TP.cmp cm2_gt (EP.fn1 fn_len (Bt.fn bt_len) (Says.free hf 5) (EP.var 3)) EP.int)) (SJ.retP (EP.toOpt (EP.var 3))) SJ.nilB FL.rt)) (SJ.retP (EP.nonOpt (t := (TY.list TY.int)) EP.non)) (fun v => v)))
def m_bar_of (plan : aI_Plan) : R (Option (List Int)) :=
  (((optM (rng1 ((g_want_plan plan).1))) >>= fun (l235 : List Int) => (Tp.loopF (fun (y230 : Int) (s231 : Unit) => ((((m_greatest_of (g_want_plan plan) y230) >>= fun (lot232 : (List Int)) => (if (decide (1 < (lot232.length : Int))) = true then pure (FL.rt (some lot232)) else pure (FL.nx (y230, lot232, ())))) >>= fun (z234 : FL (Int × (List Int) × Unit) (Option (List Int))) => pure (FL.map (fun (e233 : Int × (List Int) × Unit) => ()) z234)) : R (FL (Unit) (Option (List Int))))) l235 () >>= fun (fl : FL (Unit) (Option (List Int))) => pure (FL.map (fun (m236 : Unit) => (plan, (g_want_plan plan), ())) fl))) >>= fun (o238 : FL (aI_Plan × aI_Plan × Unit) (Option (List Int))) => match o238 with | .nx s237 => pure none | .rt w239 => pure w239)
theorem e_bar_of {T : Wd} (hf : Hf T) : (x_bar_of hf).den = fun _ s => m_bar_of s.1 := by
  funext c s
  unfold x_bar_of m_bar_of
  dsimp only [SJ.setP, EP.call, AP.cons, EP.var, AP.nil, SJ.forB, IJ.range1, EP.toEJ, EP.fld, TG1.name, SJ.set, EJ.call, AP.toJ, SJ.ifR, TP.toJ, TP.cmp, EP.fn1, EP.int, SJ.retP, EP.toOpt, SJ.nilB, EP.nonOpt, EP.non, turnF, VJ.cons, EP.ofJ, R.pbind, PM.pbind]
  repeat' (first
    | with_reducible rfl
    | refine mapc (fun _ => ?_) ?_
    | refine loopNc (fun _ _ => ?_) ?_ ?_
    | refine loopFc (fun _ _ => ?_) ?_ ?_
    | refine whileNc (fun _ => ?_) (fun _ => ?_) ?_
    | refine whileFc (fun _ => ?_) (fun _ => ?_) ?_
    | refine compc (fun _ => ?_) (fun _ => ?_) ?_
    | refine noerc ?_
    | refine bindFL ?_ (fun _ => ?_) (fun _ => ?_)
    | refine bindc ?_ (fun _ => ?_)
    | refine itec ?_ ?_ ?_
    | rfl)
theorem F_bar_of {T : Wd} (hf : Hf T) : Fn T 5 "bar_of" ["plan"] (spF R T.K 1 4 [] [(0, (.sh tI_Plan))] (.sh (TY.opt (TY.list TY.int))) (fun _ s => m_bar_of s.1)) := by
  obtain ⟨fd, F⟩ := hf.c.def_ 33 (d := d46) rfl
  have h := fn_ok F sc_bar_of (x_bar_of hf)
  rw [e_bar_of hf] at h
  exact Fn.mk' F (Says.glo hf 52) (FunD.bindsN F fun _ _ _ _ _ _ us hl => match us, hl with | [_], _ => rfl) h
def N_all_lots : List Str := ["size", "found", "thing", "lot"]
theorem sc_all_lots : FnScope N_all_lots ["size"] (defScope s38) := ⟨rfl, rfl, rfl, by decide +kernel, rfl, by decide +kernel, by decide +kernel⟩
def x_all_lots {T : Wd} (hf : Hf T) : SJ R ⟨T, N_all_lots, defScope s38, 1, 4, fun _ => true⟩ [] [(0, (.sh TY.int))] (defBody s38) (OZ.r [] (.o1 (TY.list TY.int))) :=
  (SJ.setP 1 (EP.lst (LP.cons (EP.lst (LP.nil (t := TY.int))) (LP.nil (t := (TY.list TY.int))))) (SJ.forN [1] (IJ.range1 (EP.toEJ (EP.var 0)) (Says.free hf 4)) (TG1.name 2) (SJ.set 1 (EJ.share (EJ.cat (EP.toEJ (EP.var 1)) (EJ.share (EJ.lc [("lot", 3)] (IP.toIJ (IP.list (EP.var 1))) (TG1.name 3) CJ.nil (EJ.share (EJ.cat (EP.toEJ (EP.var 3)) (EP.toEJ (EP.lst (LP.cons (EP.var 2) (LP.nil (t := TY.int))))))))))) SJ.nil) (SJ.ret (EJ.fnL (fl_sorted SortT.rows) (Bt.fn bt_sorted) (Says.free hf 10) (EP.toEJ (EP.var 1))))))
def m_all_lots (size : Int) : R (List (List Int)) :=
  (((optM (rng1 size)) >>= fun (l247 : List Int) => (Tp.loopN (fun (y241 : Int) (s242 : (List (List Int)) × Unit) => (((((Eff.noer (compM (M := R) (compF (M := R) (fun (y243 : (List Int)) => pure true) (fun (y243 : (List Int)) => (optM (catO y243 [y241])))) s242.1)) >>= fun (v244 : (List (List Int))) => (optM (catO s242.1 v244))) >>= fun (found245 : (List (List Int))) => pure (y241, found245, ())) >>= fun (e246 : Int × (List (List Int)) × Unit) => pure (e246.2.1, ())) : R ((List (List Int)) × Unit))) l247 ([([] : List Int)], ()) >>= fun (m248 : (List (List Int)) × Unit) => pure (size, m248.1, ()))) >>= fun (s249 : Int × (List (List Int)) × Unit) => pure (List.mergeSort s249.2.1 (SortT.rows).le))
theorem e_all_lots {T : Wd} (hf : Hf T) : (x_all_lots hf).den = fun _ s => m_all_lots s.1 := by
  funext c s
  unfold x_all_lots m_all_lots
  dsimp only [SJ.setP, EP.lst, LP.cons, LP.nil, SJ.forN, IJ.range1, EP.toEJ, EP.var, TG1.name, SJ.set, EJ.share, EJ.cat, EJ.lc, IP.toIJ, IP.list, CJ.nil, SJ.nil, SJ.ret, EJ.fnL, turnF, VJ.cons, EP.ofJ, R.pbind, PM.pbind]
  repeat' (first
    | with_reducible rfl
    | refine mapc (fun _ => ?_) ?_
    | refine loopNc (fun _ _ => ?_) ?_ ?_
    | refine loopFc (fun _ _ => ?_) ?_ ?_
    | refine whileNc (fun _ => ?_) (fun _ => ?_) ?_
    | refine whileFc (fun _ => ?_) (fun _ => ?_) ?_
    | refine compc (fun _ => ?_) (fun _ => ?_) ?_
    | refine noerc ?_
    | refine bindFL ?_ (fun _ => ?_) (fun _ => ?_)
    | refine bindc ?_ (fun _ => ?_)
    | refine itec ?_ ?_ ?_
    | rfl)
theorem F_all_lots {T : Wd} (hf : Hf T) : Fn T 2 "all_lots" ["size"] (spF R T.K 1 4 [] [(0, (.sh TY.int))] (.o1 (TY.list TY.int)) (fun _ s => m_all_lots s.1)) := by
  obtain ⟨fd, F⟩ := hf.c.def_ 25 (d := d38) rfl
  have h := fn_ok F sc_all_lots (x_all_lots hf)
  rw [e_all_lots hf] at h
  exact Fn.mk' F (Says.glo hf 53) (FunD.bindsN F fun _ _ _ _ _ _ us hl => match us, hl with | [_], _ => rfl) h
def N_bars_of : List Str := ["plan", "lot"]
theorem sc_bars_of : FnScope N_bars_of ["plan"] (defScope s39) := ⟨rfl, rfl, rfl, by decide +kernel, rfl, by decide +kernel, by decide +kernel⟩
def x_bars_of {T : Wd} (hf : Hf T) : SJ R ⟨T, N_bars_of, defScope s39, 5, 2, fun _ => true⟩ [] [(0, (.sh tI_Plan))] (defBody s39) (OZ.r [] (.o1 (TY.list TY.int))) :=
  (SJ.ret (EJ.lc [("lot", 1)] (IJ.list (EJ.share (EJ.call (F_all_lots hf) (AP.toJ (AP.cons (EP.fld (t := TY.int) (EP.var 0) (Says.fld hf 23 33) (fun x : FT fI_Plan => x.1)) (AP.nil 1)))))) (TG1.name 1) (CJ.one (EJ.toT (EJ.call (F_is_bar hf) (AP.toJ (AP.cons (EP.var 0) (AP.cons (EP.var 1) (AP.nil 2))))))) (EP.toEJ (EP.var 1))))
def m_bars_of (plan : aI_Plan) : R (List (List Int)) :=
  ((m_all_lots plan.1) >>= fun (l251 : List (List Int)) => (Eff.noer (compM (M := R) (compF (M := R) (fun (y250 : (List Int)) => (m_is_bar plan y250)) (fun (y250 : (List Int)) => pure y250)) l251)))
theorem e_bars_of {T : Wd} (hf : Hf T) : (x_bars_of hf).den = fun _ s => m_bars_of s.1 := by
  funext c s
  unfold x_bars_of m_bars_of
  dsimp only [SJ.ret, EJ.lc, IJ.list, EJ.share, EJ.call, AP.toJ, AP.cons, EP.fld, EP.var, AP.nil, TG1.name, CJ.one, EJ.toT, EP.toEJ, turnF, VJ.cons, EP.ofJ, R.pbind, PM.pbind]
  repeat' (first
    | with_reducible rfl
    | refine mapc (fun _ => ?_) ?_
    | refine loopNc (fun _ _ => ?_) ?_ ?_
    | refine loopFc (fun _ _ => ?_) ?_ ?_
    | refine whileNc (fun _ => ?_) (fun _ => ?_) ?_
    | refine whileFc (fun _ => ?_) (fun _ => ?_) ?_
    | refine compc (fun _ => ?_) (fun _ => ?_) ?_
    | refine noerc ?_
    | refine bindFL ?_ (fun _ => ?_) (fun _ => ?_)
    | refine bindc ?_ (fun _ => ?_)
    | refine itec ?_ ?_ ?_
    | rfl)
theorem F_bars_of {T : Wd} (hf : Hf T) : Fn T 6 "bars_of" ["plan"] (spF R T.K 1 2 [] [(0, (.sh tI_Plan))] (.o1 (TY.list TY.int)) (fun _ s => m_bars_of s.1)) := by
  obtain ⟨fd, F⟩ := hf.c.def_ 26 (d := d39) rfl
  have h := fn_ok F sc_bars_of (x_bars_of hf)
  rw [e_bars_of hf] at h
  exact Fn.mk' F (Says.glo hf 54) (FunD.bindsN F fun _ _ _ _ _ _ us hl => match us, hl with | [_], _ => rfl) h
def N_barred_lots : List Str := ["plan"]
theorem sc_barred_lots : FnScope N_barred_lots ["plan"] (defScope s43) := ⟨rfl, rfl, rfl, by decide +kernel, rfl, by decide +kernel, by decide +kernel⟩
def x_barred_lots {T : Wd} (hf : Hf T) : SJ R ⟨T, N_barred_lots, defScope s43, 6, 1, fun _ => true⟩ [] [(0, (.sh tI_Plan))] (defBody s43) (OZ.r [] (.o1 (TY.list TY.int))) :=
  (SJ.ret (EJ.call (F_bars_of hf) (AP.toJ (AP.cons (EP.call (F_want_plan hf) (fun a => g_want_plan a.1) (fun a => h_want_plan a.1) (AP.cons (EP.var 0) (AP.nil 1))) (AP.nil 1)))))
def m_barred_lots (plan : aI_Plan) : R (List (List Int)) :=
  (m_bars_of (g_want_plan plan))
theorem e_barred_lots {T : Wd} (hf : Hf T) : (x_barred_lots hf).den = fun _ s => m_barred_lots s.1 := by
  funext c s
  unfold x_barred_lots m_barred_lots
  dsimp only [SJ.ret, EJ.call, AP.toJ, AP.cons, EP.call, EP.var, AP.nil, turnF, VJ.cons, EP.ofJ, R.pbind, PM.pbind]
  repeat' (first
    | with_reducible rfl
    | refine mapc (fun _ => ?_) ?_
    | refine loopNc (fun _ _ => ?_) ?_ ?_
    | refine loopFc (fun _ _ => ?_) ?_ ?_
    | refine whileNc (fun _ => ?_) (fun _ => ?_) ?_
    | refine whileFc (fun _ => ?_) (fun _ => ?_) ?_
    | refine compc (fun _ => ?_) (fun _ => ?_) ?_
    | refine noerc ?_
    | refine bindFL ?_ (fun _ => ?_) (fun _ => ?_)
    | refine bindc ?_ (fun _ => ?_)
    | refine itec ?_ ?_ ?_
    | rfl)
theorem F_barred_lots {T : Wd} (hf : Hf T) : Fn T 7 "barred_lots" ["plan"] (spF R T.K 1 1 [] [(0, (.sh tI_Plan))] (.o1 (TY.list TY.int)) (fun _ s => m_barred_lots s.1)) := by
  obtain ⟨fd, F⟩ := hf.c.def_ 30 (d := d43) rfl
  have h := fn_ok F sc_barred_lots (x_barred_lots hf)
  rw [e_barred_lots hf] at h
  exact Fn.mk' F (Says.glo hf 55) (FunD.bindsN F fun _ _ _ _ _ _ us hl => match us, hl with | [_], _ => rfl) h
def N_lies_in : List Str := ["lot", "other", "thing"]
theorem sc_lies_in : FnScope N_lies_in ["lot", "other"] (defScope s41) := ⟨rfl, rfl, rfl, by decide +kernel, rfl, by decide +kernel, by decide +kernel⟩
def x_lies_in {T : Wd} (hf : Hf T) : SJ R ⟨T, N_lies_in, defScope s41, 1, 3, fun _ => true⟩ [] [(0, (.sh (TY.list TY.int))), (1, (.sh (TY.list TY.int)))] (defBody s41) (OZ.r [] (.sh TY.bool)) :=
  (SJ.retP (EP.and (EP.cmp cm2_lt (EP.fn1 fn_len (Bt.fn bt_len) (Says.free hf 5) (EP.var 0)) (EP.fn1 fn_len (Bt.fn bt_len) (Says.free hf 5) (EP.var 1))) (EP.one (EP.fn1 fn_all (Bt.fn bt_all) (Says.free hf 19) (EP.lcM [("thing", 2)] (IP.list (EP.var 0)) (TG1.name 2) (EP.inn (in2_in EqT.int) RowT.list (EP.var 2) (EP.var 1)))))))
def m_lies_in (lot : (List Int)) (other : (List Int)) : R Bool :=
  pure ((decide ((lot.length : Int) < (other.length : Int))) && (List.all (List.map (fun (y258 : Int) => ((EqT.int).mem y258 other)) lot) id))
theorem e_lies_in {T : Wd} (hf : Hf T) : (x_lies_in hf).den = fun _ s => m_lies_in s.1 s.2.1 := by
  funext c s
  unfold x_lies_in m_lies_in
  dsimp only [SJ.retP, EP.and, EP.cmp, EP.fn1, EP.var, EP.one, EP.lcM, IP.list, TG1.name, EP.inn, RowT.list, turnF, VJ.cons, EP.ofJ, R.pbind, PM.pbind]
  repeat' (first
    | with_reducible rfl
    | refine mapc (fun _ => ?_) ?_
    | refine loopNc (fun _ _ => ?_) ?_ ?_
    | refine loopFc (fun _ _ => ?_) ?_ ?_
    | refine whileNc (fun _ => ?_) (fun _ => ?_) ?_
    | refine whileFc (fun _ => ?_) (fun _ => ?_) ?_
    | refine compc (fun _ => ?_) (fun _ => ?_) ?_
    | refine noerc ?_
    | refine bindFL ?_ (fun _ => ?_) (fun _ => ?_)
    | refine bindc ?_ (fun _ => ?_)
    | refine itec ?_ ?_ ?_
    | rfl)
def g_lies_in (lot : (List Int)) (other : (List Int)) : Bool :=
  ((decide ((lot.length : Int) < (other.length : Int))) && (List.all (List.map (fun (y258 : Int) => ((EqT.int).mem y258 other)) lot) id))
theorem h_lies_in (lot : (List Int)) (other : (List Int)) : m_lies_in lot other = .ok (g_lies_in lot other) := by
  unfold m_lies_in g_lies_in
  (repeat' split) <;> rfl
theorem F_lies_in {T : Wd} (hf : Hf T) : Fn T 2 "lies_in" ["lot", "other"] (spF R T.K 2 3 [] [(0, (.sh (TY.list TY.int))), (1, (.sh (TY.list TY.int)))] (.sh TY.bool) (fun _ s => m_lies_in s.1 s.2.1)) := by
  obtain ⟨fd, F⟩ := hf.c.def_ 28 (d := d41) rfl
  have h := fn_ok F sc_lies_in (x_lies_in hf)
  rw [e_lies_in hf] at h
  exact Fn.mk' F (Says.glo hf 56) (FunD.bindsN F fun _ _ _ _ _ _ us hl => match us, hl with | [_, _], _ => rfl) h
def N_least_bars : List Str := ["plan", "found", "lot", "other"]
theorem sc_least_bars : FnScope N_least_bars ["plan"] (defScope s44) := ⟨rfl, rfl, rfl, by decide +kernel, rfl, by decide +kernel, by decide +kernel⟩
def x_least_bars {T : Wd} (hf : Hf T) : SJ R ⟨T, N_least_bars, defScope s44, 6, 4, fun _ => true⟩ [] [(0, (.sh tI_Plan))] (defBody s44) (OZ.r [] (.o1 (TY.list TY.int))) :=
  (SJ.set 1 (EJ.share (EJ.call (F_bars_of hf) (AP.toJ (AP.cons (EP.call (F_want_plan hf) (fun a => g_want_plan a.1) (fun a => h_want_plan a.1) (AP.cons (EP.var 0) (AP.nil 1))) (AP.nil 1))))) (SJ.ret (EJ.lcF [("lot", 2)] (IP.toIJ (IP.list (EP.var 1))) (TG1.name 2) (TP.not (EP.toT (EP.fn1 fn_any (Bt.fn bt_any) (Says.free hf 27) (EP.lcM [("other", 3)] (IP.list (EP.var 1)) (TG1.name 3) (EP.call (F_lies_in hf) (fun a => g_lies_in a.1 a.2.1) (fun a => h_lies_in a.1 a.2.1) (AP.cons (EP.var 3) (AP.cons (EP.var 2) (AP.nil 2)))))))) (EP.var 2))))
def m_least_bars (plan : aI_Plan) : R (List (List Int)) :=
  ((m_bars_of (g_want_plan plan)) >>= fun (found255 : (List (List Int))) => pure (List.map (fun (y256 : (List Int)) => y256) (List.filter (fun (y256 : (List Int)) => (!(List.any (List.map (fun (y257 : (List Int)) => (g_lies_in y257 y256)) found255) id))) found255)))
theorem e_least_bars {T : Wd} (hf : Hf T) : (x_least_bars hf).den = fun _ s => m_least_bars s.1 := by
  funext c s
  unfold x_least_bars m_least_bars
  dsimp only [SJ.set, EJ.share, EJ.call, AP.toJ, AP.cons, EP.call, EP.var, AP.nil, SJ.ret, EJ.lcF, IP.toIJ, IP.list, TG1.name, TP.not, EP.toT, EP.fn1, EP.lcM, turnF, VJ.cons, EP.ofJ, R.pbind, PM.pbind]
  repeat' (first
    | with_reducible rfl
    | refine mapc (fun _ => ?_) ?_
    | refine loopNc (fun _ _ => ?_) ?_ ?_
    | refine loopFc (fun _ _ => ?_) ?_ ?_
    | refine whileNc (fun _ => ?_) (fun _ => ?_) ?_
    | refine whileFc (fun _ => ?_) (fun _ => ?_) ?_
    | refine compc (fun _ => ?_) (fun _ => ?_) ?_
    | refine noerc ?_
    | refine bindFL ?_ (fun _ => ?_) (fun _ => ?_)
    | refine bindc ?_ (fun _ => ?_)
    | refine itec ?_ ?_ ?_
    | rfl)
theorem F_least_bars {T : Wd} (hf : Hf T) : Fn T 7 "least_bars" ["plan"] (spF R T.K 1 4 [] [(0, (.sh tI_Plan))] (.o1 (TY.list TY.int)) (fun _ s => m_least_bars s.1)) := by
  obtain ⟨fd, F⟩ := hf.c.def_ 31 (d := d44) rfl
  have h := fn_ok F sc_least_bars (x_least_bars hf)
  rw [e_least_bars hf] at h
  exact Fn.mk' F (Says.glo hf 57) (FunD.bindsN F fun _ _ _ _ _ _ us hl => match us, hl with | [_], _ => rfl) h
def N_law_pick : List Str := ["_law_pot_here", "_law_some"]
theorem sc_law_pick : FnScope N_law_pick ["_law_pot_here", "_law_some"] (defScope s49) := ⟨rfl, rfl, rfl, by decide +kernel, rfl, by decide +kernel, by decide +kernel⟩
def x_law_pick {T : Wd} (hf : Hf T) : SJ PM ⟨T, N_law_pick, defScope s49, 2, 0, fun _ => true⟩ [] [(1, (.sh (TY.list (TY.tup2 TY.int TY.int))))] (defBody s49) (OZ.r [] (.sh (TY.tup2 TY.int TY.int))) :=
  (SJ.ret (EJ.ix ix_lst (EP.toEJ (EP.var 1)) (EJ.callW (F_law_draw hf) (AP.toJ (AP.cons (EP.fn1 fn_len (Bt.fn bt_len) (Says.free hf 5) (EP.var 1)) (AP.nil 2))))))
def m_law_pick (some_ : (List (Int × Int))) : PM (Int × Int) :=
  ((m_law_draw (some_.length : Int)) >>= fun (v271 : Int) => (optM (atI some_ v271)))
theorem e_law_pick {T : Wd} (hf : Hf T) : (x_law_pick hf).den = fun _ s => m_law_pick s.1 := by
  funext c s
  unfold x_law_pick m_law_pick
  dsimp only [SJ.ret, EJ.ix, EP.toEJ, EP.var, EJ.callW, AP.toJ, AP.cons, EP.fn1, AP.nil, turnF, VJ.cons, EP.ofJ, R.pbind, PM.pbind]
  repeat' (first
    | with_reducible rfl
    | refine mapc (fun _ => ?_) ?_
    | refine loopNc (fun _ _ => ?_) ?_ ?_
    | refine loopFc (fun _ _ => ?_) ?_ ?_
    | refine whileNc (fun _ => ?_) (fun _ => ?_) ?_
    | refine whileFc (fun _ => ?_) (fun _ => ?_) ?_
    | refine compc (fun _ => ?_) (fun _ => ?_) ?_
    | refine noerc ?_
    | refine bindFL ?_ (fun _ => ?_) (fun _ => ?_)
    | refine bindc ?_ (fun _ => ?_)
    | refine itec ?_ ?_ ?_
    | rfl)
theorem F_law_pick {T : Wd} (hf : Hf T) : Fn T 3 "_law_pick" ["_law_pot_here", "_law_some"] (spF PM T.K 2 0 [] [(1, (.sh (TY.list (TY.tup2 TY.int TY.int))))] (.sh (TY.tup2 TY.int TY.int)) (fun _ s => m_law_pick s.1)) := by
  obtain ⟨fd, F⟩ := hf.c.def_ 36 (d := d49) rfl
  have h := fn_ok F sc_law_pick (x_law_pick hf)
  rw [e_law_pick hf] at h
  exact Fn.mk' F (Says.glo hf 58) (FunD.bindsN F fun _ _ _ _ _ _ us hl => match us, hl with | [_, _], _ => rfl) h
def N_hangs : List Str := ["plan", "lot", "here"]
theorem sc_hangs : FnScope N_hangs ["plan", "lot"] (defScope s35) := ⟨rfl, rfl, rfl, by decide +kernel, rfl, by decide +kernel, by decide +kernel⟩
def x_hangs {T : Wd} (hf : Hf T) : SJ R ⟨T, N_hangs, defScope s35, 6, 3, fun _ => true⟩ [] [(0, (.sh tI_Plan)), (1, (.sh (TY.list TY.int)))] (defBody s35) (OZ.r [] (.sh TY.bool)) :=
  (SJ.setP 2 (EP.call (F_want_plan hf) (fun a => g_want_plan a.1) (fun a => h_want_plan a.1) (AP.cons (EP.var 0) (AP.nil 1))) (SJ.ret (EJ.call (F_hangs_of hf) (AJ.consP (EP.var 2) (AJ.cons (EJ.unopt (EJ.call (F_want_lot hf) (AP.toJ (AP.cons (EP.var 2) (AP.cons (EP.var 1) (AP.nil 2)))))) (AJ.nil 2))))))
def m_hangs (plan : aI_Plan) (lot : (List Int)) : R Bool :=
  (((((m_want_lot (g_want_plan plan) lot) >>= fun (v282 : (Option (List Int))) => (optM v282)) >>= fun (x283 : (List Int)) => pure (x283, ())) >>= fun (a284 : (List Int) × Unit) => pure ((g_want_plan plan), a284)) >>= fun (a285 : aI_Plan × (List Int) × Unit) => (m_hangs_of a285.1 a285.2.1))
theorem e_hangs {T : Wd} (hf : Hf T) : (x_hangs hf).den = fun _ s => m_hangs s.1 s.2.1 := by
  funext c s
  unfold x_hangs m_hangs
  dsimp only [SJ.setP, EP.call, AP.cons, EP.var, AP.nil, SJ.ret, EJ.call, AJ.consP, AJ.cons, EJ.unopt, AP.toJ, AJ.nil, turnF, VJ.cons, EP.ofJ, R.pbind, PM.pbind]
  repeat' (first
    | with_reducible rfl
    | refine mapc (fun _ => ?_) ?_
    | refine loopNc (fun _ _ => ?_) ?_ ?_
    | refine loopFc (fun _ _ => ?_) ?_ ?_
    | refine whileNc (fun _ => ?_) (fun _ => ?_) ?_
    | refine whileFc (fun _ => ?_) (fun _ => ?_) ?_
    | refine compc (fun _ => ?_) (fun _ => ?_) ?_
    | refine noerc ?_
    | refine bindFL ?_ (fun _ => ?_) (fun _ => ?_)
    | refine bindc ?_ (fun _ => ?_)
    | refine itec ?_ ?_ ?_
    | rfl)
theorem F_hangs {T : Wd} (hf : Hf T) : Fn T 7 "hangs" ["plan", "lot"] (spF R T.K 2 3 [] [(0, (.sh tI_Plan)), (1, (.sh (TY.list TY.int)))] (.sh TY.bool) (fun _ s => m_hangs s.1 s.2.1)) := by
  obtain ⟨fd, F⟩ := hf.c.def_ 22 (d := d35) rfl
  have h := fn_ok F sc_hangs (x_hangs hf)
  rw [e_hangs hf] at h
  exact Fn.mk' F (Says.glo hf 59) (FunD.bindsN F fun _ _ _ _ _ _ us hl => match us, hl with | [_, _], _ => rfl) h
def N_law_hung : List Str := ["_law_ties", "_law_lot", "_law_thing", "_law_found", "_law_ahead", "_law_one", "_law_other"]
theorem sc_law_hung : FnScope N_law_hung ["_law_ties", "_law_lot", "_law_thing"] (defScope s50) := ⟨rfl, rfl, rfl, by decide +kernel, rfl, by decide +kernel, by decide +kernel⟩
def x_law_hung {T : Wd} (hf : Hf T) : SJ R ⟨T, N_law_hung, defScope s50, 1, 7, fun _ => true⟩ [] [(0, (.sh (TY.list (TY.tup2 TY.int TY.int)))), (1, (.sh (TY.list TY.int))), (2, (.sh TY.int))] (defBody s50) (OZ.r [] (.o1 TY.int)) :=
  (SJ.par2 (i := 3) (j := 4) (VJ.cons (EJ.lst (LP.toLJ (LP.cons (EP.var 2) (LP.nil (t := TY.int))))) (VJ.consP EP.int VJ.nil)) (SJ.whileN 1000 [3, 4] (TP.toJ (TP.frz [3] (TP.cmp cm2_lt (EP.var 4) (EP.fn1 fn_len (Bt.fn bt_len) (Says.free hf 5) (EP.var 3))))) (SJ.forN [3] (IP.toIJ (IP.list (EP.var 0))) (TG1.pair (TG1.name 5) (TG1.name 6)) (SJ.ifN (TJ.frz [3] (WJ.T (WJ.and (TJ.cmp cm2_eqI (EP.toEJ (EP.var 5)) (EJ.ix ix_lst (EP.toEJ (EP.var 3)) (EP.toEJ (EP.var 4)))) (WJ.and (TP.toJ (TP.inn (in2_in EqT.int) RowT.list (EP.var 6) (EP.var 1))) (WJ.and1 (TP.toJ (TP.inn (in2_notIn EqT.int) RowT.list (EP.var 6) (EP.var 3)))))))) (SJ.expr (EM.mu1 3 mu_append PySem.F.plainAttrs_list PySem.F.slot_list_append PySem.F.type_list_append (EJ.toM (EP.toEJ (EP.var 6)))) SJ.nil) SJ.nil (SJ.ifN (TJ.frz [3] (WJ.T (WJ.and (TJ.cmp cm2_eqI (EP.toEJ (EP.var 6)) (EJ.ix ix_lst (EP.toEJ (EP.var 3)) (EP.toEJ (EP.var 4)))) (WJ.and (TP.toJ (TP.inn (in2_in EqT.int) RowT.list (EP.var 5) (EP.var 1))) (WJ.and1 (TP.toJ (TP.inn (in2_notIn EqT.int) RowT.list (EP.var 5) (EP.var 3)))))))) (SJ.expr (EM.mu1 3 mu_append PySem.F.plainAttrs_list PySem.F.slot_list_append PySem.F.type_list_append (EJ.toM (EP.toEJ (EP.var 5)))) SJ.nil) SJ.nil SJ.nil)) (SJ.setP 4 (EP.bin op2_add (EP.var 4) EP.int) SJ.nil)) (SJ.ret (EJ.frz [3] (EJ.fnL (fl_sorted SortT.int) (Bt.fn bt_sorted) (Says.free hf 10) (EP.toEJ (EP.var 3)))))) (fun env h => by cases env; cases h; rfl))
def m_law_hung (ties : (List (Int × Int))) (lot : (List Int)) (thing : Int) : R (List Int) :=
  ((Tp.whileN (fun (s289 : (List Int) × Int × Unit) => (pure (decide (s289.2.1 < (s289.1.length : Int))) : R Bool)) (fun (s290 : (List Int) × Int × Unit) => ((((Tp.loopN (fun (y291 : (Int × Int)) (s292 : (List Int) × Unit) => (((((Eff.noer (((optM (atI s292.1 s290.2.1)) >>= fun (v293 : Int) => pure (decide (y291.1 = v293))) >>= fun (b294 : Bool) => (if b294 = true then (if ((EqT.int).mem y291.2 lot) = true then pure (!(EqT.int).mem y291.2 s292.1) else pure false) else pure false))) >>= fun (b297 : Bool) => (if b297 = true then (((optM (appO s292.1 y291.2)) >>= fun (z295 : List Int × Unit) => pure ((y291.1, y291.2, z295.1, ()), ())) >>= fun (y296 : (Int × Int × (List Int) × Unit) × Unit) => pure (y296.1.1, y296.1.2.1, y296.1.2.2.1, ())) else pure (y291.1, y291.2, s292.1, ()))) >>= fun (s298 : Int × Int × (List Int) × Unit) => (((Eff.noer (((optM (atI s298.2.2.1 s290.2.1)) >>= fun (v299 : Int) => pure (decide (s298.2.1 = v299))) >>= fun (b300 : Bool) => (if b300 = true then (if ((EqT.int).mem s298.1 lot) = true then pure (!(EqT.int).mem s298.1 s298.2.2.1) else pure false) else pure false))) >>= fun (b303 : Bool) => (if b303 = true then (((optM (appO s298.2.2.1 s298.1)) >>= fun (z301 : List Int × Unit) => pure ((s298.1, s298.2.1, z301.1, ()), ())) >>= fun (y302 : (Int × Int × (List Int) × Unit) × Unit) => pure (y302.1.1, y302.1.2.1, y302.1.2.2.1, ())) else pure (s298.1, s298.2.1, s298.2.2.1, ()))) >>= fun (s304 : Int × Int × (List Int) × Unit) => pure (s304.1, s304.2.1, s304.2.2.1, ()))) >>= fun (e305 : Int × Int × (List Int) × Unit) => pure (e305.2.2.1, ())) : R ((List Int) × Unit))) ties (s290.1, ()) >>= fun (m306 : (List Int) × Unit) => pure (m306.1, s290.2.1, ())) >>= fun (s307 : (List Int) × Int × Unit) => pure (s307.1, (s307.2.1 + 1), ())) >>= fun (e308 : (List Int) × Int × Unit) => pure (e308.1, e308.2.1, ())) : R ((List Int) × Int × Unit))) 1000 ([thing], 0, ()) >>= fun (m309 : (List Int) × Int × Unit) => pure (ties, lot, thing, m309.1, m309.2.1, ())) >>= fun (s310 : (List (Int × Int)) × (List Int) × Int × (List Int) × Int × Unit) => (Eff.noer (pure (List.mergeSort s310.2.2.2.1 (SortT.int).le))))
theorem e_law_hung {T : Wd} (hf : Hf T) : (x_law_hung hf).den = fun _ s => m_law_hung s.1 s.2.1 s.2.2.1 := by
  funext c s
  unfold x_law_hung m_law_hung
  dsimp only [SJ.par2, VJ.cons, EJ.lst, LP.toLJ, LP.cons, EP.var, LP.nil, VJ.consP, EP.int, VJ.nil, SJ.whileN, TP.toJ, TP.frz, TP.cmp, EP.fn1, SJ.forN, IP.toIJ, IP.list, TG1.pair, TG1.name, SJ.ifN, TJ.frz, WJ.T, WJ.and, TJ.cmp, EP.toEJ, EJ.ix, TP.inn, RowT.list, WJ.and1, SJ.expr, EM.mu1, EJ.toM, SJ.nil, SJ.setP, EP.bin, SJ.ret, EJ.frz, EJ.fnL, turnF, VJ.cons, EP.ofJ, R.pbind, PM.pbind]
  repeat' (first
    | with_reducible rfl
    | refine mapc (fun _ => ?_) ?_
    | refine loopNc (fun _ _ => ?_) ?_ ?_
    | refine loopFc (fun _ _ => ?_) ?_ ?_
    | refine whileNc (fun _ => ?_) (fun _ => ?_) ?_
    | refine whileFc (fun _ => ?_) (fun _ => ?_) ?_
    | refine compc (fun _ => ?_) (fun _ => ?_) ?_
    | refine noerc ?_
    | refine bindFL ?_ (fun _ => ?_) (fun _ => ?_)
    | refine bindc ?_ (fun _ => ?_)
    | refine itec ?_ ?_ ?_
    | rfl)
theorem F_law_hung {T : Wd} (hf : Hf T) : Fn T 2 "_law_hung" ["_law_ties", "_law_lot", "_law_thing"] (spF R T.K 3 7 [] [(0, (.sh (TY.list (TY.tup2 TY.int TY.int)))), (1, (.sh (TY.list TY.int))), (2, (.sh TY.int))] (.o1 TY.int) (fun _ s => m_law_hung s.1 s.2.1 s.2.2.1)) := by
  obtain ⟨fd, F⟩ := hf.c.def_ 37 (d := d50) rfl
  have h := fn_ok F sc_law_hung (x_law_hung hf)
  rw [e_law_hung hf] at h
  exact Fn.mk' F (Says.glo hf 60) (FunD.bindsN F fun _ _ _ _ _ _ us hl => match us, hl with | [_, _, _], _ => rfl) h
def N_law_left_out_right : List Str := ["_law_pot_here", "_law_many", "_law_arrows", "_law_further", "_law_ties", "_law_lot", "_law_tie", "_law_arrow", "_law_fewer", "_law_plan", "_law_side", "_law_one", "_law_thing"]
theorem sc_law_left_out_right : FnScope N_law_left_out_right ["_law_pot_here", "_law_many", "_law_arrows", "_law_further", "_law_ties", "_law_lot"] (defScope s54) := ⟨rfl, rfl, rfl, by decide +kernel, rfl, by decide +kernel, by decide +kernel⟩
def x_law_left_out_right {T : Wd} (hf : Hf T) : SJ PM ⟨T, N_law_left_out_right, defScope s54, 9, 0, fun _ => true⟩ [] [(1, (.sh TY.int)), (2, (.sh (TY.list (TY.tup2 TY.int TY.int)))), (3, (.sh (TY.list (TY.tup2 TY.int TY.int)))), (4, (.sh (TY.list (TY.tup2 TY.int TY.int)))), (5, (.sh (TY.list TY.int)))] (defBody s54) (OZ.r [] (.sh TY.bool)) :=
  (SJ.tupT (is := [6, 7]) (TN.cons (TN.cons TN.nil)) (VJ.cons (EJ.callW (F_law_pick hf) (AP.toJ (AP.cons (EP.var 4) (AP.nil 2)))) (VJ.cons (EJ.callW (F_law_pick hf) (AP.toJ (AP.cons (EP.var 2) (AP.nil 2)))) VJ.nil)) (SJ.setC 8 (EC.share (EC.lcF [("_law_one", 11)] (IP.toIJ (IP.list (EP.var 4))) (TG1.name 11) (TP.cmp (cm2_ne (EqT.tup2 EqT.int EqT.int)) (EP.var 11) (EP.var 6)) (EP.var 11))) (SJ.set 9 (EJ.shareI (EJ.asI (EJ.make (F_Plan_init1 hf) (AJ.consP (EP.var 1) (AJ.cons (EJ.share (EJ.cat (EP.toEJ (EP.var 2)) (EP.toEJ (EP.var 3)))) (AJ.consP (EP.var 8) (AJ.nil 4))))) as_Plan_init1 as_Plan_init1_ok)) (SJ.ifRr (rwa := []) (WJ.T (WJ.or (TJ.cmp cm2_notB (EJ.call (F_hangs hf) (AP.toJ (AP.cons (EP.var 9) (AP.cons (EP.var 5) (AP.nil 2))))) (EP.toEJ EP.bl)) (WJ.or1 (TJ.cmp cm2_notB (EJ.call (F_is_barred hf) (AP.toJ (AP.cons (EP.var 9) (AP.cons (EP.var 5) (AP.nil 2))))) (EP.toEJ EP.bl))))) (SJ.retP EP.bl) (SJ.set 10 (EJ.share (EJ.call (F_law_hung hf) (AP.toJ (AP.cons (EP.var 8) (AP.cons (EP.var 5) (AP.cons (EP.part (a := (TY.tup2 TY.int TY.int)) (b := TY.int) 0 (fun x => x.1) (EP.var 6)) (AP.nil 3))))))) (SJ.ifRr (rwa := []) (TJ.not (EJ.toT (EJ.fn1 fn_all (Bt.fn bt_all) (Says.free hf 19) (EJ.share (EJ.lcM [("_law_one", 11)] (IJ.list (EJ.share (EJ.call (F_barred_lots hf) (AP.toJ (AP.cons (EP.var 9) (AP.nil 1)))))) (TG1.name 11) (EP.or (EP.fn1 fn_all (Bt.fn bt_all) (Says.free hf 19) (EP.lcM [("_law_thing", 12)] (IP.list (EP.var 11)) (TG1.name 12) (EP.inn (in2_in EqT.int) RowT.list (EP.var 12) (EP.var 10)))) (EP.one (EP.not (EP.fn1 fn_any (Bt.fn bt_any) (Says.free hf 27) (EP.lcM [("_law_thing", 12)] (IP.list (EP.var 11)) (TG1.name 12) (EP.inn (in2_in EqT.int) RowT.list (EP.var 12) (EP.var 10)))))))))))) (SJ.retP EP.bl) (SJ.set 9 (EJ.shareI (EJ.asI (EJ.make (F_Plan_init1 hf) (AJ.consP (EP.var 1) (AJ.cons (EJ.share (EJ.lcF [("_law_one", 11)] (IJ.list (EJ.share (EJ.cat (EP.toEJ (EP.var 2)) (EP.toEJ (EP.var 3))))) (TG1.name 11) (TP.cmp (cm2_ne (EqT.tup2 EqT.int EqT.int)) (EP.var 11) (EP.var 7)) (EP.var 11))) (AJ.consP (EP.var 4) (AJ.nil 4))))) as_Plan_init1 as_Plan_init1_ok)) (SJ.ret (EJ.and (EJ.cmp (cm2_isN (t := TY.int)) (EJ.call (F_head hf) (AP.toJ (AP.cons (EP.var 9) (AP.cons (EP.var 5) (AP.nil 2))))) (EP.toEJ EP.non)) (EJ.one (EJ.cmp cm2_isB (EJ.call (F_is_barred hf) (AP.toJ (AP.cons (EP.var 9) (AP.cons (EP.var 5) (AP.nil 2))))) (EP.toEJ EP.bl))))))))))) (fun env h => by cases env; cases h; rfl))
def m_law_left_out_right (many : Int) (arrows : (List (Int × Int))) (further : (List (Int × Int))) (ties : (List (Int × Int))) (lot : (List Int)) : PM Bool :=
  (((m_law_pick ties) >>= fun (x273 : (Int × Int)) => (((m_law_pick arrows) >>= fun (x272 : (Int × Int)) => pure (x272, ())) >>= fun (a274 : (Int × Int) × Unit) => pure (x273, a274))) >>= fun (v275 : (Int × Int) × (Int × Int) × Unit) => ((((((optM (catO arrows further)) >>= fun (x277 : (List (Int × Int))) => pure (x277, (List.map (fun (y276 : (Int × Int)) => y276) (List.filter (fun (y276 : (Int × Int)) => (!((EqT.tup2 EqT.int EqT.int)).b y276 v275.1)) ties)), ())) >>= fun (a278 : (List (Int × Int)) × (List (Int × Int)) × Unit) => pure (many, a278)) >>= fun (a279 : Int × (List (Int × Int)) × (List (Int × Int)) × Unit) => (PM.lift (m_Plan_init1 a279.1 a279.2.1 a279.2.2.1))) >>= fun (p280 : FT [("own_width", TY.int), ("own_arrows", (TY.opt (TY.list (TY.tup2 TY.int TY.int)))), ("own_ties", (TY.opt (TY.list (TY.tup2 TY.int TY.int))))]) => (optM (as_Plan_init1 p280))) >>= fun (plan281 : aI_Plan) => ((((PM.lift (m_hangs plan281 lot)) >>= fun (v286 : Bool) => pure (!decide (v286 = false))) >>= fun (b288 : Bool) => (if b288 = true then pure true else ((PM.lift (m_is_barred plan281 lot)) >>= fun (v287 : Bool) => pure (!decide (v287 = false))))) >>= fun (b329 : Bool) => (if b329 = true then pure false else ((PM.lift (m_law_hung (List.map (fun (y276 : (Int × Int)) => y276) (List.filter (fun (y276 : (Int × Int)) => (!((EqT.tup2 EqT.int EqT.int)).b y276 v275.1)) ties)) lot v275.1.1)) >>= fun (side311 : (List Int)) => (((((PM.lift (m_barred_lots plan281)) >>= fun (l315 : List (List Int)) => pure (List.map (fun (y312 : (List Int)) => ((List.all (List.map (fun (y313 : Int) => ((EqT.int).mem y313 side311)) y312) id) || (!(List.any (List.map (fun (y314 : Int) => ((EqT.int).mem y314 side311)) y312) id)))) l315)) >>= fun (v316 : (List Bool)) => pure (List.all v316 id)) >>= fun (v317 : Bool) => pure (!v317)) >>= fun (b328 : Bool) => (if b328 = true then pure false else (((((((optM (catO arrows further)) >>= fun (l319 : List (Int × Int)) => pure (List.map (fun (y318 : (Int × Int)) => y318) (List.filter (fun (y318 : (Int × Int)) => (!((EqT.tup2 EqT.int EqT.int)).b y318 v275.2.1)) l319))) >>= fun (x320 : (List (Int × Int))) => pure (x320, ties, ())) >>= fun (a321 : (List (Int × Int)) × (List (Int × Int)) × Unit) => pure (many, a321)) >>= fun (a322 : Int × (List (Int × Int)) × (List (Int × Int)) × Unit) => (PM.lift (m_Plan_init1 a322.1 a322.2.1 a322.2.2.1))) >>= fun (p323 : FT [("own_width", TY.int), ("own_arrows", (TY.opt (TY.list (TY.tup2 TY.int TY.int)))), ("own_ties", (TY.opt (TY.list (TY.tup2 TY.int TY.int))))]) => (optM (as_Plan_init1 p323))) >>= fun (plan324 : aI_Plan) => (((PM.lift (m_head plan324 lot)) >>= fun (v325 : (Option Int)) => pure ((v325).isNone)) >>= fun (b327 : Bool) => (if b327 = true then ((PM.lift (m_is_barred plan324 lot)) >>= fun (v326 : Bool) => pure (decide (v326 = false))) else pure false))))))))))
theorem e_law_left_out_right {T : Wd} (hf : Hf T) : (x_law_left_out_right hf).den = fun _ s => m_law_left_out_right s.1 s.2.1 s.2.2.1 s.2.2.2.1 s.2.2.2.2.1 := by
  funext c s
  unfold x_law_left_out_right m_law_left_out_right
  dsimp only [SJ.tupT, VJ.cons, EJ.callW, AP.toJ, AP.cons, EP.var, AP.nil, VJ.nil, SJ.setC, EC.share, EC.lcF, IP.toIJ, IP.list, TG1.name, TP.cmp, SJ.set, EJ.shareI, EJ.asI, EJ.make, AJ.consP, AJ.cons, EJ.share, EJ.cat, EP.toEJ, AJ.nil, SJ.ifRr, WJ.T, WJ.or, TJ.cmp, EJ.call, EP.bl, WJ.or1, SJ.retP, EP.part, TJ.not, EJ.toT, EJ.fn1, EJ.lcM, IJ.list, EP.or, EP.fn1, EP.lcM, EP.inn, RowT.list, EP.one, EP.not, EJ.lcF, SJ.ret, EJ.and, EJ.cmp, EP.non, EJ.one, turnF, VJ.cons, EP.ofJ, R.pbind, PM.pbind]
  repeat' (first
    | with_reducible rfl
    | refine mapc (fun _ => ?_) ?_
    | refine loopNc (fun _ _ => ?_) ?_ ?_
    | refine loopFc (fun _ _ => ?_) ?_ ?_
    | refine whileNc (fun _ => ?_) (fun _ => ?_) ?_
    | refine whileFc (fun _ => ?_) (fun _ => ?_) ?_
    | refine compc (fun _ => ?_) (fun _ => ?_) ?_
    | refine noerc ?_
    | refine bindFL ?_ (fun _ => ?_) (fun _ => ?_)
    | refine bindc ?_ (fun _ => ?_)
    | refine itec ?_ ?_ ?_
    | rfl)
theorem F_law_left_out_right {T : Wd} (hf : Hf T) : Fn T 10 "_law_left_out_right" ["_law_pot_here", "_law_many", "_law_arrows", "_law_further", "_law_ties", "_law_lot"] (spF PM T.K 6 0 [] [(1, (.sh TY.int)), (2, (.sh (TY.list (TY.tup2 TY.int TY.int)))), (3, (.sh (TY.list (TY.tup2 TY.int TY.int)))), (4, (.sh (TY.list (TY.tup2 TY.int TY.int)))), (5, (.sh (TY.list TY.int)))] (.sh TY.bool) (fun _ s => m_law_left_out_right s.1 s.2.1 s.2.2.1 s.2.2.2.1 s.2.2.2.2.1)) := by
  obtain ⟨fd, F⟩ := hf.c.def_ 41 (d := d54) rfl
  have h := fn_ok F sc_law_left_out_right (x_law_left_out_right hf)
  rw [e_law_left_out_right hf] at h
  exact Fn.mk' F (Says.glo hf 61) (FunD.bindsN F fun _ _ _ _ _ _ us hl => match us, hl with | [_, _, _, _, _, _], _ => rfl) h
def N_law_right : List Str := ["_law_pot_here", "_law_size", "_law_many", "_law_order_here", "_law_inside", "_law_arrows", "_law_ties", "_law_lot", "_law_beyond", "_law_further", "_law_plan", "_law_one", "_law_thing"]
theorem sc_law_right : FnScope N_law_right ["_law_pot_here"] (defScope s55) := ⟨rfl, rfl, rfl, by decide +kernel, rfl, by decide +kernel, by decide +kernel⟩
def x_law_right {T : Wd} (hf : Hf T) : SJ PM ⟨T, N_law_right, defScope s55, 10, 0, fun _ => true⟩ [] [] (defBody s55) (OZ.r [] (.sh TY.bool)) :=
  (SJ.set 1 (EJ.bin op2_add (EP.toEJ EP.int) (EJ.callW (F_law_draw hf) (AP.toJ (AP.cons EP.int (AP.nil 2))))) (SJ.set 2 (EJ.bin op2_add (EP.toEJ (EP.var 1)) (EJ.callW (F_law_draw hf) (AP.toJ (AP.cons EP.int (AP.nil 2))))) (SJ.set 3 (EJ.share (EJ.callW (F_law_order hf) (AP.toJ (AP.cons (EP.var 2) (AP.nil 2))))) (SJ.setP 4 (EP.slice sl_lst (EP.var 3) OP.none (OP.some (EP.var 1))) (SJ.unp (TG1.pair (TG1.name 5) (TG1.name 6)) (EJ.callW (F_law_built hf) (AP.toJ (AP.cons (EP.var 4) (AP.nil 2)))) (SJ.tupT (is := [7, 8]) (TN.cons (TN.cons TN.nil)) (VJ.consP (EP.fnL (fl_sorted SortT.int) (Bt.fn bt_sorted) (Says.free hf 10) (EP.var 4)) (VJ.consP (EP.slice sl_lst (EP.var 3) (OP.some (EP.var 1)) OP.none) VJ.nil)) (SJ.setC 9 (EC.share (EC.lc [("_law_thing", 12)] (IP.toIJ (IP.list (EP.var 8))) (TG1.name 12) CJ.nil (EJ.ite (TJ.cmp cm2_eqI (EJ.callW (F_law_draw hf) (AP.toJ (AP.cons EP.int (AP.nil 2)))) (EP.toEJ EP.int)) (EJ.tup2 (EP.toEJ (EP.var 12)) (EJ.ix ix_lst (EP.toEJ (EP.var 4)) (EJ.callW (F_law_draw hf) (AP.toJ (AP.cons (EP.var 1) (AP.nil 2)))))) (EJ.tup2 (EJ.ix ix_lst (EP.toEJ (EP.var 4)) (EP.toEJ (EP.neg EP.int))) (EP.toEJ (EP.var 12)))))) (SJ.set 10 (EJ.callW (F_law_made hf) (AJ.cons (EJ.tup3 (EP.toEJ (EP.var 2)) (EJ.share (EJ.fnL (fl_sorted SortT.ii) (Bt.fn bt_sorted) (Says.free hf 10) (EJ.share (EJ.cat (EP.toEJ (EP.var 5)) (EP.toEJ (EP.var 9)))))) (EP.toEJ (EP.fnL (fl_sorted SortT.ii) (Bt.fn bt_sorted) (Says.free hf 10) (EP.var 6)))) (AJ.nil 2))) (SJ.ifRr (rwa := []) (WJ.T (WJ.or (TJ.cmp cm2_notB (EJ.call (F_is_barred hf) (AP.toJ (AP.cons (EP.var 10) (AP.cons (EP.var 7) (AP.nil 2))))) (EP.toEJ EP.bl)) (WJ.or (TJ.cmp cm2_neI (EJ.unopt (EJ.call (F_head hf) (AP.toJ (AP.cons (EP.var 10) (AP.cons (EP.var 7) (AP.nil 2)))))) (EJ.ix ix_lst (EP.toEJ (EP.var 4)) (EP.toEJ (EP.neg EP.int)))) (WJ.or1 (TJ.cmp (cm2_ne (EqT.list EqT.int)) (EJ.call (F_greatest_lot hf) (AJ.consP (EP.var 10) (AJ.cons (EJ.ix ix_lst (EP.toEJ (EP.var 4)) (EP.toEJ (EP.neg EP.int))) (AJ.nil 2)))) (EP.toEJ (EP.var 7))))))) (SJ.retP EP.bl) (SJ.ifRr (rwa := []) (WJ.T (WJ.or (TJ.cmp cm2_notB (EJ.call (F_is_plain hf) (AP.toJ (AP.cons (EP.var 10) (AP.nil 1)))) (EP.toEJ EP.bl)) (WJ.or (TJ.cmp (cm2_isN (t := (TY.list TY.int))) (EJ.call (F_bar_of hf) (AP.toJ (AP.cons (EP.var 10) (AP.nil 1)))) (EP.toEJ EP.non)) (WJ.or1 (TJ.inn (in2_notIn (EqT.list EqT.int)) RowT.list (EP.toEJ (EP.var 7)) (EJ.share (EJ.call (F_barred_lots hf) (AP.toJ (AP.cons (EP.var 10) (AP.nil 1)))))))))) (SJ.retP EP.bl) (SJ.forB [] (IJ.list (EJ.share (EJ.call (F_least_bars hf) (AP.toJ (AP.cons (EP.var 10) (AP.nil 1)))))) (TG1.name 11) (SJ.ifR (rwa := []) (TP.toJ (TP.not (EP.toT (EP.fn1 fn_all (Bt.fn bt_all) (Says.free hf 19) (EP.lcM [("_law_thing", 12)] (IP.list (EP.var 11)) (TG1.name 12) (EP.inn (in2_in EqT.int) RowT.list (EP.var 12) (EP.var 7))))))) (SJ.retP EP.bl) SJ.nilB FL.rt) (SJ.ifRr (rwa := []) (TJ.not (EJ.toT (EJ.fn1 fn_all (Bt.fn bt_all) (Says.free hf 19) (EJ.share (EJ.lc [("_law_thing", 12)] (IP.toIJ (IP.list (EP.var 8))) (TG1.name 12) CJ.nil (EJ.cmp (cm2_eq (EqT.list EqT.int)) (EJ.call (F_greatest_lot hf) (AP.toJ (AP.cons (EP.var 10) (AP.cons (EP.var 12) (AP.nil 2))))) (EP.toEJ (EP.lst (LP.cons (EP.var 12) (LP.nil (t := TY.int))))))))))) (SJ.retP EP.bl) (SJ.ret (EJ.callW (F_law_left_out_right hf) (AP.toJ (AP.cons (EP.var 2) (AP.cons (EP.var 5) (AP.cons (EP.var 9) (AP.cons (EP.var 6) (AP.cons (EP.var 7) (AP.nil 6)))))))))) (fun v => v)))))) (fun env h => by cases env; cases h; rfl)))))))
def m_law_right  : PM Bool :=
  (((m_law_draw 4) >>= fun (v17 : Int) => pure (2 + v17)) >>= fun (size18 : Int) => (((m_law_draw 2) >>= fun (v19 : Int) => pure (size18 + v19)) >>= fun (many20 : Int) => ((m_law_order many20) >>= fun (order_here35 : (List Int)) => ((m_law_built (cut order_here35 none (some size18))) >>= fun (y66 : ((List (Int × Int)) × (List (Int × Int)))) => ((Eff.noer (compM (M := PM) (compF (M := PM) (fun (y67 : Int) => pure true) (fun (y67 : Int) => (((m_law_draw 2) >>= fun (v68 : Int) => pure (decide (v68 = 0))) >>= fun (b72 : Bool) => (if b72 = true then (((m_law_draw size18) >>= fun (v69 : Int) => (optM (atI (cut order_here35 none (some size18)) v69))) >>= fun (v70 : Int) => pure (y67, v70)) else ((optM (atI (cut order_here35 none (some size18)) (-1))) >>= fun (v71 : Int) => pure (v71, y67)))))) (cut order_here35 (some size18) none))) >>= fun (further73 : (List (Int × Int))) => ((((((optM (catO y66.1 further73)) >>= fun (v143 : (List (Int × Int))) => pure (List.mergeSort v143 (SortT.ii).le)) >>= fun (v144 : (List (Int × Int))) => pure (many20, v144, (List.mergeSort y66.2 (SortT.ii).le))) >>= fun (x145 : (Int × (List (Int × Int)) × (List (Int × Int)))) => pure (x145, ())) >>= fun (a146 : (Int × (List (Int × Int)) × (List (Int × Int))) × Unit) => (m_law_made a146.1)) >>= fun (plan147 : aI_Plan) => ((((PM.lift (m_is_barred plan147 (List.mergeSort (cut order_here35 none (some size18)) (SortT.int).le))) >>= fun (v182 : Bool) => pure (!decide (v182 = true))) >>= fun (b223 : Bool) => (if b223 = true then pure true else ((((PM.lift (m_head plan147 (List.mergeSort (cut order_here35 none (some size18)) (SortT.int).le))) >>= fun (v187 : (Option Int)) => (optM v187)) >>= fun (v188 : Int) => ((optM (atI (cut order_here35 none (some size18)) (-1))) >>= fun (v189 : Int) => pure (!decide (v188 = v189)))) >>= fun (b222 : Bool) => (if b222 = true then pure true else (((((optM (atI (cut order_here35 none (some size18)) (-1))) >>= fun (x218 : Int) => pure (x218, ())) >>= fun (a219 : Int × Unit) => pure (plan147, a219)) >>= fun (a220 : aI_Plan × Int × Unit) => (PM.lift (m_greatest_lot a220.1 a220.2.1))) >>= fun (v221 : (List Int)) => pure (!((EqT.list EqT.int)).b v221 (List.mergeSort (cut order_here35 none (some size18)) (SortT.int).le))))))) >>= fun (b334 : Bool) => (if b334 = true then pure false else ((((PM.lift (m_is_plain plan147)) >>= fun (v229 : Bool) => pure (!decide (v229 = false))) >>= fun (b254 : Bool) => (if b254 = true then pure true else (((PM.lift (m_bar_of plan147)) >>= fun (v240 : (Option (List Int))) => pure ((v240).isNone)) >>= fun (b253 : Bool) => (if b253 = true then pure true else ((PM.lift (m_barred_lots plan147)) >>= fun (v252 : (List (List Int))) => pure (!((EqT.list EqT.int)).mem (List.mergeSort (cut order_here35 none (some size18)) (SortT.int).le) v252)))))) >>= fun (b333 : Bool) => (if b333 = true then pure false else (((PM.lift (m_least_bars plan147)) >>= fun (l264 : List (List Int)) => (Tp.loopF (fun (y259 : (List Int)) (s260 : Unit) => (((if (!(List.all (List.map (fun (y261 : Int) => ((EqT.int).mem y261 (List.mergeSort (cut order_here35 none (some size18)) (SortT.int).le))) y259) id)) = true then pure (FL.rt false) else pure (FL.nx (y259, ()))) >>= fun (z263 : FL ((List Int) × Unit) Bool) => pure (FL.map (fun (e262 : (List Int) × Unit) => ()) z263)) : PM (FL (Unit) Bool))) l264 () >>= fun (fl : FL (Unit) Bool) => pure (FL.map (fun (m265 : Unit) => (y66.1, y66.2, size18, many20, order_here35, (cut order_here35 none (some size18)), (List.mergeSort (cut order_here35 none (some size18)) (SortT.int).le), (cut order_here35 (some size18) none), further73, plan147, ())) fl))) >>= fun (o331 : FL ((List (Int × Int)) × (List (Int × Int)) × Int × Int × (List Int) × (List Int) × (List Int) × (List Int) × (List (Int × Int)) × aI_Plan × Unit) Bool) => match o331 with | .nx s266 => ((((Eff.noer (compM (M := PM) (compF (M := PM) (fun (y267 : Int) => pure true) (fun (y267 : Int) => ((PM.lift (m_greatest_lot s266.2.2.2.2.2.2.2.2.2.1 y267)) >>= fun (v268 : (List Int)) => pure (((EqT.list EqT.int)).b v268 [y267])))) s266.2.2.2.2.2.2.2.1)) >>= fun (v269 : (List Bool)) => pure (List.all v269 id)) >>= fun (v270 : Bool) => pure (!v270)) >>= fun (b330 : Bool) => (if b330 = true then pure false else (m_law_left_out_right s266.2.2.2.1 s266.1 s266.2.2.2.2.2.2.2.2.1 s266.2.1 s266.2.2.2.2.2.2.1))) | .rt w332 => pure w332)))))))))))
theorem e_law_right {T : Wd} (hf : Hf T) : (x_law_right hf).den = fun _ s => m_law_right := by
  funext c s
  unfold x_law_right m_law_right
  dsimp only [SJ.set, EJ.bin, EP.toEJ, EP.int, EJ.callW, AP.toJ, AP.cons, AP.nil, EP.var, EJ.share, SJ.setP, EP.slice, OP.none, OP.some, SJ.unp, TG1.pair, TG1.name, SJ.tupT, VJ.consP, EP.fnL, VJ.nil, SJ.setC, EC.share, EC.lc, IP.toIJ, IP.list, CJ.nil, EJ.ite, TJ.cmp, EJ.tup2, EJ.ix, EP.neg, AJ.cons, EJ.tup3, EJ.fnL, EJ.cat, AJ.nil, SJ.ifRr, WJ.T, WJ.or, EJ.call, EP.bl, EJ.unopt, WJ.or1, AJ.consP, SJ.retP, EP.non, TJ.inn, RowT.list, SJ.forB, IJ.list, SJ.ifR, TP.toJ, TP.not, EP.toT, EP.fn1, EP.lcM, EP.inn, SJ.nilB, TJ.not, EJ.toT, EJ.fn1, EJ.lc, EJ.cmp, EP.lst, LP.cons, LP.nil, SJ.ret, turnF, VJ.cons, EP.ofJ, R.pbind, PM.pbind]
  repeat' (first
    | with_reducible rfl
    | refine mapc (fun _ => ?_) ?_
    | refine loopNc (fun _ _ => ?_) ?_ ?_
    | refine loopFc (fun _ _ => ?_) ?_ ?_
    | refine whileNc (fun _ => ?_) (fun _ => ?_) ?_
    | refine whileFc (fun _ => ?_) (fun _ => ?_) ?_
    | refine compc (fun _ => ?_) (fun _ => ?_) ?_
    | refine noerc ?_
    | refine bindFL ?_ (fun _ => ?_) (fun _ => ?_)
    | refine bindc ?_ (fun _ => ?_)
    | refine itec ?_ ?_ ?_
    | rfl)
theorem F_law_right {T : Wd} (hf : Hf T) : Fn T 11 "_law_right" ["_law_pot_here"] (spF PM T.K 1 0 [] [] (.sh TY.bool) (fun _ s => m_law_right)) := by
  obtain ⟨fd, F⟩ := hf.c.def_ 42 (d := d55) rfl
  have h := fn_ok F sc_law_right (x_law_right hf)
  rw [e_law_right hf] at h
  exact Fn.mk' F (Says.glo hf 62) (FunD.bindsN F fun _ _ _ _ _ _ us hl => match us, hl with | [_], _ => rfl) h
def N_law_pot : List Str := ["_law_script", "_law_k", "_law_cell"]
theorem sc_law_pot : FnScope N_law_pot ["_law_script", "_law_k"] (defScope s47) := ⟨rfl, rfl, rfl, by decide +kernel, rfl, by decide +kernel, by decide +kernel⟩
def x_law_pot {T : Wd} (hf : Hf T) : SJ R ⟨T, N_law_pot, defScope s47, 1, 3, fun _ => true⟩ [] [(0, (.sh TY.scr)), (1, (.sh TY.int))] (defBody s47) (OZ.r [] (.o1 TY.int)) :=
  (SJ.set 2 (EJ.ite (TP.toJ (TP.cmp cm2_lt (EP.var 1) (EP.fn1 fn_lenS (Bt.fn bt_len) (Says.free hf 5) (EP.var 0)))) (EJ.fn1 fn_abs (Bt.fn bt_abs) (Says.free hf 63) (EJ.ix ix_scr (EP.toEJ (EP.var 0)) (EP.toEJ (EP.var 1)))) (EP.toEJ (EP.bin op2_add (EP.kMul (EP.var 1)) EP.int))) (SJ.ret (EJ.lst (LP.toLJ (LP.cons (EP.fn2 fn_max2 (Bt.fn bt_max) (Says.free hf 8) EP.int (EP.bin op2_sub (EP.var 2) (EP.powKK))) (LP.cons (EP.bin op2_add (EP.modK (EP.fn1 fn_intI (Bt.ty bt_int) (Says.free hf 1) (EP.bin op2_add (EP.bin op2_add (EP.mulK (EP.modK (EP.fn1 fn_intI (Bt.ty bt_int) (Says.free hf 1) (EP.var 2)))) (EP.kMul (EP.var 1))) EP.int))) EP.int) (LP.nil (t := TY.int))))))))
def m_law_pot (script : (List Int)) (k : Int) : R (List Int) :=
  ((if (decide (k < (script.length : Int))) = true then ((optM (atI script k)) >>= fun (v335 : Int) => pure (if v335 < 0 then -v335 else v335)) else pure ((823 * k) + 653)) >>= fun (cell336 : Int) => pure [(if (cell336 - ((10 : Int) ^ (18 : Int).toNat)) > 0 then (cell336 - ((10 : Int) ^ (18 : Int).toNat)) else 0), ((((((cell336 % 2147483543) * 40471) + (6947 * k)) + 229) % 2147483549) + 1)])
theorem e_law_pot {T : Wd} (hf : Hf T) : (x_law_pot hf).den = fun _ s => m_law_pot s.1 s.2.1 := by
  funext c s
  unfold x_law_pot m_law_pot
  dsimp only [SJ.set, EJ.ite, TP.toJ, TP.cmp, EP.var, EP.fn1, EJ.fn1, EJ.ix, EP.toEJ, EP.bin, EP.kMul, EP.int, SJ.ret, EJ.lst, LP.toLJ, LP.cons, EP.fn2, EP.powKK, EP.modK, EP.mulK, LP.nil, turnF, VJ.cons, EP.ofJ, R.pbind, PM.pbind]
  repeat' (first
    | with_reducible rfl
    | refine mapc (fun _ => ?_) ?_
    | refine loopNc (fun _ _ => ?_) ?_ ?_
    | refine loopFc (fun _ _ => ?_) ?_ ?_
    | refine whileNc (fun _ => ?_) (fun _ => ?_) ?_
    | refine whileFc (fun _ => ?_) (fun _ => ?_) ?_
    | refine compc (fun _ => ?_) (fun _ => ?_) ?_
    | refine noerc ?_
    | refine bindFL ?_ (fun _ => ?_) (fun _ => ?_)
    | refine bindc ?_ (fun _ => ?_)
    | refine itec ?_ ?_ ?_
    | rfl)
theorem F_law_pot {T : Wd} (hf : Hf T) : Fn T 2 "_law_pot" ["_law_script", "_law_k"] (spF R T.K 2 3 [] [(0, (.sh TY.scr)), (1, (.sh TY.int))] (.o1 TY.int) (fun _ s => m_law_pot s.1 s.2.1)) := by
  obtain ⟨fd, F⟩ := hf.c.def_ 34 (d := d47) rfl
  have h := fn_ok F sc_law_pot (x_law_pot hf)
  rw [e_law_pot hf] at h
  exact Fn.mk' F (Says.glo hf 64) (FunD.bindsN F fun _ _ _ _ _ _ us hl => match us, hl with | [_, _], _ => rfl) h
def N_law : List Str := ["_law_script"]
theorem sc_law : FnScope N_law ["_law_script"] (defScope s56) := ⟨rfl, rfl, rfl, by decide +kernel, rfl, by decide +kernel, by decide +kernel⟩
def x_law {T : Wd} (hf : Hf T) : SJ R ⟨T, N_law, defScope s56, 11, 1, fun _ => true⟩ [] [(0, (.sh TY.scr))] (defBody s56) (OZ.r [] (.sh TY.bool)) :=
  (SJ.ret (EJ.callPot (F_law_right hf) (EJ.call (F_law_pot hf) (AP.toJ (AP.cons (EP.var 0) (AP.cons EP.int (AP.nil 2)))))))
def m_law (script : (List Int)) : R Bool :=
  ((m_law_pot script 0) >>= fun (v337 : List Int) => (potDo m_law_right v337))
theorem e_law {T : Wd} (hf : Hf T) : (x_law hf).den = fun _ s => m_law s.1 := by
  funext c s
  unfold x_law m_law
  dsimp only [SJ.ret, EJ.callPot, EJ.call, AP.toJ, AP.cons, EP.var, EP.int, AP.nil, turnF, VJ.cons, EP.ofJ, R.pbind, PM.pbind]
  repeat' (first
    | with_reducible rfl
    | refine mapc (fun _ => ?_) ?_
    | refine loopNc (fun _ _ => ?_) ?_ ?_
    | refine loopFc (fun _ _ => ?_) ?_ ?_
    | refine whileNc (fun _ => ?_) (fun _ => ?_) ?_
    | refine whileFc (fun _ => ?_) (fun _ => ?_) ?_
    | refine compc (fun _ => ?_) (fun _ => ?_) ?_
    | refine noerc ?_
    | refine bindFL ?_ (fun _ => ?_) (fun _ => ?_)
    | refine bindc ?_ (fun _ => ?_)
    | refine itec ?_ ?_ ?_
    | rfl)
theorem F_law {T : Wd} (hf : Hf T) : Fn T 12 "law" ["_law_script"] (spF R T.K 1 1 [] [(0, (.sh TY.scr))] (.sh TY.bool) (fun _ s => m_law s.1)) := by
  obtain ⟨fd, F⟩ := hf.c.def_ 43 (d := d56) rfl
  have h := fn_ok F sc_law (x_law hf)
  rw [e_law hf] at h
  exact Fn.mk' F (Says.glo hf 65) (FunD.bindsN F fun _ _ _ _ _ _ us hl => match us, hl with | [_], _ => rfl) h
end La
namespace La
open PySem PySem.Spec L2 Tp
theorem law_end (true_ : ∀ ns : List Int, ns.length ≤ 63 → m_law ns = .ok true) {P : Program} {w : World} {K : PySem.W.Frag} {h : Heap} {mg : Str → Option Value} {f : Addr} (c : SaysE fa fb fn pn K) (X : K.In h) (G : h.Ns mainGlobals mg) (hfa : mg ("law" : Str) = some (.ref f)) :
    ∃ (K : PySem.W.Frag) (fd : FuncData) (sp : Sp), K.In h ∧ (∀ (s : Shared) (u : Value), BindsTo s fd ⟨[u], []⟩ [("_law_script", u)]) ∧
      (∀ (H : Hp) (a : Addr) (ns : List Int), ns.length ≤ 63 → SqL K H a (ns.map V.int) → sp [.ref a] H (fun v _ => v = .bl true) fun _ _ _ => False) ∧ ∀ base : Heap, K.In base → base.Ns mainGlobals mg → FnG P w K mg base 12 f fd ["_law_script"] sp := by
  obtain ⟨fd, F⟩ := c.def_ 43 (d := d56) rfl
  have e := hfa.symm.trans (He.glo_ok X G (c.fact 65 (f := .glo "law") rfl))
  cases e
  have b := FunD.bindsA (ps := ["_law_script"]) F fun _ _ _ _ _ _ us hl => match us, hl with | [_], _ => rfl
  refine ⟨K, fd, spF R K 1 1 [] [(0, (.sh TY.scr))] (.sh TY.bool) (fun _ s => m_law s.1), X, fun s v => b s [v] rfl, fun H a ns hl hS => law_sp hS (true_ ns hl) rfl, fun base _ _ => ?_⟩
  have hf : Hf ⟨P, w, K, mg, base⟩ := ⟨c, h, X, G⟩
  have r := fn_ok F sc_law (x_law hf)
  rw [e_law hf] at r
  exact r
end La

set_option Elab.async false
set_option linter.all false
set_option maxRecDepth 100000
set_option maxHeartbeats 1000000
namespace La
open PySem Tp Mb
open L2 (atI)
theorem draw_ok {many : Int} (h0 : 0 < many) (h1 : many < 1000000) : Dr (m_law_draw many) fun d => 0 ≤ d ∧ d < many := by
  have hm : ∀ i : Int, 0 ≤ i % many ∧ i % many < many := fun i => ⟨Int.emod_nonneg _ (by omega), Int.emod_lt_of_pos _ h0⟩
  unfold m_law_draw
  simp only [PM.assoc, PM.pure_bind]
  refine Dr.bind Dr.get0 fun v hv => Dr.ite (fun _ => ?_) fun _ => ?_
  · refine Dr.bind Dr.get0 fun v hv => ?_
    rw [dmO_ok h0 h1, PM.optM_some, PM.pure_bind]
    exact Dr.bind (Dr.put0 (Int.ediv_nonneg hv (by omega))) fun _ _ => Dr.ret (hm _)
  · refine Dr.bind Dr.get1 fun v hv => ?_
    rw [mulO_r (by omega) (by omega), PM.optM_some, PM.pure_bind, modO_ok (by omega), PM.optM_some, PM.pure_bind, put1_get1, put1_get1]
    have b : ∀ i : Int, 0 ≤ i % 2147483549 ∧ i % 2147483549 < 2147483549 := fun i => ⟨Int.emod_nonneg _ (by omega), Int.emod_lt_of_pos _ (by omega)⟩
    refine Dr.bind (Dr.put1 (b _).1) fun _ _ => ?_
    rw [mulO_l (by have := b (v * 39541 + 6947); omega) (by have := b (v * 39541 + 6947); omega), PM.optM_some, PM.pure_bind, modO_ok (by omega), PM.optM_some, PM.pure_bind, divO_ok (by omega) (by omega), PM.optM_some, PM.pure_bind, modO_ok h0, PM.optM_some]
    exact Dr.ret (hm _)
end La

set_option Elab.async false
set_option linter.all false
set_option maxRecDepth 100000
set_option maxHeartbeats 1000000
namespace La
open PySem Tp Mb
open L2 (atI)
theorem thing_iff {n x : Int} : g_is_thing n x = true ↔ 0 ≤ x ∧ x < n := by
  unfold g_is_thing g_is_count g_is_integer; simp
theorem arrow_iff {n : Int} {q : P2} : g_is_arrow n q = true ↔ (0 ≤ q.1 ∧ q.1 < n) ∧ (0 ≤ q.2 ∧ q.2 < n) ∧ q.1 ≠ q.2 := by
  unfold g_is_arrow
  simp only [List.map_cons, List.map_nil, List.all_cons, List.all_nil, id]
  have h1 := thing_iff (n := n) (x := q.1)
  have h2 := thing_iff (n := n) (x := q.2)
  cases e1 : g_is_thing n q.1 <;> cases e2 : g_is_thing n q.2 <;> simp [e1, e2] at h1 h2 ⊢ <;> omega
theorem tie_iff {n : Int} {q : P2} : g_is_tie n q = true ↔ 0 ≤ q.1 ∧ q.1 < q.2 ∧ q.2 < n := by
  unfold g_is_tie
  rw [Bool.and_eq_true, arrow_iff, decide_eq_true_eq]
  omega
theorem arrows_in_ok {n : Int} {A : List P2} (h : ArrOk n A) : g_arrows_in n A = some (srt2 A) := by
  unfold g_arrows_in
  rw [if_neg]
  · rfl
  · have e : (List.map (fun y => g_is_arrow n y) A).all id = true := by
      rw [List.all_map, List.all_eq_true]
      intro q hq
      exact arrow_iff.mpr (h q hq)
    unfold g_is_list
    rw [e]; simp
theorem unlike_eq (A : List P2) : g_all_unlike A = (adj A).all (fun p => !decide (p.1 = p.2)) := by
  unfold g_all_unlike adj
  rw [cut1, List.all_map]
  rfl
theorem unlike_ok {A : List P2} (h : A.Nodup) : g_all_unlike A = true := by
  rw [unlike_eq, List.all_eq_true]
  intro p hp
  simp [adj_nodup h p hp]
theorem able_mirror (A : List P2) (l : List Int) : (List.map (fun y => y) (List.filter (fun y => !(List.map (fun q : P2 => decide (q.2 = y) && EqT.int.mem q.1 l) A).any id) l)) = able A l := by
  rw [List.map_id']
  unfold able
  refine List.filter_congr fun x _ => ?_
  rw [List.any_map]
  congr 1
  congr 1
  funext q
  show (decide (q.2 = x) && EqT.int.mem q.1 l) = _
  congr 1
  have h := EqT.mem_true EqT.int q.1 l
  cases e : EqT.int.mem q.1 l with
  | true => exact (decide_eq_true (h.mp e)).symm
  | false => exact (decide_eq_false fun q => by rw [h.mpr q] at e; cases e).symm
theorem order_eq {n : Int} {A : List P2} (h0 : 0 ≤ n) (h1 : n ≤ 800) : m_order_of n A = .ok (ordr n A) := by
  unfold m_order_of
  simp only [R.assoc, R.pure_eq, R.bind_ok, R.noer_ok]
  rw [rgL_ok h0 (by omega), R.optM_some, R.bind_ok]
  rw [greedy_while (A := A) (fun _ => rfl) (fun f l hl hlen => ?_) n.toNat (rg n) [] 1000 (by rw [rg_len]; exact Nat.le_refl _) (by omega) (by rw [rg_len]; simp; omega), R.bind_ok]
  · unfold ordr
    cases greedy A n.toNat (rg n) with
    | none => rfl
    | some o => simp [FL.map]
  · dsimp only
    rw [able_mirror]
    cases ea : able A l with
    | nil =>
      have e : (EqT.list EqT.int).b [] [] = true := (EqT.b_true _ _ _).mpr rfl
      rw [e]; rfl
    | cons x r =>
      have hx : x ∈ l := (mem_able.mp (show x ∈ able A l by rw [ea]; simp)).1
      have e : (EqT.list EqT.int).b (x :: r) [] = false := (EqT.b_false _ _ _).mpr (by simp)
      rw [e, if_neg (by simp), atI_ok (by omega) (by simp)]
      simp only [R.optM_some, R.bind_ok]
      rw [appO_ok (by omega)]
      simp only [R.optM_some, R.bind_ok]
      rw [remO_ok (by simpa using hx)]
      rfl
theorem unlike_arrows {n : Int} {A : List P2} (h0 : 0 ≤ n) (h1 : n ≤ 800) (hn : A.Nodup) (h : Acy A) : m_are_unlike n A = .ok true := by
  obtain ⟨o, ho, _⟩ := ordr_some (n := n) h
  unfold m_are_unlike
  rw [unlike_ok hn]
  simp only [if_true]
  rw [order_eq h0 h1, ho]
  rfl
theorem ties_in_ok {n : Int} {T : List P2} (h : TieOk n T) : m_ties_in n T = .ok (some (srt2 T)) := by
  unfold m_ties_in
  simp only [R.assoc, R.pure_eq, R.bind_ok]
  first
    | rw [arrows_in_ok h.arr]
    | rw [show g_arrows_in1 = g_arrows_in from rfl, arrows_in_ok h.arr]
  have e : (List.map (fun y => g_is_tie n y) (srt2 T)).all id = true := by
    rw [List.all_map, List.all_eq_true]
    intro q hq
    exact tie_iff.mpr (h q (mem_srt2.mp hq))
  simp only [Option.isNone_some, Bool.not_false, if_true, R.optM_some, R.bind_ok, e]
/-- a plan as the package keeps it -/
abbrev mkP (n : Int) (A T : List P2) : aI_Plan := (n, srt2 A, srt2 T, ())
theorem plan_init_ok {n : Int} {A T : List P2} (h0 : 0 ≤ n) (h6 : n ≤ 6) (ha : ArrOk n A) (an : A.Nodup) (ac : Acy A) (ht : TieOk n T) (tn : T.Nodup) : m_Plan_init n A T = .ok (n, some (srt2 A), some (srt2 T), ()) := by
  unfold m_Plan_init
  simp only [R.assoc, R.pure_eq, R.bind_ok]
  have e1 : (!g_is_count n || decide (6 < n)) = false := by
    unfold g_is_count g_is_integer
    simp; omega
  rw [e1]
  simp only [if_neg Bool.false_ne_true, R.bind_ok]
  rw [arrows_in_ok ha]
  simp only [Option.isNone_some, if_neg Bool.false_ne_true, R.optM_some, R.bind_ok]
  rw [unlike_arrows h0 (by omega) (srt2_nodup.mpr an) (ac.sub fun q hq => mem_srt2.mp hq), R.bind_ok]
  simp only [Bool.not_true, if_neg Bool.false_ne_true, R.bind_ok]
  rw [ties_in_ok ht, R.bind_ok]
  simp only [Option.isNone_some, if_neg Bool.false_ne_true, R.optM_some, R.bind_ok]
  unfold m_all_unlike
  rw [show (List.all (List.map (fun y : P2 × P2 => !(EqT.tup2 EqT.int EqT.int).b y.1 y.2) (List.zip (srt2 T) (cut (srt2 T) (some 1) none))) id) = true from unlike_ok (srt2_nodup.mpr tn)]
  rfl
theorem asPlan (n : Int) (A T : List P2) : as_Plan_init (n, some A, some T, ()) = some (n, A, T, ()) := rfl
end La

set_option Elab.async false
set_option linter.all false
set_option maxRecDepth 100000
set_option maxHeartbeats 1000000
namespace La
open PySem Tp Mb
open L2 (atI)
theorem late_mirror (A : List P2) (L found fresh : List Int) : (List.map (fun y => y) (List.filter (fun y => EqT.int.mem y (List.map (fun q : P2 => q.1) (List.filter (fun q => EqT.int.mem q.2 fresh && (EqT.int.mem q.1 L && !EqT.int.mem q.1 found)) A))) L)) = late A L found fresh := by
  rw [List.map_id']
  unfold late
  refine List.filter_congr fun x _ => ?_
  rw [Bool.eq_iff_iff, EqT.mem_true, List.mem_map, List.any_eq_true]
  constructor
  · rintro ⟨q, hq, rfl⟩
    obtain ⟨h1, h2⟩ := List.mem_filter.mp hq
    refine ⟨q, h1, ?_⟩
    rw [Bool.and_eq_true, Bool.and_eq_true, EqT.mem_true, EqT.mem_true, Bool.not_eq_true', EqT.mem_false] at h2
    simp [h2.1, h2.2.1, h2.2.2]
  · rintro ⟨q, h1, h2⟩
    simp only [Bool.and_eq_true, decide_eq_true_eq, Bool.not_eq_true', decide_eq_false_iff_not] at h2
    refine ⟨q, List.mem_filter.mpr ⟨h1, ?_⟩, h2.1⟩
    rw [Bool.and_eq_true, Bool.and_eq_true, EqT.mem_true, EqT.mem_true, Bool.not_eq_true', EqT.mem_false]
    exact h2.2
theorem leaders_ok {A : List P2} {L : List Int} {t : Int} (hL : L.Nodup) (hl : L.length ≤ 400) : Ok (m_leaders A L t) fun r => Up r ∧ ∀ x, x ∈ r ↔ Ld A L t x := by
  unfold m_leaders
  simp only [R.assoc, R.pure_eq, R.bind_ok]
  refine Ok.bind (Ok.whileN (fun s : List Int × List Int × Unit => LdI A L t s.1 s.2.1) (fun s => if s.2.1 = [] then 0 else L.length + 3 - s.1.length) (fun s => !(EqT.list EqT.int).b s.2.1 []) (fun _ _ => rfl) (fun s hs ht => ?_) 1000 ([t], [t], ()) .start (by dsimp only; rw [if_neg (by simp)]; simp; omega)) fun s hs => ?_
  · obtain ⟨f, g, u⟩ := s
    dsimp only at hs ht ⊢
    rw [late_mirror]
    have hf := hs.len
    have hst := hs.step hL
    have hlen := hst.len
    rw [List.length_append] at hlen
    rw [catO_ok (by omega), R.optM_some, R.bind_ok]
    have hg : g ≠ [] := by simpa [EqT.b_false] using ht
    refine Ok.ok ⟨hst, ?_⟩
    dsimp only
    rw [if_neg hg]
    by_cases e : late A L f g = []
    · rw [if_pos e]; omega
    · rw [if_neg e, List.length_append]
      have : 0 < (late A L f g).length := List.length_pos_iff.mpr e
      omega
  · obtain ⟨f, g, u⟩ := s
    obtain ⟨h1, h2⟩ := hs
    have hg : g = [] := by simpa [EqT.b_true] using h2
    dsimp only at h1 ⊢
    subst hg
    exact Ok.ok ⟨srt_up h1.nd, fun x => mem_srt.trans h1.stop⟩
end La

set_option Elab.async false
set_option linter.all false
set_option maxRecDepth 100000
set_option maxHeartbeats 1000000
namespace La
open PySem Tp Mb
open L2 (atI)
theorem part_in_eq {T : List P2} {L : List Int} {t : Int} (hL : Up L) (ht : t ∈ L) (hl : L.length ≤ 400) (hT : T.length ≤ 400) : m_part_in T L t = .ok (cls T L t) := by
  unfold m_part_in
  rw [catO_ok (by rw [List.length_map]; omega), R.optM_some, R.bind_ok]
  have h := leaders_ok (A := both T) (t := t) (Up.nodup hL) hl
  refine Ok.to (h.mono fun r hr => up_ext hr.1 (cls_up hL) fun x => ?_)
  rw [hr.2, mem_cls]
  refine ⟨fun q => ⟨?_, q⟩, fun q => q.2⟩
  rcases q.mem with e | e
  · rw [e]; exact ht
  · exact e
end La

set_option Elab.async false
set_option linter.all false
set_option maxRecDepth 100000
set_option maxHeartbeats 1000000
/-! the greatest lot with a head -/
namespace La
open PySem Tp Mb
open L2 (atI)
theorem leaders_eq {A : List P2} {L : List Int} {t : Int} (hL : Up L) (ht : t ∈ L) (hl : L.length ≤ 400) : m_leaders A L t = .ok (ldl A L t) := by
  refine Ok.to ((leaders_ok (A := A) (t := t) hL.nodup hl).mono fun r hr => up_ext hr.1 (ldl_up hL) fun x => ?_)
  rw [hr.2, mem_ldl]
  refine ⟨fun q => ⟨?_, q⟩, fun q => q.2⟩
  rcases q.mem with e | e
  · rw [e]; exact ht
  · exact e
theorem greatest_ok {n : Int} {A T : List P2} {t : Int} (h6 : n ≤ 6) (hT : T.length ≤ 400) (ht : t ∈ rg n) : m_greatest_of (n, A, T, ()) t = .ok (gr A T n t) := by
  have ht' := mem_rg.mp ht
  unfold m_greatest_of
  simp only [R.assoc, R.pure_eq, R.bind_ok]
  show (optM (rgL 0 n) >>= fun a => _) = _
  rw [rgL_ok (by omega) (by omega), R.optM_some, R.bind_ok]
  refine Ok.to (Ok.bind (Ok.whileN (fun s : List Int × Int × Unit => Up s.1 ∧ t ∈ s.1 ∧ (∀ x ∈ s.1, x ∈ rg n) ∧ (∀ M, Good A T n t M → ∀ x ∈ M, x ∈ s.1) ∧ (s.2.1 = (s.1.length : Int) → stp A T t s.1 = s.1)) (fun s => 2 * s.1.length + (if s.2.1 = (s.1.length : Int) then 0 else 1)) (fun s => !decide (s.2.1 = (s.1.length : Int))) (fun _ _ => rfl) (fun s hs hb => ?_) 1000 (rg n, -1, ()) ⟨rg_up n, ht, fun _ h => h, fun M g => g.m, fun e => ?_⟩ ?_) fun s hs => ?_)
  · obtain ⟨l, m, u⟩ := s
    obtain ⟨hu, hm, hr, hg, _⟩ := hs
    dsimp only at hu hm hr hg hb ⊢
    have hl : l.length ≤ 6 := by
      have := hu.nodup.length_le_of_subset hr
      rw [rg_len] at this; omega
    have hll : (ldl A l t).length ≤ l.length := List.length_filter_le _ _
    have key : (m_leaders A l t >>= fun a => m_part_in T a t) = .ok (stp A T t l) := by
      rw [leaders_eq hu hm (by omega), R.bind_ok, part_in_eq (ldl_up hu) (ldl_self hm) (by omega) hT]; rfl
    first
      | (show Ok (m_leaders A l t >>= fun a => m_part_in T a t >>= fun lot => R.ok (lot, (l.length : Int), ())) _
         rw [← R.assoc, key, R.bind_ok])
      | (show Ok (Eff.noer (m_leaders A l t >>= fun a => m_part_in T a t) >>= fun lot => R.ok (lot, (l.length : Int), ())) _
         rw [key, R.noer_ok, R.bind_ok])
    have hne : m ≠ (l.length : Int) := by simpa using hb
    have hls : (stp A T t l).length ≤ l.length := by unfold stp cls; exact Nat.le_trans (List.length_filter_le _ _) hll
    refine Ok.ok ⟨⟨stp_up hu, stp_self hm, fun x hx => hr x (stp_sub x hx), fun M g => stp_good g (hg M g), fun e => ?_⟩, ?_⟩
    · have e' : (l.length : Int) = ((stp A T t l).length : Int) := e
      have e2 : stp A T t l = l := up_len_eq (stp_up hu) hu stp_sub (by omega)
      show stp A T t (stp A T t l) = stp A T t l
      rw [e2]; exact e2
    · show 2 * (stp A T t l).length + (if (l.length : Int) = ((stp A T t l).length : Int) then 0 else 1) < 2 * l.length + (if m = (l.length : Int) then 0 else 1)
      rw [if_neg hne]
      split <;> omega
  · exact absurd e (by dsimp only; omega)
  · dsimp only
    rw [rg_len]
    split <;> omega
  · obtain ⟨l, m, u⟩ := s
    obtain ⟨⟨hu, hm, hr, hg, hf⟩, hb⟩ := hs
    dsimp only at hu hm hr hg hf hb ⊢
    have e : m = (l.length : Int) := by simpa using hb
    exact Ok.ok (gr_eq hu (stp_fix hr hm (hf e)) hg)
end La

set_option Elab.async false
set_option linter.all false
set_option maxRecDepth 100000
set_option maxHeartbeats 1000000
/-! the law's own lots -/
namespace La
open PySem Tp Mb
open L2 (atI)
theorem law_hung_ok {T : List P2} {L : List Int} {t : Int} (hL : Up L) (hl : L.length ≤ 400) (ht : t ∈ L) : m_law_hung T L t = .ok (cls T L t) := by
  unfold m_law_hung
  simp only [R.assoc, R.pure_eq, R.bind_ok]
  refine Ok.to (Ok.bind (Ok.whileN (fun s : List Int × Int × Unit => ∃ k : Nat, s.2.1 = k ∧ BfI (both T) L t s.1 k) (fun s => L.length + 1 - s.2.1.toNat) (fun s => decide (s.2.1 < (s.1.length : Int))) (fun _ _ => rfl) (fun s hs hb => ?_) 1000 ([t], 0, ()) ⟨0, rfl, .start ht⟩ (by dsimp only; omega)) fun s hs => ?_)
  · obtain ⟨f, m, u⟩ := s
    obtain ⟨k, hk, b⟩ := hs
    dsimp only at hk b hb ⊢
    subst hk
    have hkl : k < f.length := by simpa using hb
    have hfl := b.len
    have hy : f[k]? = some f[k] := by simp [hkl]
    refine Ok.bind (Ok.loopP (fun p (s : List Int × Unit) => HgI T L t f f[k] p s.1) (xs := T) (HgI.start b) fun p q s hp hs => ?_) fun s hs => ?_
    · obtain ⟨r, hr⟩ := hp
      obtain ⟨g, u⟩ := s
      dsimp only at hs ⊢
      have hat : ∀ {p g}, HgI T L t f f[k] p g → atI g (k : Int) = some f[k] ∧ g.length ≤ L.length := fun {p g} h => by
        obtain ⟨e, he⟩ := h.pre
        refine ⟨atI_some (by rw [he, List.getElem?_append_left hkl, hy]), h.nd.length_le_of_subset h.m⟩
      have one : ∀ (g : List Int) (b : Bool) (x : Int), g.length ≤ L.length → (if (if b = true then (if EqT.int.mem x L = true then !EqT.int.mem x g else false) else false) = true then (optM (appO g x) >>= fun a => R.ok a.1) else R.ok g : R (List Int)) = .ok (put1 L g b x) := fun g b x hg => by
        unfold put1
        by_cases c : b = true ∧ x ∈ L ∧ x ∉ g
        · have e1 : EqT.int.mem x L = true := (EqT.mem_true _ _ _).mpr c.2.1
          have e2 : EqT.int.mem x g = false := (EqT.mem_false _ _ _).mpr c.2.2
          rw [if_pos c, c.1, e1, e2, if_pos (by simp), appO_ok (by omega), R.optM_some, R.bind_ok]
        · rw [if_neg c, if_neg]
          intro z
          refine c ⟨?_, ?_, ?_⟩
          · cases b <;> simp at z ⊢
          · cases e : EqT.int.mem x L with
            | true => exact (EqT.mem_true _ _ _).mp e
            | false => rw [e] at z; cases b <;> simp at z
          · cases e : EqT.int.mem x g with
            | false => exact (EqT.mem_false _ _ _).mp e
            | true => rw [e] at z; cases b <;> cases h : EqT.int.mem x L <;> rw [h] at z <;> simp at z
      have hqT : q ∈ T := by rw [hr]; simp
      have hfk : f[k] ∈ f := List.getElem_mem hkl
      have st := hs.step hfk hqT
      have half := (hs.put (b := decide (q.1 = f[k])) (x := q.2) hfk fun e => by
        have e := of_decide_eq_true e
        rw [← e]; exact mem_both.mpr (.inr hqT)).1
      obtain ⟨e1, l1⟩ := hat hs
      obtain ⟨e2, l2⟩ := hat half
      have o1 := one g (decide (q.1 = f[k])) q.2 l1
      have o2 := one (put1 L g (decide (q.1 = f[k])) q.2) (decide (q.2 = f[k])) q.1 l2
      rw [e1, R.optM_some, R.bind_ok]
      have t1 : (if decide (q.1 = f[k]) = true then (if EqT.int.mem q.2 L = true then R.ok (!EqT.int.mem q.2 g) else R.ok false) else R.ok false) = R.ok (if decide (q.1 = f[k]) = true then (if EqT.int.mem q.2 L = true then !EqT.int.mem q.2 g else false) else false) := by
        repeat' split
        all_goals rfl
      rw [t1, R.noer_ok, R.bind_ok]
      have half : ∀ {B : Type} (z : Bool) (g : List Int) (x : Int) (w : List Int) (F : List Int → B), g.length ≤ L.length → (if z = true then (optM (appO g x) >>= fun a => R.ok a.1) else R.ok g : R (List Int)) = .ok w → (if z = true then (optM (appO g x) >>= fun a => R.ok (F a.1)) else R.ok (F g) : R B) = .ok (F w) := fun z g x w F hg o => by
        cases z with
        | true =>
          rw [if_pos rfl, appO_ok (by omega), R.optM_some, R.bind_ok] at o ⊢
          rw [R.ok.inj o]
        | false =>
          rw [if_neg Bool.false_ne_true] at o ⊢
          rw [R.ok.inj o]
      rw [half _ g q.2 _ (fun w => (q.1, q.2, w, ())) l1 o1, R.bind_ok]
      dsimp only
      rw [e2, R.optM_some, R.bind_ok]
      have t3 : (if decide (q.2 = f[k]) = true then (if EqT.int.mem q.1 L = true then R.ok (!EqT.int.mem q.1 (put1 L g (decide (q.1 = f[k])) q.2)) else R.ok false) else R.ok false) = R.ok (if decide (q.2 = f[k]) = true then (if EqT.int.mem q.1 L = true then !EqT.int.mem q.1 (put1 L g (decide (q.1 = f[k])) q.2) else false) else false) := by
        repeat' split
        all_goals rfl
      rw [t3, R.noer_ok, R.bind_ok, half _ (put1 L g (decide (q.1 = f[k])) q.2) q.1 _ (fun w => (q.1, q.2, w, ())) l2 o2, R.bind_ok]
      exact Ok.ok st
    · obtain ⟨g, u⟩ := s
      dsimp only at hs ⊢
      have b2 := hs.stop b hy
      have := b2.le
      have := b2.len
      refine Ok.ok ⟨⟨k + 1, by dsimp only; omega, b2⟩, ?_⟩
      dsimp only
      omega
  · obtain ⟨f, m, u⟩ := s
    obtain ⟨⟨k, hk, b⟩, hb⟩ := hs
    dsimp only at hk b hb ⊢
    subst hk
    rw [R.noer_ok]
    refine Ok.ok (srt_eq b.nd (cls_up hL) fun x => ?_)
    rw [b.stop (by simpa using hb), mem_cls]
    exact ⟨fun q => ⟨b.m x ((b.stop (by simpa using hb)).mpr q), q⟩, fun q => q.2⟩
theorem filter_eq_iff {p : Int → Bool} {L : List Int} : L.filter p = L ↔ ∀ x ∈ L, p x = true := List.filter_eq_self
theorem lots_ok {n : Int} (h0 : 0 ≤ n) (h6 : n ≤ 6) : m_all_lots n = .ok ((lots n.toNat).mergeSort leR) := by
  unfold m_all_lots
  simp only [R.assoc, R.pure_eq, R.bind_ok]
  rw [rng1_ok h0 (by omega), R.optM_some, R.bind_ok]
  refine Ok.to (Ok.bind (Ok.loopP (fun p (s : List (List Int) × Unit) => s.1 = lots p.length) (xs := rg n) rfl fun p x s hp hs => ?_) fun s hs => Ok.ok (by rw [hs, rg_len]; rfl))
  obtain ⟨r, hr⟩ := hp
  obtain ⟨g, u⟩ := s
  dsimp only at hs ⊢
  have hpl : p.length < n.toNat := by
    have := congrArg List.length hr
    rw [rg_len] at this; simp at this; omega
  have hx : x = (p.length : Int) := by
    have h1 : (rg n)[p.length]'(by rw [rg_len]; exact hpl) = (p.length : Int) := rg_at _
    have h2 : (rg n)[p.length]? = some x := by rw [hr]; simp
    rw [List.getElem?_eq_getElem (by rw [rg_len]; exact hpl), h1] at h2
    exact (Option.some.inj h2).symm
  have hgl : g.length ≤ 64 := by
    rw [hs, lots_len]
    exact Nat.le_trans (Nat.pow_le_pow_right (by decide) (show p.length ≤ 6 by omega)) (by decide)
  rw [comp_all (g := fun l : List Int => l ++ [x]) g fun l hl => ?_]
  · rw [R.noer_ok, R.bind_ok, catO_ok (by rw [List.length_map]; omega), R.optM_some, R.bind_ok]
    refine Ok.ok ?_
    dsimp only
    rw [List.length_append, List.length_singleton, hs, hx]
    rfl
  · rw [hs] at hl
    have := (mem_lots.mp hl).1.nodup.length_le_of_subset (l₂ := rg p.length) fun y hy => mem_rg.mpr ((mem_lots.mp hl).2 y hy)
    rw [rg_len] at this
    rw [catO_ok (by simp at this ⊢; omega), R.optM_some]
theorem lot_len {L : List Int} {n : Int} (hu : Up L) (hm : ∀ x ∈ L, x ∈ rg n) (h6 : n ≤ 6) : L.length ≤ 6 := by
  have := hu.nodup.length_le_of_subset hm
  rw [rg_len] at this; omega
open Classical in
/-- all barred lots -/
noncomputable def barsL (A T : List P2) (n : Int) : List (List Int) := ((lots n.toNat).mergeSort leR).filter fun L => decide (Bar A T n L)
open Classical in
theorem mem_barsL {A T : List P2} {n : Int} (h0 : 0 ≤ n) {L : List Int} : L ∈ barsL A T n ↔ Bar A T n L := by
  unfold barsL
  rw [List.mem_filter, decide_eq_true_eq, List.mem_mergeSort, mem_lots_rg h0]
  exact ⟨fun h => h.2, fun h => ⟨⟨h.up, h.m⟩, h⟩⟩
theorem barsL_nil {A T : List P2} {n : Int} (h0 : 0 ≤ n) : barsL A T n = [] ↔ Plain A T n := by
  constructor
  · intro e L b
    have := (mem_barsL h0).mpr b
    rw [e] at this; cases this
  · intro h
    refine List.eq_nil_iff_forall_not_mem.mpr fun L hL => h L ((mem_barsL h0).mp hL)
end La

set_option Elab.async false
set_option linter.all false
set_option maxRecDepth 100000
set_option maxHeartbeats 1000000
/-! drawn worlds -/
namespace La
open PySem Tp Mb
open L2 (atI)
theorem order_ok' {n : Int} (h0 : 0 ≤ n) (h6 : n ≤ 6) : Dr (m_law_order n) fun o => o.Perm (rg n) := by
  unfold m_law_order
  simp only [PM.assoc, PM.pure_bind]
  rw [rgL_ok h0 (by omega), PM.optM_some, PM.pure_bind, rng1_ok h0 (by omega), PM.optM_some, PM.pure_bind]
  refine Dr.bind (Dr.loopP (fun p (s : List Int × List Int × Unit) => (s.2.1 ++ s.1).Perm (rg n) ∧ s.1.length + p.length = n.toNat) (xs := rg n) ⟨by simp, by simp [rg_len]⟩ fun p x s hp hs => ?_) fun s hs => ?_
  · obtain ⟨r, hr⟩ := hp
    obtain ⟨l, f, u⟩ := s
    obtain ⟨h1, h2⟩ := hs
    dsimp only at h1 h2 ⊢
    have hpl : p.length < n.toNat := by
      have := congrArg List.length hr
      rw [rg_len] at this; simp at this; omega
    have hfl : f.length ≤ 6 := by
      have := h1.length_eq
      rw [List.length_append, rg_len] at this; omega
    refine Dr.bind (Dr.noer (draw_ok (by omega) (by omega))) fun d hd => ?_
    rw [popB_ok hd.1 hd.2 (by omega), PM.optM_some, PM.pure_bind, appO_ok (by omega), PM.optM_some, PM.pure_bind]
    refine Dr.ret ⟨?_, ?_⟩
    · dsimp only
      refine List.Perm.trans ?_ h1
      rw [List.append_assoc]
      exact List.Perm.append_left f (by rw [List.singleton_append]; exact erase_perm (by omega))
    · dsimp only
      rw [List.length_eraseIdx_of_lt (by omega), List.length_append, List.length_singleton]
      omega
  · obtain ⟨l, f, u⟩ := s
    obtain ⟨h1, h2⟩ := hs
    dsimp only at h1 h2 ⊢
    rw [rg_len] at h2
    have : l = [] := List.length_eq_zero_iff.mp (by omega)
    subst this
    rw [List.append_nil] at h1
    exact Dr.ret h1
theorem PlanOk.most {m m' n : Int} {A T : List P2} (h : PlanOk m n A T) (hm : n ≤ m') : PlanOk m' n A T := ⟨h.n0, hm, h.an, h.tn, h.t, h.a, h.o⟩
theorem PlanOk.lessT {m n : Int} {A T U : List P2} (h : PlanOk m n A T) (hn : U.Nodup) (hs : ∀ q ∈ U, q ∈ T) : PlanOk m n A U := ⟨h.n0, h.n1, h.an, hn, fun q hq => h.t q (hs q hq), h.a, h.o⟩
theorem plan_init1_eq : m_Plan_init1 = m_Plan_init := rfl
theorem as_init1_eq : as_Plan_init1 = as_Plan_init := rfl
theorem made_ok {n : Int} {A T : List P2} (h6 : n ≤ 6) (h : PlanOk n n A T) : Dr (m_law_made (n, A, T)) fun P => P = mkP n A T := by
  unfold m_law_made
  simp only [PM.assoc, PM.pure_bind]
  refine Dr.bind (draw_ok (by omega) (by omega)) fun d _ => ?_
  have ra : ArrOk n A.reverse := h.arr.sub fun q hq => List.mem_reverse.mp hq
  have rc : Acy A.reverse := h.acy.sub fun q hq => List.mem_reverse.mp hq
  refine Dr.ite (fun _ => ?_) fun _ => ?_
  · show Dr (PM.lift (m_Plan_init n A.reverse T) >>= fun p => optM (as_Plan_init p)) _
    rw [plan_init_ok h.n0 h6 ra ((List.reverse_perm A).nodup_iff.mpr h.an) rc h.tie h.tn, PM.lift_ok, PM.pure_bind, asPlan, PM.optM_some]
    exact Dr.ret (by unfold mkP; rw [srt2_perm (List.reverse_perm A)])
  · show Dr (PM.lift (m_Plan_init1 n A T) >>= fun p => optM (as_Plan_init1 p)) _
    rw [plan_init1_eq, as_init1_eq, plan_init_ok h.n0 h6 h.arr h.an h.acy h.tie h.tn, PM.lift_ok, PM.pure_bind, asPlan, PM.optM_some]
    exact Dr.ret rfl
end La

set_option Elab.async false
set_option linter.all false
set_option maxRecDepth 100000
set_option maxHeartbeats 1000000
/-! the package's lots -/
namespace La
open PySem Tp Mb
open L2 (atI)
theorem filter_len_eq {p : Int → Bool} {L : List Int} : (L.filter p).length = L.length ↔ ∀ x ∈ L, p x = true := List.length_filter_eq_length_iff
theorem ldl_len {A : List P2} {L : List Int} {t : Int} : (ldl A L t).length = L.length ↔ ∀ x ∈ L, Ld A L t x := by
  unfold ldl; rw [filter_len_eq]; simp only [decide_eq_true_eq]
theorem cls_len {T : List P2} {L : List Int} {t : Int} : (cls T L t).length = L.length ↔ ∀ x ∈ L, Ld (both T) L t x := by
  unfold cls; rw [filter_len_eq]; simp only [decide_eq_true_eq]
theorem head_of_ok {n : Int} {A T : List P2} {L : List Int} (hL : Up L) (hl : L.length ≤ 400) : Ok (m_head_of (n, A, T, ()) L) fun r => match r with | none => ∀ t ∈ L, ¬ ∀ x ∈ L, Ld A L t x | some t => t ∈ L ∧ ∀ x ∈ L, Ld A L t x := by
  unfold m_head_of
  simp only [R.assoc, R.pure_eq, R.bind_ok]
  refine Ok.bind (Ok.loopFr (fun p (_ : Unit) => ∀ t ∈ p, ¬ ∀ x ∈ L, Ld A L t x) (fun r : Option Int => ∃ t, r = some t ∧ t ∈ L ∧ ∀ x ∈ L, Ld A L t x) (xs := L) [] (by simp) fun p t u hp hs => ?_) fun o ho => ?_
  · obtain ⟨r, hr⟩ := hp
    have ht : t ∈ L := by rw [show L = p ++ t :: r from hr]; simp
    show Ok (m_leaders A L t >>= _) _
    rw [leaders_eq hL ht hl, R.bind_ok]
    by_cases h1 : (ldl A L t).length = L.length
    · rw [if_pos (by simp; omega), R.bind_ok]
      exact Ok.ok ⟨_, rfl, ht, ldl_len.mp h1⟩
    · rw [if_neg (by simp; omega), R.bind_ok]
      refine Ok.ok fun x hx => ?_
      rcases List.mem_append.mp hx with hx | hx
      · exact hs x hx
      · simp at hx; subst hx
        exact fun q => h1 (ldl_len.mpr q)
  · cases o with
    | nx u => exact Ok.ok (by simpa using ho)
    | rt v =>
      obtain ⟨t, rfl, b⟩ := ho
      exact Ok.ok b
open Classical in
theorem hangs_of_ok {n : Int} {A T : List P2} {L : List Int} (hL : Up L) (hl : L.length ≤ 400) (hT : T.length ≤ 400) : m_hangs_of (n, A, T, ()) L = .ok (decide (∀ a ∈ L, ∀ x ∈ L, Ld (both T) L a x)) := by
  unfold m_hangs_of
  simp only [R.assoc, R.pure_eq, R.bind_ok]
  cases L with
  | nil => rw [if_pos ((EqT.b_true _ _ _).mpr rfl)]; simp
  | cons a r =>
    rw [if_neg (fun z => by rw [EqT.b_true] at z; cases z), atI_ok (by omega) (by simp), R.optM_some, R.bind_ok]
    show (m_part_in T (a :: r) a >>= fun v => R.ok (decide ((v.length : Int) = ((a :: r).length : Int)))) = _
    rw [part_in_eq hL (by simp) hl hT, R.bind_ok]
    refine congrArg R.ok ?_
    rw [Bool.eq_iff_iff, decide_eq_true_eq, decide_eq_true_eq]
    constructor
    · intro h b hb x hx
      have h1 := (cls_len (T := T) (L := a :: r) (t := a)).mp (by omega)
      exact (h1 x hx).trans ((h1 b hb).symm (by simp))
    · intro h
      have := cls_len.mpr (h a (by simp))
      omega
theorem up_zip {L : List Int} : (List.all (List.map (fun y : Int × Int => decide (y.1 < y.2)) (List.zip L (cut L (some 1) none))) id) = true ↔ Up L := by
  rw [cut1, List.all_map, List.all_eq_true]
  cases L with
  | nil => simp [Up]
  | cons a r =>
    show (∀ x ∈ List.zip (a :: r) r, (decide (x.1 < x.2)) = true) ↔ _
    simp only [decide_eq_true_eq]
    induction r generalizing a with
    | nil => simp [Up]
    | cons b r ih =>
      rw [List.zip_cons_cons]
      have ih := ih b
      constructor
      · intro h
        have h1 := h (a, b) (by simp)
        have h2 := ih.mp fun x hx => h x (by simp [hx])
        refine List.pairwise_cons.mpr ⟨fun y hy => ?_, h2⟩
        rcases List.mem_cons.mp hy with rfl | hy
        · exact h1
        · have := (List.pairwise_cons.mp h2).1 y hy
          dsimp only at h1
          omega
      · intro h x hx
        obtain ⟨h1, h2⟩ := List.pairwise_cons.mp h
        rcases List.mem_cons.mp hx with rfl | hx
        · exact h1 b (by simp)
        · exact ih.mpr h2 x hx
theorem lot_in_ok {n : Int} {L : List Int} (hL : Up L) (hm : ∀ x ∈ L, x ∈ rg n) : g_lot_in n L = some L := by
  unfold g_lot_in
  have e : (List.map (fun y => g_is_thing n y) L).all id = true := by
    rw [List.all_map, List.all_eq_true]
    intro x hx
    exact thing_iff.mpr (mem_rg.mp (hm x hx))
  rw [e, up_zip.mpr hL, if_neg, if_pos rfl]
  intro h
  simp at h
  cases h
theorem want_lot_ok {n : Int} {A T : List P2} {L : List Int} (hL : Up L) (hm : ∀ x ∈ L, x ∈ rg n) : m_want_lot (n, A, T, ()) L = .ok (some L) := by
  unfold m_want_lot
  show (if (g_lot_in n L).isNone = true then Eff.bad else pure (g_lot_in n L) : R _) = _
  rw [lot_in_ok hL hm]
  rfl
theorem head_ok {n : Int} {A T : List P2} {L : List Int} (hL : Up L) (hm : ∀ x ∈ L, x ∈ rg n) (hl : L.length ≤ 400) : Ok (m_head (n, A, T, ()) L) fun r => match r with | none => ∀ t ∈ L, ¬ ∀ x ∈ L, Ld A L t x | some t => t ∈ L ∧ ∀ x ∈ L, Ld A L t x := by
  unfold m_head
  simp only [R.assoc, R.pure_eq, R.bind_ok]
  show Ok (m_want_lot (n, A, T, ()) L >>= fun a => _) _
  rw [want_lot_ok hL hm, R.bind_ok, R.optM_some, R.bind_ok]
  exact head_of_ok hL hl
open Classical in
theorem hangs_ok' {n : Int} {A T : List P2} {L : List Int} (hL : Up L) (hm : ∀ x ∈ L, x ∈ rg n) (hl : L.length ≤ 400) (hT : T.length ≤ 400) : m_hangs (n, A, T, ()) L = .ok (decide (∀ a ∈ L, ∀ x ∈ L, Ld (both T) L a x)) := by
  unfold m_hangs
  simp only [R.assoc, R.pure_eq, R.bind_ok]
  show (m_want_lot (n, A, T, ()) L >>= fun a => _) = _
  rw [want_lot_ok hL hm, R.bind_ok, R.optM_some, R.bind_ok]
  exact hangs_of_ok hL hl hT
open Classical in
theorem is_bar_pk {n : Int} {A T : List P2} {L : List Int} (hL : Up L) (hm : ∀ x ∈ L, x ∈ rg n) (hl : L.length ≤ 400) (hT : T.length ≤ 400) : m_is_bar (n, A, T, ()) L = .ok (decide (Bar A T n L)) := by
  unfold m_is_bar
  simp only [R.assoc, R.pure_eq, R.bind_ok]
  by_cases h2 : 1 < L.length
  · rw [if_pos (by simp; omega)]
    obtain ⟨r, er, hr⟩ := head_of_ok (n := n) (A := A) (T := T) hL hl
    rw [er, R.bind_ok]
    cases r with
    | none =>
      rw [if_neg (by simp)]
      refine congrArg R.ok ?_
      symm
      rw [decide_eq_false_iff_not]
      rintro ⟨_, _, _, t, g⟩
      exact hr t g.tm g.a
    | some t =>
      rw [if_pos (by simp), hangs_of_ok hL hl hT]
      refine congrArg R.ok ?_
      rw [Bool.eq_iff_iff, decide_eq_true_eq, decide_eq_true_eq]
      exact ⟨fun h => ⟨hL, hm, h2, t, hm, hr.1, hr.2, h t hr.1⟩, fun b a ha x hx => by
        obtain ⟨_, _, _, u, g⟩ := b
        exact (g.h x hx).trans ((g.h a ha).symm g.tm)⟩
  · rw [if_neg (by simp; omega)]
    refine congrArg R.ok ?_
    symm
    rw [decide_eq_false_iff_not]
    exact fun b => h2 b.two
open Classical in
theorem is_barred_ok {n : Int} {A T : List P2} {L : List Int} (hL : Up L) (hm : ∀ x ∈ L, x ∈ rg n) (hl : L.length ≤ 400) (hT : T.length ≤ 400) : m_is_barred (n, A, T, ()) L = .ok (decide (Bar A T n L)) := by
  unfold m_is_barred
  simp only [R.assoc, R.pure_eq, R.bind_ok]
  show (if (!(g_lot_in n L).isNone) = true then _ else _ : R Bool) = _
  rw [show g_lot_in (g_want_plan (n, A, T, ())).1 L = some L from lot_in_ok hL hm, lot_in_ok hL hm]
  simp only [Option.isNone_some, Bool.not_false, if_true, R.optM_some, R.bind_ok]
  exact is_bar_pk hL hm hl hT
theorem pick_ok {l : List P2} (h0 : l ≠ []) (h1 : l.length < 900) : Dr (m_law_pick l) fun x => x ∈ l := by
  unfold m_law_pick
  have := List.length_pos_iff.mpr h0
  refine Dr.bind (draw_ok (by omega) (by omega)) fun d hd => ?_
  rw [atI_ok hd.1 hd.2, PM.optM_some]
  exact Dr.ret (List.getElem_mem _)
theorem greatest_lot_ok {n : Int} {A T : List P2} {t : Int} (h6 : n ≤ 6) (hT : T.length ≤ 400) (ht : t ∈ rg n) : m_greatest_lot (mkP n A T) t = .ok (gr A T n t) := by
  have e : (srt2 T).length = T.length := List.length_mergeSort _
  have ht' := mem_rg.mp ht
  unfold m_greatest_lot
  simp only [R.assoc, R.pure_eq, R.bind_ok]
  show (m_want_thing (n, srt2 A, srt2 T, ()) t >>= fun _ => m_greatest_of (n, srt2 A, srt2 T, ()) t) = _
  have e2 : m_want_thing (n, srt2 A, srt2 T, ()) t = .ok () := by
    unfold m_want_thing
    rw [show g_is_thing (n, srt2 A, srt2 T, ()).1 t = true from thing_iff.mpr ht']
    rfl
  rw [e2, R.bind_ok, greatest_ok h6 (by omega) ht, gr_congr (fun _ => mem_srt2) fun _ => mem_srt2]
open Classical in
theorem plain_of_ok {n : Int} {A T : List P2} (h0 : 0 ≤ n) (h6 : n ≤ 6) (hT : T.length ≤ 400) : m_plain_of (n, A, T, ()) = .ok (decide (Plain A T n)) := by
  unfold m_plain_of
  simp only [R.assoc, R.pure_eq, R.bind_ok]
  show (optM (rng1 n) >>= fun a => _) = _
  rw [rng1_ok h0 (by omega), R.optM_some, R.bind_ok]
  rw [comp_all (g := fun t => decide (((gr A T n t).length : Int) = 1)) (rg n) fun t ht => by rw [greatest_ok h6 hT ht, R.bind_ok], R.noer_ok, R.bind_ok]
  refine congrArg R.ok ?_
  rw [Bool.eq_iff_iff, decide_eq_true_eq, plain_iff, List.all_map, List.all_eq_true]
  refine forall_congr' fun t => imp_congr_right fun _ => ?_
  show decide _ = true ↔ _
  rw [decide_eq_true_eq]; omega
open Classical in
theorem is_plain_ok {n : Int} {A T : List P2} (h0 : 0 ≤ n) (h6 : n ≤ 6) (hT : T.length ≤ 400) : m_is_plain (mkP n A T) = .ok (decide (Plain A T n)) := by
  have e : (srt2 T).length = T.length := List.length_mergeSort _
  show m_plain_of (n, srt2 A, srt2 T, ()) = _
  rw [plain_of_ok h0 h6 (by omega)]
  refine congrArg R.ok ?_
  rw [Bool.eq_iff_iff, decide_eq_true_eq, decide_eq_true_eq]
  exact plain_congr (fun _ => mem_srt2) fun _ => mem_srt2
theorem all_lots_ok {n : Int} (h0 : 0 ≤ n) (h6 : n ≤ 6) : m_all_lots n = .ok ((lots n.toNat).mergeSort leR) := by
  have e : m_all_lots n = m_all_lots n := rfl
  rw [e, lots_ok h0 h6]
open Classical in
theorem bars_of_ok {n : Int} {A T : List P2} (h0 : 0 ≤ n) (h6 : n ≤ 6) (hT : T.length ≤ 400) : m_bars_of (mkP n A T) = .ok (barsL A T n) := by
  have e36 : (srt2 T).length = T.length := List.length_mergeSort _
  unfold m_bars_of
  simp only [R.assoc, R.pure_eq, R.bind_ok]
  show (m_all_lots n >>= fun l => _) = _
  rw [all_lots_ok h0 h6, R.bind_ok]
  rw [comp_mem (p := fun L => decide (Bar A T n L)) (g := fun L => L) _ (fun L hL => ?_) fun _ _ _ => rfl, R.noer_ok, List.map_id']
  · rfl
  · rw [List.mem_mergeSort, mem_lots_rg h0] at hL
    have hl := lot_len hL.1 hL.2 h6
    show m_is_bar (n, srt2 A, srt2 T, ()) L = _
    rw [is_bar_pk hL.1 hL.2 (by omega) (by omega)]
    refine congrArg R.ok ?_
    rw [Bool.eq_iff_iff, decide_eq_true_eq, decide_eq_true_eq]
    exact bar_congr (fun _ => mem_srt2) fun _ => mem_srt2
open Classical in
theorem barred_lots_ok {n : Int} {A T : List P2} (h0 : 0 ≤ n) (h6 : n ≤ 6) (hT : T.length ≤ 400) : m_barred_lots (mkP n A T) = .ok (barsL A T n) := bars_of_ok h0 h6 hT
theorem plan1_ok {n : Int} {A T : List P2} (h0 : 0 ≤ n) (h6 : n ≤ 6) (ha : ArrOk n A) (an : A.Nodup) (ac : Acy A) (ht : TieOk n T) (tn : T.Nodup) : (PM.lift (m_Plan_init1 n A T) >>= fun a => (optM (as_Plan_init1 a) : PM aI_Plan)) = pure (mkP n A T) := by
  rw [show m_Plan_init1 = m_Plan_init from rfl, show as_Plan_init1 = as_Plan_init from rfl, plan_init_ok h0 h6 ha an ac ht tn, PM.lift_ok, PM.pure_bind, asPlan, PM.optM_some]
theorem plan1_then {B : Type} {n : Int} {A T : List P2} (f : aI_Plan → PM B) (h0 : 0 ≤ n) (h6 : n ≤ 6) (ha : ArrOk n A) (an : A.Nodup) (ac : Acy A) (ht : TieOk n T) (tn : T.Nodup) : (PM.lift (m_Plan_init1 n A T) >>= fun a => optM (as_Plan_init1 a) >>= f) = f (mkP n A T) := by
  rw [← PM.assoc, plan1_ok h0 h6 ha an ac ht tn, PM.pure_bind]
end La

set_option Elab.async false
set_option linter.all false
set_option maxRecDepth 100000
set_option maxHeartbeats 1000000
/-! a bar told -/
namespace La
open PySem Tp Mb
open L2 (atI)
theorem bar_of_ok {n : Int} {A T : List P2} (h0 : 0 ≤ n) (h6 : n ≤ 6) (hT : T.length ≤ 400) : Ok (m_bar_of (mkP n A T)) fun r => match r with | none => Plain A T n | some L => Bar A T n L := by
  have e : (srt2 T).length = T.length := List.length_mergeSort _
  unfold m_bar_of
  simp only [R.assoc, R.pure_eq, R.bind_ok]
  show Ok (optM (rng1 n) >>= fun a => _) _
  rw [rng1_ok h0 (by omega), R.optM_some, R.bind_ok]
  refine Ok.bind (Ok.loopFr (fun p (_ : Unit) => ∀ t ∈ p, (gr (srt2 A) (srt2 T) n t).length = 1) (fun r : Option (List Int) => ∃ L, r = some L ∧ Bar (srt2 A) (srt2 T) n L) (xs := rg n) [] (by simp) fun p t u hp hs => ?_) fun o ho => ?_
  · obtain ⟨r, hr⟩ := hp
    have ht : t ∈ rg n := by rw [show rg n = p ++ t :: r from hr]; simp
    show Ok (m_greatest_of (n, srt2 A, srt2 T, ()) t >>= _) _
    rw [greatest_ok h6 (by omega) ht, R.bind_ok]
    by_cases h1 : 1 < (gr (srt2 A) (srt2 T) n t).length
    · rw [if_pos (by simp; omega), R.bind_ok]
      exact Ok.ok ⟨_, rfl, gr_bar ht h1⟩
    · rw [if_neg (by simp; omega), R.bind_ok]
      refine Ok.ok fun x hx => ?_
      rcases List.mem_append.mp hx with hx | hx
      · exact hs x hx
      · simp at hx; subst hx
        have := List.length_pos_of_mem (gr_good (A := srt2 A) (T := srt2 T) ht).tm
        omega
  · cases o with
    | nx u =>
      refine Ok.ok ((plain_congr (fun _ => mem_srt2) fun _ => mem_srt2).mp (plain_iff.mpr fun t ht => ?_))
      exact ho t (by simpa using ht)
    | rt v =>
      obtain ⟨L, rfl, b⟩ := ho
      exact Ok.ok ((bar_congr (fun _ => mem_srt2) fun _ => mem_srt2).mp b)
end La

set_option Elab.async false
set_option linter.all false
set_option maxRecDepth 100000
set_option maxHeartbeats 1000000
namespace La
open PySem Tp Mb
open L2 (atI)
theorem pick2_ok {l : List P2} (h0 : l ≠ []) (h1 : l.length < 900) : Dr (m_law_pick l) fun x => x ∈ l := by
  unfold m_law_pick
  have := List.length_pos_iff.mpr h0
  refine Dr.bind (draw_ok (by omega) (by omega)) fun d hd => ?_
  rw [atI_ok hd.1 hd.2, PM.optM_some]
  exact Dr.ret (List.getElem_mem _)
theorem atI_last {o : List Int} (h : 0 < o.length) : atI o (-1) = some (th o (o.length - 1)) := by
  unfold L2.atI L2.ixN
  rw [if_neg (by omega)]
  rw [if_pos (by omega)]
  show o[(-1 + (o.length : Int)).toNat]? = _
  rw [show (-1 + (o.length : Int)).toNat = o.length - 1 by omega, List.getElem?_eq_getElem (by omega), th_eq (by omega)]
theorem built_ok {o : List Int} (on : o.Nodup) (l2 : 2 ≤ o.length) (l6 : o.length ≤ 6) : Dr (m_law_built o) fun w => BA o (rg ((o.length : Int) - 1)) w.1 ∧ ∃ u : List Int, u.Perm o ∧ BT u (Tp.upTo 1 (o.length - 1)) w.2 := by
  unfold m_law_built
  simp only [PM.assoc, PM.pure_bind]
  rw [rng1_ok (by omega) (by omega), PM.optM_some, PM.pure_bind]
  refine Dr.bind (Dr.loopP (fun p (s : (List P2) × Unit) => BA o p s.1 ∧ s.1.length = p.length) (xs := rg ((o.length : Int) - 1)) ⟨.start, rfl⟩ fun p x s hp hs => ?_) fun s hs => ?_
  · obtain ⟨r, hr⟩ := hp
    obtain ⟨A, u⟩ := s
    obtain ⟨hs, hl⟩ := hs
    dsimp only at hs hl ⊢
    have hx := mem_rg.mp (show x ∈ rg ((o.length : Int) - 1) by rw [hr]; simp)
    have hxp : x ∉ p := ahead_not (rg_nodup _) hr
    have hpl : p.length ≤ 6 := by
      have := congrArg List.length hr
      rw [rg_len] at this; simp at this; omega
    refine Dr.bind (draw_ok (by omega) (by omega)) fun d hd => ?_
    rw [atI_th hx.1 (by omega), atI_th (by omega) (by omega)]
    simp only [PM.optM_some, PM.pure_bind]
    rw [appO_ok (by omega)]
    simp only [PM.optM_some, PM.pure_bind]
    exact Dr.ret ⟨hs.step on hxp hx.1 (y := (x + 1 + d).toNat) (by omega) (by omega), by simp [hl]⟩
  · obtain ⟨A, u⟩ := s
    have hs := hs.1
    dsimp only at hs ⊢
    refine Dr.bind (order_ok' (n := (o.length : Int)) (by omega) (by omega)) fun m hm => ?_
    have mlen : m.length = o.length := by rw [hm.length_eq, rg_len]; omega
    have mm' : ∀ {i : Nat}, i < m.length → 0 ≤ th m i ∧ th m i < o.length := fun hi => mem_rg.mp (hm.mem_iff.mp (th_mem hi))
    rw [rng2_ok (by omega) (by omega) (by omega) (by omega), PM.optM_some, PM.pure_bind]
    have e1 : ((o.length : Int) - 1).toNat = o.length - 1 := by omega
    rw [e1]
    have up : (m.map fun i => th o i.toNat).Perm o := by
      have h1 : (m.map fun i => th o i.toNat).Perm ((rg (o.length : Int)).map fun i => th o i.toNat) := hm.map _
      have h2 : (rg (o.length : Int)).map (fun i => th o i.toNat) = o := by
        refine List.ext_getElem (by rw [List.length_map, rg_len]; omega) fun i h1 h2 => ?_
        rw [List.getElem_map, rg_at, th_eq (by omega)]
        congr 1
      rw [h2] at h1
      exact h1
    generalize hu : (m.map fun i => th o i.toNat) = u at up
    have ul : u.length = o.length := up.length_eq
    have un : u.Nodup := up.nodup_iff.mpr on
    have uth : ∀ {i : Nat}, i < m.length → th u i = th o (th m i).toNat := fun {i} hi => by
      rw [th_eq (by omega)]
      subst hu
      rw [List.getElem_map, th_eq hi]
    refine Dr.bind (Dr.loopP (fun p (s : (List P2) × Unit) => BT u p s.1) (xs := Tp.upTo 1 (o.length - 1)) .start fun p x s hp hs => ?_) fun s hs => Dr.ret ⟨by assumption, u, up, hs⟩
    obtain ⟨r, hr⟩ := hp
    obtain ⟨T, z⟩ := s
    dsimp only at hs ⊢
    have hx := mem_upTo.mp (show x ∈ Tp.upTo 1 (o.length - 1) by rw [hr]; simp)
    have hlt : ∀ a ∈ p, a < x := fun a ha => by
      have := upTo_up 1 (o.length - 1)
      rw [hr, Up, List.pairwise_append] at this
      exact this.2.2 a ha x (by simp)
    have hpl : p.length ≤ 6 := by
      have := congrArg List.length hr
      simp [Tp.upTo] at this; omega
    have hxm := mm' (i := x.toNat) (by omega)
    rw [atI_th (o := m) (by omega) (by omega)]
    simp only [PM.optM_some, PM.pure_bind]
    rw [atI_th (o := o) hxm.1 hxm.2]
    simp only [PM.optM_some, PM.pure_bind]
    refine Dr.bind (draw_ok (by omega) (by omega)) fun d hd => ?_
    have hdm := mm' (i := d.toNat) (by omega)
    rw [atI_th (o := m) (by omega) (by omega)]
    simp only [PM.optM_some, PM.pure_bind]
    rw [atI_th (o := o) hdm.1 hdm.2]
    simp only [PM.optM_some, PM.pure_bind]
    rw [← uth (by omega), ← uth (by omega)]
    have hl := hs.l
    rw [appO_ok (by omega)]
    simp only [PM.optM_some, PM.pure_bind]
    exact Dr.ret (hs.step un hlt (by omega) (y := d.toNat) (by omega) (by omega))
/-- the thing beside -/
theorem further_ok {o bey : List Int} {n : Int} {A T F : List P2} {u : List Int} (n6 : n ≤ 6) (n0 : 0 ≤ n) (on : (o ++ bey).Perm (rg n)) (l2 : 2 ≤ o.length) (hb : bey.length ≤ 1) (ba : BA o (rg ((o.length : Int) - 1)) A) (up : u.Perm o) (bt : BT u (Tp.upTo 1 (o.length - 1)) T)
    (hF : ∀ q ∈ F, (q.1 ∈ bey ∧ q.2 ∈ o) ∨ (q.1 = th o (o.length - 1) ∧ q.2 ∈ bey)) (hFl : F.length = bey.length) : Blt n o bey A F T := by
  have nd : (o ++ bey).Nodup := on.nodup_iff.mpr (rg_nodup n)
  have ond := (List.nodup_append.mp nd).1
  have dis : ∀ x ∈ o, x ∉ bey := fun x hx hb => (List.nodup_append.mp nd).2.2 x hx x hb rfl
  have om : ∀ x ∈ o, x ∈ rg n := fun x hx => on.mem_iff.mp (List.mem_append_left _ hx)
  have bm : ∀ x ∈ bey, x ∈ rg n := fun x hx => on.mem_iff.mp (List.mem_append_right _ hx)
  have ul : u.length = o.length := up.length_eq
  have un : u.Nodup := up.nodup_iff.mpr ond
  have tt : ∀ q ∈ T, (q.1 ∈ o ∧ q.2 ∈ o) ∧ q.1 < q.2 := fun q hq => by
    obtain ⟨a, b, h1, h2, _, e⟩ := bt.e q hq
    have ma : th u a ∈ o := up.mem_iff.mp (th_mem h2)
    have mb : th u b ∈ o := up.mem_iff.mp (th_mem (by omega))
    have := mm_mem (a := th u a) (b := th u b)
    have lt := mm_lt (th_ne un h2 (by omega : b < u.length) (by omega))
    rw [← e] at this lt
    refine ⟨⟨?_, ?_⟩, lt⟩
    · rcases this.1 with h | h <;> rw [h] <;> assumption
    · rcases this.2 with h | h <;> rw [h] <;> assumption
  have tc : ∀ L : List Int, (∀ x ∈ o, x ∈ L) → ∀ x ∈ o, ∀ y ∈ o, Ld (both T) L x y := fun L hL x hx y hy => by
    have hang := BT.hang (L := L) (u := u) (T := T) (fun a h0 h1 => by
      obtain ⟨b, p, _, q⟩ := bt.f a (mem_upTo.mpr ⟨by omega, by omega⟩)
      exact ⟨b, p, q⟩) (fun x hx => hL x (up.mem_iff.mp hx))
    obtain ⟨i, hi, ei⟩ := List.getElem_of_mem (up.mem_iff.mpr hx)
    obtain ⟨j, hj, ej⟩ := List.getElem_of_mem (up.mem_iff.mpr hy)
    have h1 := hang i i (Nat.le_refl _) hi
    have h2 := hang j j (Nat.le_refl _) hj
    rw [th_eq hi, ei] at h1
    rw [th_eq hj, ej] at h2
    exact h2.trans (h1.symm (hL _ (up.mem_iff.mp (th_mem (by omega)))))
  have tl : T.length + 1 = o.length := by
    have := bt.l
    simp [Tp.upTo] at this
    omega
  refine ⟨ond, on, l2, ba, fun q hq => (tt q hq).1, tc, tl, hF, ?_⟩
  have lastm : th o (o.length - 1) ∈ o := th_mem (by omega)
  refine ⟨n0, Int.le_refl n, ?_, bt.n, fun q hq => ?_, fun q hq => ?_, ?_⟩
  · refine List.nodup_append.mpr ⟨ba.n, ?_, fun p hp q hq e => ?_⟩
    · match F, hFl with
      | [], _ => simp
      | [q], _ => simp
      | _ :: _ :: _, h => simp at h; omega
    · subst e
      obtain ⟨i, j, h1, h2, _, e⟩ := ba.e p hp
      have m1 : p.1 ∈ o := by rw [e]; exact th_mem (by omega)
      have m2 : p.2 ∈ o := by rw [e]; exact th_mem (by omega)
      rcases hF p hq with h | h
      · exact dis _ m1 h.1
      · exact dis _ m2 h.2
  · have h := tt q hq
    have h1 := mem_rg.mp (om _ h.1.1)
    have h2 := mem_rg.mp (om _ h.1.2)
    exact ⟨h1.1, h.2, h2.2⟩
  · have key : q.1 ∈ rg n ∧ q.2 ∈ rg n := by
      rcases List.mem_append.mp hq with hq | hq
      · obtain ⟨i, j, h1, h2, _, e⟩ := ba.e q hq
        rw [e]
        exact ⟨om _ (th_mem (by omega)), om _ (th_mem (by omega))⟩
      · rcases hF q hq with h | h
        · exact ⟨bm _ h.1, om _ h.2⟩
        · rw [h.1]; exact ⟨om _ lastm, bm _ h.2⟩
    exact ⟨mem_rg.mp key.1, mem_rg.mp key.2⟩
  · have thl : ∀ {i : Nat} {r : List Int}, i < o.length → th (o ++ r) i = th o i := fun {i r} hi => by
      rw [th_eq (by rw [List.length_append]; omega), th_eq hi, List.getElem_append_left hi]
    match bey, F, hb, hFl, hF, on with
    | [], [], _, _, _, on =>
      refine ⟨o ++ [], on, fun q hq => ?_⟩
      rw [List.append_nil] at hq
      obtain ⟨i, j, h1, h2, _, e⟩ := ba.e q hq
      refine ⟨i, j, h1, by simpa using h2, ?_⟩
      rw [thl (by omega), thl h2]
      exact e
    | [y], [f], _, _, hF, on =>
      rcases hF f (by simp) with h | h
      · refine ⟨y :: o, (List.perm_append_comm (l₁ := [y]) (l₂ := o)).trans on, fun q hq => ?_⟩
        rcases List.mem_append.mp hq with hq | hq
        · obtain ⟨i, j, h1, h2, _, e⟩ := ba.e q hq
          exact ⟨i + 1, j + 1, by omega, by simp; omega, e⟩
        · simp at hq
          subst hq
          obtain ⟨i, hi, ei⟩ := List.getElem_of_mem h.2
          refine ⟨0, i + 1, by omega, by simp; omega, ?_⟩
          have e1 : q.1 = y := by simpa using h.1
          have e2 : th (y :: o) (i + 1) = q.2 := by
            show th o i = _
            rw [th_eq hi]; exact ei
          rw [e2]
          exact Prod.ext e1 rfl
      · refine ⟨o ++ [y], on, fun q hq => ?_⟩
        rcases List.mem_append.mp hq with hq | hq
        · obtain ⟨i, j, h1, h2, _, e⟩ := ba.e q hq
          refine ⟨i, j, h1, by simp; omega, ?_⟩
          rw [thl (by omega), thl h2]
          exact e
        · simp at hq
          subst hq
          refine ⟨o.length - 1, o.length, by omega, by simp, ?_⟩
          have e1 : th (o ++ [y]) o.length = q.2 := by
            rw [th_eq (by simp), List.getElem_append_right (by omega)]
            have := h.2
            simp at this
            simp [this]
          rw [e1, thl (by omega)]
          exact Prod.ext h.1 rfl
variable {n : Int} {o bey : List Int} {A F T : List P2}
theorem blt_len (h : Blt n o bey A F T) (n6 : n ≤ 6) : (srt o).length ≤ 6 := lot_len h.up (fun x hx => h.m x (mem_srt.mp hx)) n6
open Classical in
theorem left_out_ok (h : Blt n o bey A F T) (n6 : n ≤ 6) : Dr (m_law_left_out_right n A F T (srt o)) fun b => b = true := by
  have n0 := h.pl.n0
  have hsl := blt_len h n6
  have hsm : ∀ x ∈ srt o, x ∈ rg n := fun x hx => h.m x (mem_srt.mp hx)
  have l2 := h.l2
  have tl := h.tl
  have t36 := (PlanOk.tie h.pl).len h.pl.tn n6
  have a36 := h.pl.arr.len h.pl.an n6
  have al : A.length ≤ 36 := by rw [List.length_append] at a36; omega
  have ane : A ≠ [] := fun e => by
    obtain ⟨j, _, _, k⟩ := h.ba.f 0 (mem_rg.mpr ⟨by omega, by omega⟩)
    rw [e] at k; cases k
  have tne : T ≠ [] := fun e => by rw [e] at tl; simp at tl; omega
  unfold m_law_left_out_right
  simp only [PM.assoc, PM.pure_bind]
  refine Dr.bind (pick2_ok tne (by omega)) fun q hq => Dr.bind (pick2_ok ane (by omega)) fun a ha => ?_
  rw [catO_ok (by rw [List.length_append] at a36; omega)]
  simp only [PM.optM_some, PM.pure_bind, List.map_id']
  generalize hU : List.filter (fun y : P2 => !(EqT.tup2 EqT.int EqT.int).b y q) T = U
  generalize hB : List.filter (fun y : P2 => !(EqT.tup2 EqT.int EqT.int).b y a) (A ++ F) = B
  have hU' : U = T.filter fun r => !decide (r = q) := by
    rw [← hU]
    exact List.filter_congr fun r _ => by congr 1
  have hB' : B = (A ++ F).filter fun r => !decide (r = a) := by
    rw [← hB]
    exact List.filter_congr fun r _ => by congr 1
  have us : ∀ r ∈ U, r ∈ T := fun r hr => by rw [hU'] at hr; exact (List.mem_filter.mp hr).1
  have un : U.Nodup := by rw [hU']; exact h.pl.tn.filter _
  have bs : ∀ r ∈ B, r ∈ A ++ F := fun r hr => by rw [hB'] at hr; exact (List.mem_filter.mp hr).1
  have bn : B.Nodup := by rw [hB']; exact h.pl.an.filter _
  have ut : TieOk n U := (PlanOk.tie h.pl).sub us
  have ul := ut.len un n6
  have e1 : m_hangs (mkP n (A ++ F) U) (srt o) = .ok false := by
    rw [show mkP n (A ++ F) U = (n, srt2 (A ++ F), srt2 U, ()) from rfl, hangs_ok' h.up hsm (by omega) (by rw [List.length_mergeSort]; omega)]
    refine congrArg R.ok (decide_eq_false fun hc => h.cut hq hU' fun x hx y hy => ?_)
    exact (Ld.congr (both_congr fun _ => mem_srt2)).mp (hc x hx y hy)
  have e2 : m_is_barred (mkP n (A ++ F) U) (srt o) = .ok false := by
    rw [show mkP n (A ++ F) U = (n, srt2 (A ++ F), srt2 U, ()) from rfl, is_barred_ok h.up hsm (by omega) (by rw [List.length_mergeSort]; omega)]
    refine congrArg R.ok (decide_eq_false fun b => h.cut hq hU' fun x hx y hy => ?_)
    obtain ⟨_, _, _, t, g⟩ := b
    exact (Ld.congr (both_congr fun _ => mem_srt2)).mp ((g.h y hy).trans ((g.h x hx).symm g.tm))
  have e3 : m_is_barred (mkP n B T) (srt o) = .ok false := by
    rw [show mkP n B T = (n, srt2 B, srt2 T, ()) from rfl, is_barred_ok h.up hsm (by omega) (by rw [List.length_mergeSort]; omega)]
    refine congrArg R.ok (decide_eq_false fun b => ?_)
    obtain ⟨_, _, _, t, g⟩ := b
    exact h.less ha hB' t g.tm fun x hx => (Ld.congr fun _ => mem_srt2).mp (g.a x hx)
  have qs : q.1 ∈ srt o := mem_srt.mpr (h.tt q hq).1
  show Dr (PM.lift (m_Plan_init1 n (A ++ F) U) >>= fun a => optM (as_Plan_init1 a) >>= fun a => _) _
  rw [plan1_then _ n0 n6 h.pl.arr h.pl.an h.pl.acy ut un, e1, e2]
  simp only [PM.lift_ok, PM.pure_bind, decide_true, Bool.not_true, if_neg Bool.false_ne_true]
  rw [law_hung_ok h.up (by omega) qs, PM.lift_ok, PM.pure_bind, barred_lots_ok n0 n6 (by omega), PM.lift_ok, PM.pure_bind]
  have e4 : (List.map (fun y312 : List Int => (List.map (fun y313 => EqT.int.mem y313 (cls U (srt o) q.1)) y312).all id || !(List.map (fun y314 => EqT.int.mem y314 (cls U (srt o) q.1)) y312).any id) (barsL (A ++ F) U n)).all id = true := by
    rw [List.all_map, List.all_eq_true]
    intro M hM
    have b := (mem_barsL n0).mp hM
    show (_ || _) = true
    rw [Bool.or_eq_true, List.all_map, List.all_eq_true, Bool.not_eq_true', List.any_map, List.any_eq_false]
    rcases side_ok qs b (h.bars us b) with k | k
    · exact .inl fun x hx => (EqT.mem_true _ _ _).mpr (k x hx)
    · refine .inr fun x hx z => k x hx ((EqT.mem_true _ _ _).mp z)
  show Dr (if (!(List.map (fun y312 : List Int => (List.map (fun y313 => EqT.int.mem y313 (cls U (srt o) q.1)) y312).all id || !(List.map (fun y314 => EqT.int.mem y314 (cls U (srt o) q.1)) y312).any id) (barsL (A ++ F) U n)).all id) = true then _ else _) _
  rw [e4]
  simp only [Bool.not_true, if_neg Bool.false_ne_true]
  show Dr (PM.lift (m_Plan_init1 n B T) >>= fun a => optM (as_Plan_init1 a) >>= fun a => _) _
  rw [plan1_then _ n0 n6 (h.pl.arr.sub bs) bn (h.pl.acy.sub bs) h.pl.tie h.pl.tn]
  obtain ⟨r, er, hr⟩ := head_ok (n := n) (A := srt2 B) (T := srt2 T) h.up hsm (by omega)
  cases r with
  | some t => exact absurd (fun x hx => (Ld.congr fun _ => mem_srt2).mp (hr.2 x hx)) (h.less ha hB' t hr.1)
  | none =>
    rw [show m_head (mkP n B T) (srt o) = .ok none from er, PM.lift_ok, PM.pure_bind, e3]
    simp only [Option.isNone_none, if_true, PM.lift_ok, PM.pure_bind, decide_true]
    exact Dr.ret rfl
theorem least_ok {n : Int} {A T : List P2} (h0 : 0 ≤ n) (h6 : n ≤ 6) (hT : T.length ≤ 400) : Ok (m_least_bars (mkP n A T)) fun l => ∀ L ∈ l, Bar A T n L := by
  unfold m_least_bars
  simp only [R.assoc, R.pure_eq, R.bind_ok]
  show Ok (m_bars_of (mkP n A T) >>= fun found => _) _
  rw [bars_of_ok h0 h6 hT, R.bind_ok]
  refine Ok.ok fun L hL => ?_
  rw [List.map_id'] at hL
  exact (mem_barsL h0).mp (List.mem_filter.mp hL).1
open Classical in
theorem right_ok : Dr m_law_right fun b => b = true := by
  unfold m_law_right
  simp only [PM.assoc, PM.pure_bind]
  refine Dr.bind (draw_ok (by omega) (by omega)) fun d hd => Dr.bind (draw_ok (by omega) (by omega)) fun d' hd' => ?_
  generalize hs : 2 + d = s at *
  generalize hn : s + d' = n at *
  have n0 : 0 ≤ n := by omega
  have n6 : n ≤ 6 := by omega
  refine Dr.bind (order_ok' n0 n6) fun od hod => ?_
  have ol : od.length = n.toNat := by rw [hod.length_eq, rg_len]
  rw [cut_to od (by omega) (by omega), cut_from od (by omega) (by omega)]
  generalize ho : od.take s.toNat = o
  generalize hb : od.drop s.toNat = bey
  have oll : o.length = s.toNat := by rw [← ho, List.length_take]; omega
  have bl : bey.length = d'.toNat := by rw [← hb, List.length_drop]; omega
  have opm : (o ++ bey).Perm (rg n) := by rw [← ho, ← hb, List.take_append_drop]; exact hod
  have on : o.Nodup := (List.nodup_append.mp (opm.nodup_iff.mpr (rg_nodup n))).1
  refine Dr.bind (built_ok on (by omega) (by omega)) fun w hw => ?_
  obtain ⟨A, T⟩ := w
  obtain ⟨ba, u, up, bt⟩ := hw
  dsimp only at ba bt ⊢
  refine Dr.bind (Dr.noer (Dr.comp_all (P := fun q : P2 => (q.1 ∈ bey ∧ q.2 ∈ o) ∨ (q.1 = th o (o.length - 1) ∧ q.2 ∈ bey)) bey fun y hy => ?_)) fun F hF => ?_
  · refine Dr.bind (draw_ok (by omega) (by omega)) fun c _ => Dr.ite (fun _ => ?_) fun _ => ?_
    · refine Dr.bind (draw_ok (by omega) (by omega)) fun e he => ?_
      rw [atI_th he.1 (by omega), PM.optM_some, PM.pure_bind]
      exact Dr.ret (.inl ⟨hy, th_mem (by omega)⟩)
    · rw [atI_last (by omega), PM.optM_some, PM.pure_bind]
      exact Dr.ret (.inr ⟨rfl, hy⟩)
  have h : Blt n o bey A F T := further_ok n6 n0 opm (by omega) (by omega) ba up bt hF.1 hF.2
  have a36 := h.pl.arr.len h.pl.an n6
  have t36 := (PlanOk.tie h.pl).len h.pl.tn n6
  have hsl := blt_len h n6
  have hsm : ∀ x ∈ srt o, x ∈ rg n := fun x hx => h.m x (mem_srt.mp hx)
  have l2 := h.l2
  rw [catO_ok (by rw [List.length_append] at a36; omega)]
  simp only [PM.optM_some, PM.pure_bind]
  have pl2 : PlanOk n n (srt2 (A ++ F)) (srt2 T) := ⟨n0, Int.le_refl n, srt2_nodup.mpr h.pl.an, srt2_nodup.mpr h.pl.tn, fun q hq => h.pl.t q (mem_srt2.mp hq), fun q hq => h.pl.a q (mem_srt2.mp hq), let ⟨o, a, b⟩ := h.pl.o; ⟨o, a, fun q hq => b q (mem_srt2.mp hq)⟩⟩
  show Dr (m_law_made (n, srt2 (A ++ F), srt2 T) >>= fun plan => _) _
  refine Dr.bind (made_ok n6 pl2) fun P hP => ?_
  have eP : P = mkP n (A ++ F) T := by rw [hP]; unfold mkP; rw [srt2_idem, srt2_idem]
  subst eP
  clear hP
  have e1 : m_is_barred (mkP n (A ++ F) T) (srt o) = .ok true := by
    rw [show mkP n (A ++ F) T = (n, srt2 (A ++ F), srt2 T, ()) from rfl, is_barred_ok h.up hsm (by omega) (by rw [List.length_mergeSort]; omega)]
    exact congrArg R.ok (decide_eq_true ((bar_congr (fun _ => mem_srt2) fun _ => mem_srt2).mpr h.bar))
  have mA : ∀ p, p ∈ srt2 (A ++ F) ↔ p ∈ A ++ F := fun _ => mem_srt2
  have e2 : m_head (mkP n (A ++ F) T) (srt o) = .ok (some (th o (o.length - 1))) := by
    obtain ⟨r, er, hr⟩ := head_ok (n := n) (A := srt2 (A ++ F)) (T := srt2 T) h.up hsm (by omega)
    rw [show m_head (mkP n (A ++ F) T) (srt o) = .ok r from er]
    cases r with
    | none => exact absurd (fun x hx => (Ld.congr mA).mpr (h.good.a x hx)) (hr _ h.good.tm)
    | some t => rw [head_one h.pl.acy h.good.tm h.good.a hr.1 fun x hx => (Ld.congr mA).mp (hr.2 x hx)]
  have e3 : m_greatest_lot (mkP n (A ++ F) T) (th o (o.length - 1)) = .ok (srt o) := by
    rw [greatest_lot_ok n6 (by omega) (h.m _ h.lastm), h.gr_last]
  have e4 : m_is_plain (mkP n (A ++ F) T) = .ok false := by
    rw [is_plain_ok n0 n6 (by omega)]
    exact congrArg R.ok (decide_eq_false fun p => p _ h.bar)
  have so : (List.mergeSort o SortT.int.le) = srt o := rfl
  rw [so, e1, atI_last (by omega), e2, PM.lift_ok, PM.lift_ok]
  simp only [PM.optM_some, PM.pure_bind, decide_true, Bool.not_true, if_neg Bool.false_ne_true]
  rw [e3, PM.lift_ok, PM.pure_bind, (EqT.b_true _ _ _).mpr rfl]
  simp only [Bool.not_true, if_neg Bool.false_ne_true, PM.pure_bind]
  rw [e4, PM.lift_ok, PM.pure_bind]
  simp only [decide_true, Bool.not_true, if_neg Bool.false_ne_true, PM.pure_bind]
  obtain ⟨r, er, hr⟩ := bar_of_ok (n := n) (A := A ++ F) (T := T) n0 n6 (by omega)
  rw [er, PM.lift_ok, PM.pure_bind]
  cases r with
  | none => exact absurd h.bar (hr _)
  | some L =>
  simp only [Option.isNone_some, if_neg Bool.false_ne_true, PM.pure_bind]
  rw [barred_lots_ok n0 n6 (by omega), PM.lift_ok, PM.pure_bind, (EqT.mem_true _ _ _).mpr ((mem_barsL n0).mpr h.bar)]
  simp only [Bool.not_true, if_neg Bool.false_ne_true, PM.pure_bind]
  obtain ⟨ls, els, hls⟩ := least_ok (n := n) (A := A ++ F) (T := T) n0 n6 (by omega)
  rw [els, PM.lift_ok, PM.pure_bind]
  refine Dr.bind (P := fun fl => ∃ b, fl = FL.nx b ∧ True) (Dr.loopF (fun _ => True) trivial fun L hL _ _ => ?_) fun fl hfl => ?_
  · have e5 : (List.map (fun y => EqT.int.mem y (srt o)) L).all id = true := by
      rw [List.all_map, List.all_eq_true]
      exact fun x hx => (EqT.mem_true _ _ _).mpr (h.bars (fun _ h => h) (hls L hL) x hx)
    rw [e5]
    simp only [Bool.not_true, if_neg Bool.false_ne_true, PM.pure_bind]
    exact Dr.ret ⟨(), rfl, trivial⟩
  · obtain ⟨b, e, _⟩ := hfl
    rw [e]
    show Dr (Eff.noer (compM (M := PM) (compF (M := PM) (fun _ => pure true) (fun y => PM.lift (m_greatest_lot (mkP n (A ++ F) T) y) >>= fun v => pure ((EqT.list EqT.int).b v [y]))) bey) >>= fun v => if (!List.all v id) = true then pure false else m_law_left_out_right n A F T (srt o)) _
    rw [comp_allP (g := fun _ => true) bey fun y hy => ?_]
    · rw [PM.noer_pure, PM.pure_bind]
      have e6 : (List.map (fun _ : Int => true) bey).all id = true := by simp
      rw [e6]
      simp only [Bool.not_true, if_neg Bool.false_ne_true]
      exact left_out_ok h n6
    · have hy' : y ∈ rg n := opm.mem_iff.mp (List.mem_append_right _ hy)
      rw [greatest_lot_ok n6 (by omega) hy', h.gr_bey hy, PM.lift_ok, PM.pure_bind, (EqT.b_true _ _ _).mpr rfl]
end La

set_option Elab.async false
set_option linter.all false
set_option maxRecDepth 100000
set_option maxHeartbeats 1000000
namespace La
open PySem Tp Mb
open L2 (atI)
theorem pot_ok (ns : List Int) : ∃ a b, m_law_pot ns 0 = .ok [a, b] ∧ 0 ≤ a ∧ 0 ≤ b := by
  unfold m_law_pot
  simp only [R.assoc, R.pure_eq, R.bind_ok]
  have key : ∀ x : Int, ∃ a b, (R.ok [if x - 10 ^ Int.toNat 18 > 0 then x - 10 ^ Int.toNat 18 else 0, (x % 2147483543 * 40471 + 6947 * 0 + 229) % 2147483549 + 1] : R (List Int)) = R.ok [a, b] ∧ 0 ≤ a ∧ 0 ≤ b := by
    intro x
    refine ⟨_, _, rfl, ?_, ?_⟩
    · split <;> omega
    · have := Int.emod_nonneg (x % 2147483543 * 40471 + 6947 * 0 + 229) (show (2147483549 : Int) ≠ 0 by omega)
      omega
  cases ns with
  | nil =>
    rw [if_neg (by simp)]
    simp only [R.bind_ok]
    exact key _
  | cons n r =>
    rw [if_pos (by simp), atI_ok (by omega) (by simp), R.optM_some]
    simp only [R.bind_ok]
    exact key _
theorem law_true : ∀ ns : List Int, ns.length ≤ 63 → m_law ns = .ok true := by
  intro ns _
  obtain ⟨a, b, e, ha, hb⟩ := pot_ok ns
  unfold m_law
  rw [e]
  exact Ok.to (potDo_ok right_ok ha hb)
end La

set_option Elab.async false
set_option linter.all false
set_option maxRecDepth 100000
set_option maxHeartbeats 0
namespace La
open PySem PySem.Spec PyProof.Rows L2 Tp
def names : List PySem.Str := (["_wall", "PlanError", "InvalidLot", "InvalidPlan", "InvalidSize", "InvalidThing", "InvalidArrows", "InvalidTies", "is_integer", "is_count", "is_list", "MOST_SIZE", "is_thing", "is_arrow", "is_tie", "all_unlike", "arrows_in", "ties_in", "lot_in", "order_of", "are_unlike", "Known", "Plan", "want_plan", "want_thing", "want_lot", "leaders", "part_in", "head_of", "hangs_of"] : List PySem.Str) ++ (["is_bar", "head", "hangs", "is_barred", "greatest_of", "all_lots", "bars_of", "plain_of", "lies_in", "greatest_lot", "barred_lots", "least_bars", "is_plain", "bar_of", "_law_pot", "_law_draw", "_law_pick", "_law_hung", "_law_order", "_law_made", "_law_built", "_law_left_out_right", "_law_right"] : List PySem.Str)
abbrev Rw : PySem.W.OpenRow := PySem.W.OpenLaw.row PySem.Challenge.rw_toldpushes_k49_whole_built_barred_lots
abbrev hk : PySem.W.Hook := hookE 6 fa fb fn pn
def ob (s : PySem.W.SharedT) : AlE := obsEG 6 fa fb fn pn (HandSHeadRun.getT s)
theorem ob_eq (s : PySem.W.SharedT) : ob s = hk.obs s.abs := obsEG_eq (HandSHeadRun.getT_eq s)
theorem run (w : World) : HandSHeadRun.RunEq Rw (PySem.W.view Rw.prog [60]) hk ob 20000 names w := by
  intro os
  kernel_rfl
end La
open PySem PySem.W PySem.Calls PyProof.Rows
theorem PySem.Challenge.cw_toldpushes_k49_whole_built_barred_lots_holds : PySem.Challenge.rw_toldpushes_k49_whole_built_barred_lots.Holds := by
  w_on; o_law
  refine HandSHeadRun.head_any (r := OpenLaw.row PySem.Challenge.rw_toldpushes_k49_whole_built_barred_lots) (q := view (OpenLaw.row PySem.Challenge.rw_toldpushes_k49_whole_built_barred_lots).prog [60]) (H := La.hk) (ob := La.ob) (M := 20000) (loose := La.names) (d := HandSHeadRun.topDef (OpenLaw.row PySem.Challenge.rw_toldpushes_k49_whole_built_barred_lots).prog 60) (kwd := []) La.ob_eq
    (by kernel_rfl) (fun s => by kernel_rfl) La.run (by kernel_rfl) (by kernel_rfl) (by kernel_rfl) (by rfl) (by first | assumption | decide +kernel) (by decide +kernel) ⟨rfl, rfl, rfl, rfl, rfl, by decide +kernel⟩ ?hw ?hc
  case hw => w_witness2
  case hc =>
    refine Tp.walk_G (l := PySem.Challenge.rw_toldpushes_k49_whole_built_barred_lots) (n := 63) (k := 12) (x := "_law_script") rfl (by decide) (by kernel_rfl) ⟨⟨rfl, by decide, by decide⟩, rfl⟩ ?F
    intro w mg fa h Y G hmg0
    obtain ⟨K, KX, c⟩ := Y
    have hmg : mg ("law" : PySem.Str) = some (.ref fa) := by
      have e : (HandSHeadRun.topDef (OpenLaw.row PySem.Challenge.rw_toldpushes_k49_whole_built_barred_lots).prog 60).name = ("law" : PySem.Str) := by kernel_rfl
      rw [← e]
      exact hmg0
    exact La.law_end La.law_true c KX G hmg
#print axioms PySem.Challenge.cw_toldpushes_k49_whole_built_barred_lots_holds

