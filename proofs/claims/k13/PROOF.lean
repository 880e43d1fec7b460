import PyProof.Rows.All
import Wide.All
import OpenK.AllK
import Wide.FinOn
import HandS.ForMost
import HandS.IsInst
import HandS.WideBits
import HandS.Style
import HandS.Wide
import PyProof.ReprRoads
import HandS.More
import HandS.Zip
import HandS.TupAny
import KE.KDictPairs
import HandS.Walk
import HandS.SortInts
import HandS.Dict
import PyProof.ReprBulk
import PyProof.FitsInt
import HandS.TupMul
import HandS.Conv
import KE.GoesEnum
import KE.GoesMore
import KE.GoesZip
import HandS.Exc
import HandS.ExcOwn
import HandS.TryOnly
import HandS.Evl
import HandS.WordsDict
import PyProof.ReprReads
import HandS.SetKeys
import PySem.Challenge.RW_equalruns_k13_whole_prime_papers_and_squ
set_option Elab.async false
set_option linter.all false
set_option maxRecDepth 100000
set_option maxHeartbeats 4000000
/-! Own layer: promises that know that nothing is being shown (for repr), calls with keywords, repr of data. -/
namespace Ow
open PySem PySem.Spec PyProof.Rows L2
section
variable {P : Program} {w : World} {K : PySem.W.Frag} {mg : Str → Option Value} {base : Heap} {CX : CXT}
/-- a def keeps a promise, wherever no repr is under way -/
structure Prm (P : Program) (w : World) (K : PySem.W.Frag) (mg : Str → Option Value) (base : Heap) (CX : CXT) (k : Nat) (f : Addr) (fd : FuncData) (ps : List Str) (sp : Sp) : Prop where
  len : ∀ vs H Q E, sp vs H Q E → vs.length = ps.length
  go : ∀ (A : Around) (outer : List Env) (s : Shared) (H : Hp) (args : Args) (us : List Value) (vs : List V) (Q : VK) (E : XK), A.guards = some [] → Room k A → Env0 P w K mg base A outer s H →
    BindsTo s fd args (ps.zip us) → Vals vs us → sp vs H Q E → codeAny (model P w) A (.call (.ref f) args) (CR CX outer P w H s Q E) s
theorem Prm.mono {j k : Nat} {f : Addr} {fd : FuncData} {ps : List Str} {sp : Sp} (F : Prm P w K mg base CX j f fd ps sp) (h : j ≤ k) : Prm P w K mg base CX k f fd ps sp :=
  ⟨F.len, fun A outer s H args us vs Q E hg hr => F.go A outer s H args us vs Q E hg (hr.mono h)⟩
/-- a def of the text by its body -/
theorem prm_of {x qual : Str} {st : Stmt} {f : Addr} {fd : FuncData} {N ps : List Str} {k : Nat} {sp : Sp} (F : Fun K x qual st f fd) (S : FnScope N ps (defScope st))
    (len : ∀ vs H Q E, sp vs H Q E → vs.length = ps.length)
    (hbody : ∀ (cdv : Value) (A : Around) (outer : List Env) (s : Shared) (H : Hp) (vs : List V) (Q : VK) (E : XK), A.guards = some [] →
      Room k (A.deeper (envOfC qual (defScope st) s.heap.objs.size f cdv)) → sp vs H Q E →
      ∃ t, PSs (cxOf CX P w K mg base N qual (defScope st) f cdv A outer s H E) (defBody st) t ∧ t { nx := fun _ H' => Q .non H', rt := Q } (start N vs) H) :
    Prm P w K mg base CX (k + 1) f fd ps sp := by
  obtain ⟨oc, od, kV, doc, pm, an, cdv, ct, osl, rfl, lk, hcd⟩ := F.ex
  constructor
  · exact len
  intro A outer s H args us vs Q E hgd hr e0 hb r hsp
  have e1 : ∀ b o, base.get? b = some o → s.heap.get? b = some o := fun b o e => (e0.bs b o e).1
  have inH : K.In s.heap := e0.mod.kin.keeps e1
  refine codeAny_call_function hr.depth (inH _ _ lk) rfl S.co S.gen rfl (PySem.W.codeRec_of inH hcd) (hb _ _ _ _ ?_)
  refine wpAny_newFunctionEnv_cells S.kind ?_ ?_
  · rintro ⟨n, v⟩ hy
    rcases S.par n (List.of_mem_zip hy).1 with q | q
    · exact .inl q
    · exact .inr ⟨q, PySem.W.cellsFrom_some _ _ _ (.inl q)⟩
  · intro env he s1 x
    subst he
    refine ⟨(e0.mod.nolimit.keeps e1).keeps x.toInCall.keep, codeAny_func ?_⟩
    obtain ⟨t, ht, hq⟩ := hbody cdv A outer s H vs Q E hgd (hr.deeper _) hsp
    have I := inv_start (CX := CX) (cd := cdv) (f := f) (E := E) S hr.hd e0 (len _ _ _ _ hsp) r x
    refine wpAny_mono (ht.run [] s1 (start N vs) H _ I hq) ?_ (fun e s' hs => hs)
    intro fl s' hs
    cases fl with
    | brk => obtain ⟨_, _, _, q⟩ := hs; exact q.elim
    | cont => obtain ⟨_, _, _, q⟩ := hs; exact q.elim
    | next => obtain ⟨σ', H', J, q⟩ := hs; exact ⟨.non, H', J.os, J.bare, J.base, J.hok, rfl, q⟩
    | ret u => obtain ⟨v, σ', H', J, rv, q⟩ := hs; exact ⟨v, H', J.os, J.bare, J.base, J.hok, rv, q⟩
/-- how plain arguments bind -/
def Bind (x : Str) (st : Stmt) (ps : List Str) : Prop := ∀ (kV doc pm : Value) (an : Option Addr) (cdv ct : Value) (us : List Value), us.length = ps.length →
  bindArgs (PySem.W.fnOf x x (defArgs st) (defBody st) (defScope st) .none kV doc pm an cdv ct) ⟨us, []⟩ = pure (ps.zip us)
/-- a def stands at the top under its name -/
def StandsA (K : PySem.W.Frag) (mg : Str → Option Value) (y x : Str) (st : Stmt) : Prop := ∃ (f : Addr) (fd : FuncData), mg y = some (.ref f) ∧ Fun K x x st f fd
abbrev Stands (K : PySem.W.Frag) (mg : Str → Option Value) (x : Str) (st : Stmt) : Prop := StandsA K mg x x st
/-- a def that stands at the top under its name, with its promise -/
structure DfA (P : Program) (w : World) (K : PySem.W.Frag) (mg : Str → Option Value) (base : Heap) (CX : CXT) (k : Nat) (y x : Str) (st : Stmt) (ps : List Str) (sp : Sp) : Prop where
  ex : ∃ (f : Addr) (fd : FuncData), mg y = some (.ref f) ∧ Fun K x x st f fd ∧ Prm P w K mg base CX k f fd ps sp
  bd : Bind x st ps
abbrev Df (P : Program) (w : World) (K : PySem.W.Frag) (mg : Str → Option Value) (base : Heap) (CX : CXT) (k : Nat) (x : Str) (st : Stmt) (ps : List Str) (sp : Sp) : Prop := DfA P w K mg base CX k x x st ps sp
/-- a def that lets no exception out, by its body -/
theorem df_of {y x : Str} {st : Stmt} {N ps : List Str} {k : Nat} {sp : Sp} (F : StandsA K mg y x st) (S : FnScope N ps (defScope st)) (bd : Bind x st ps)
    (len : ∀ vs H Q E, sp vs H Q E → vs.length = ps.length)
    (hbody : ∀ (cdv : Value) (A : Around) (outer : List Env) (s : Shared) (H : Hp) (vs : List V) (Q : VK) (E : XK) (f : Addr), A.guards = some [] →
      Room k (A.deeper (envOfC x (defScope st) s.heap.objs.size f cdv)) → sp vs H Q E →
      ∃ t, PSs (cxOf CX0 P w K mg base N x (defScope st) f cdv A outer s H E).nox (defBody st) t ∧ t { nx := fun _ H' => Q .non H', rt := Q } (start N vs) H) :
    DfA P w K mg base CX0 (k + 1) y x st ps sp := by
  obtain ⟨f, fd, hm, F⟩ := F
  refine ⟨⟨f, fd, hm, F, prm_of F S len ?_⟩, bd⟩
  intro cdv A outer s H vs Q E hg hr h
  obtain ⟨t, h1, h2⟩ := hbody cdv A outer s H vs Q E f hg hr h
  exact ⟨t, h1.nox, h2⟩
end
section
variable {X : Cx} {CX : CXT} {k j : Nat} {ps ks : List Str} {sp : Sp} {E : XK} {y x : Str} {st : Stmt} {p pos : Pos} {e : Expr} {es : List Expr} {kws : List Keyword} {t tk : TA}
/-- what a call brings back -/
theorem Prm.called {pins : List (Addr × Obj)} {σ : L2.St} {H : Hp} {s : Shared} {Q : VK} {us : List Value} {vs : List V} {f : Addr} {fd : FuncData} {pairs : List (Str × Value)} {first : List Value}
    (F : Prm X.prog X.w X.K X.mg X.base CX k f fd ps sp) (hr : Room k X.A) (hg : X.A.guards = some []) (hx : Passes CX X E) (I : Inv X pins σ H s) (r : Vals vs us)
    (hb : bindArgs fd ⟨first, pairs⟩ = pure (ps.zip us)) (h : sp vs H Q E) : wpAny (model X.prog X.w) X.A (call (.ref f) first pairs) (EP X pins σ Q) X.xe s := by
  refine wpAny_call (codeAny_mono (F.go X.A X.stack s H ⟨first, pairs⟩ us vs Q E hg hr I.env0 (.of_eq hb) r h) ?_)
  intro res s' hq
  cases res with
  | error er => exact hx pins σ H s er s' I hq
  | ok fl =>
    cases fl with
    | ret u => exact I.after hq
    | next => exact hq.elim
    | brk => exact hq.elim
    | cont => exact hq.elim
/-- f(a, b, ..) -/
theorem pe_d (D : DfA X.prog X.w X.K X.mg X.base CX k y x st ps sp) (hr : Room j X.A) (hk : k ≤ j) (hg : X.A.guards = some []) (hx : Passes CX X E)
    (gl : Gl X y) (ha : PA X (e :: es) t) (hdb : (y == ("__debug__" : Str)) = false := by decide) (he : starEach (e :: es) X.env = (false, eval e X.env) :: starEach es X.env := by rfl)
    (hpl : (backTo pos (starEach es X.env)).any (·.1) = false := by rfl) : PE X (.Call (.Name y p) (e :: es) [] pos) (tCall sp [] E t) := by
  obtain ⟨f, fd, hm, F, G⟩ := D.ex
  refine ⟨fun pins s σ H Q I h => ?_⟩
  refine wpAny_Call_Name_kw (ld_glob I gl hm ?_ hdb)
  refine PySem.W.callWith_K (h₀ := X.base) I.ok.mod.kin F.kp ?_ he hpl
  refine thn (ha.run pos pins s σ H _ I h) ?_
  rintro us s1 ⟨vs, H1, I1, r, q⟩
  refine ⟨I1.kIn, ?_⟩
  rw [List.append_nil] at q
  refine G.called (pairs := []) (first := us) (hr.mono hk) hg hx I1 r ?_ q
  obtain ⟨oc, od, kV, doc, pm, an, cdv, ct, osl, rfl, _, _⟩ := F.ex
  exact D.bd kV doc pm an cdv ct us (by rw [← r.length]; exact G.len _ _ _ _ q)
/-- f() -/
theorem pe_d0 (D : DfA X.prog X.w X.K X.mg X.base CX k y x st ps sp) (hr : Room j X.A) (hk : k ≤ j) (hg : X.A.guards = some []) (hx : Passes CX X E)
    (gl : Gl X y) (hdb : (y == ("__debug__" : Str)) = false := by decide) : PE X (.Call (.Name y p) [] [] pos) (tCall sp [] E tNil) := by
  obtain ⟨f, fd, hm, F, G⟩ := D.ex
  refine ⟨fun pins s σ H Q I h => ?_⟩
  refine wpAny_Call_Name_kw (ld_glob I gl hm ?_ hdb)
  refine PySem.W.callWith_K0 I.kIn F.kp ?_
  refine G.called (pairs := []) (first := []) (vs := []) (us := []) (hr.mono hk) hg hx I .nil ?_ h
  obtain ⟨oc, od, kV, doc, pm, an, cdv, ct, osl, rfl, _, _⟩ := F.ex
  exact D.bd kV doc pm an cdv ct [] (G.len _ _ _ _ h)
/-- the values in the parameters' order: ix tells for each parameter its place among the written values -/
def putIn {α : Type} (d : α) (ix : List Nat) (us ws : List α) : List α := ix.map fun i => (us ++ ws).getD i d
theorem vals_at {vs : List V} {us : List Value} (r : Vals vs us) (i : Nat) : RelV (vs.getD i .non) (us.getD i .none) := by
  rw [List.getD_eq_getElem?_getD, List.getD_eq_getElem?_getD]
  cases e : vs[i]? with
  | none => rw [r.none_of e]; exact rfl
  | some v =>
    obtain ⟨u, h1, h2⟩ := r.get e
    rw [h1]
    exact h2
theorem vals_put {vs zs : List V} {us ws : List Value} (r : Vals vs us) (q : Vals zs ws) : ∀ ix : List Nat, Vals (putIn .non ix vs zs) (putIn .none ix us ws)
  | [] => .nil
  | i :: ix => .cons (vals_at (r.append q) i) (vals_put r q ix)
def tCallKw (n m : Nat) (sp : Sp) (ix : List Nat) (E : XK) (t tk : TA) : TE := fun σ H Q => t σ H fun vs H1 => tk σ H1 fun zs H2 => vs.length = n ∧ zs.length = m ∧ sp (putIn .non ix vs zs) H2 Q E
/-- how such a call binds -/
def Way (x : Str) (st : Stmt) (ps : List Str) (n : Nat) (ks : List Str) (ix : List Nat) : Prop :=
  ∀ (kV doc pm : Value) (an : Option Addr) (cdv ct : Value) (us ws : List Value), us.length = n → ws.length = ks.length →
    bindArgs (PySem.W.fnOf x x (defArgs st) (defBody st) (defScope st) .none kV doc pm an cdv ct) ⟨us, ks.zip ws⟩ = pure (ps.zip (putIn .none ix us ws))
/-- f(a, .., k = b, ..) -/
theorem pe_dk {n : Nat} {ix : List Nat} (D : DfA X.prog X.w X.K X.mg X.base CX k y x st ps sp) (hr : Room j X.A) (hk : k ≤ j) (hg : X.A.guards = some []) (hx : Passes CX X E) (wy : Way x st ps n ks ix)
    (gl : Gl X y) (ha : PA X (e :: es) t) (hkw : PK X kws tk) (hall : (backToKw pos (keywordEach kws X.env)).all (·.1.isSome) = true := by rfl) (hks : (backToKw pos (keywordEach kws X.env)).filterMap (·.1) = ks := by rfl)
    (hdb : (y == ("__debug__" : Str)) = false := by decide) (he : starEach (e :: es) X.env = (false, eval e X.env) :: starEach es X.env := by rfl)
    (hpl : ((backTo pos (starEach (e :: es) X.env)).any (·.1) || (backToKw pos (keywordEach kws X.env)).any (·.1.isNone)) = false := by rfl) :
    PE X (.Call (.Name y p) (e :: es) kws pos) (tCallKw n ks.length sp ix E t tk) := by
  obtain ⟨f, fd, hm, F, G⟩ := D.ex
  refine ⟨fun pins s σ H Q I h => ?_⟩
  refine wpAny_Call_Name_kw (ld_glob I gl hm ?_ hdb)
  refine PySem.W.callWith_KW (h₀ := X.base) I.ok.mod.kin F.kp hall ?_ hpl he
  refine thn (ha.run pos pins s σ H _ I h) ?_
  rintro us s1 ⟨vs, H1, I1, r, q⟩
  refine thn (hkw.run pos pins s1 σ H1 _ I1 q) ?_
  rintro ws s2 ⟨zs, H2, I2, rz, l1, l2, q2⟩
  refine ⟨I2.kIn, ?_⟩
  rw [hks]
  refine G.called (pairs := ks.zip ws) (first := us) (hr.mono hk) hg hx I2 (vals_put r rz ix) ?_ q2
  obtain ⟨oc, od, kV, doc, pm, an, cdv, ct, osl, rfl, _, _⟩ := F.ex
  exact wy kV doc pm an cdv ct us ws (r.length.symm.trans l1) (rz.length.symm.trans l2)
/-- f(k = b, ..) -/
theorem pe_dk0 {ix : List Nat} (D : DfA X.prog X.w X.K X.mg X.base CX k y x st ps sp) (hr : Room j X.A) (hk : k ≤ j) (hg : X.A.guards = some []) (hx : Passes CX X E) (wy : Way x st ps 0 ks ix)
    (gl : Gl X y) (hkw : PK X kws tk) (hall : (backToKw pos (keywordEach kws X.env)).all (·.1.isSome) = true := by rfl) (hks : (backToKw pos (keywordEach kws X.env)).filterMap (·.1) = ks := by rfl)
    (hdb : (y == ("__debug__" : Str)) = false := by decide)
    (hpl : ((backTo pos (starEach [] X.env)).any (·.1) || (backToKw pos (keywordEach kws X.env)).any (·.1.isNone)) = false := by rfl) :
    PE X (.Call (.Name y p) [] kws pos) (tCallKw 0 ks.length sp ix E tNil tk) := by
  obtain ⟨f, fd, hm, F, G⟩ := D.ex
  refine ⟨fun pins s σ H Q I h => ?_⟩
  refine wpAny_Call_Name_kw (ld_glob I gl hm ?_ hdb)
  refine PySem.W.callWith_KW0 (h₀ := X.base) I.ok.mod.kin F.kp hall ?_ hpl
  refine thn (hkw.run pos pins s σ H _ I h) ?_
  rintro ws s2 ⟨zs, H2, I2, rz, l1, l2, q2⟩
  refine ⟨I2.kIn, ?_⟩
  rw [hks]
  refine G.called (pairs := ks.zip ws) (first := []) (hr.mono hk) hg hx I2 (vals_put .nil rz ix) ?_ q2
  obtain ⟨oc, od, kV, doc, pm, an, cdv, ct, osl, rfl, _, _⟩ := F.ex
  exact wy kV doc pm an cdv ct [] ws rfl (rz.length.symm.trans l2)
end
section
variable {X : Cx}
/-- a module's whole number -/
theorem pe_gi {x : Str} {i : Int} {pos : Pos} (hg : Gl X x) (hm : ∃ t, X.mg x = some (.int i t)) (hd : (x == ("__debug__" : Str)) = false := by decide) : PE X (.Name x pos) (tC (.int i)) := by
  obtain ⟨t, hm⟩ := hm
  exact pe_glob hg hm ⟨t, rfl⟩ hd
theorem op_div : OpR X (binaryOp .FloorDiv) (rI CDiv fun i j => .int (i / j)) := op_fdiv
end
end Ow
namespace Ow
open PySem PySem.Spec PyProof.Rows L2
section
variable {X : Cx}
/-- int(n) of a whole number -/
theorem call_int : CallR X (.type "int") (fun xs H Q => ∃ i, xs = [.int i] ∧ Q (.int i) H) := by
  intro pins s σ H xs us Q I r h
  obtain ⟨i, e, q⟩ := h
  exact call_int1 pins s σ H xs us Q I r (.inl ⟨i, e, q⟩)
end
end Ow
/-! Own layer, the end: a law's def under a promise Prm. -/
namespace Ow
open PySem PySem.Spec PyProof.Rows L2
theorem ints_vals : ∀ {us : List Value} {ns : List Int}, IntsAre us ns → Vals (ns.map V.int) us
  | _, _, .nil => .nil
  | _, _, .cons n t h => .cons ⟨t, rfl⟩ (ints_vals h)
section
variable {P : Program} {w : World} {K : PySem.W.Frag} {mg mb : Str → Option Value} {k : Nat} {fa a : Addr} {fd : FuncData} {x : Str} {sp : Sp} {s₁ : Shared} {us : List Value} {ns : List Int}
/-- from an abstract heap H that knows at most the script -/
theorem law_core (KX : K.In s₁.heap) (hns : s₁.heap.Ns mainGlobals mg) (hb : s₁.heap.Ns builtinsNs mb) (hbb : ∀ x : Str, x ≠ "__name__" → mb x = bootBuiltins x) (hlim : s₁.heap.NoLimit) (hg : s₁.gens = #[])
    (ha : s₁.heap.get? a = some { cls := .type "list", data := .seq us.toArray }) (hr : Room k callerA)
    (F : ∀ base : Heap, K.In base → base.Ns mainGlobals mg → Prm P w K mg base CX0 k fa fd [x] sp) (hbind : ∀ u : Value, bindArgs fd ⟨[u], []⟩ = pure [(x, u)])
    (H : Hp) (hH : ∀ b u, H b = some u → b = a ∧ K.lookup a = none ∧ ∃ xs, u = .frz { cls := .type "list", data := .seq us.toArray } (.lst xs)) (hok : HOk P w H s₁.heap)
    (hsp : sp [.ref a] H (fun v _ => v = .bl true) E0) :
    codeAny (model P w) callerA (.call (.ref fa) ⟨[.ref a], []⟩) (fun r s' => r = .ok (.ret (.bool true)) ∧ OldK s₁.heap s'.heap ∧ s'.os = s₁.os ∧ AllBare s'.gens) s₁ := by
  have isN : ∀ {b : Addr} {o : Obj}, s₁.heap.get? b = some o → (∀ its n, o.data ≠ .seq its n) → H b = none := by
    intro b o e d
    cases q : H b with
    | none => rfl
    | some u =>
      obtain ⟨rfl, _, _⟩ := hH b u q
      rw [ha] at e
      cases e
      exact absurd rfl (d us.toArray _)
  have below : ∀ {b : Addr} {m : Str → Option Value}, s₁.heap.Ns b m → (hidT s₁.heap H).Ns b m := by
    rintro b m ⟨o, es, ep, e, d, r⟩
    exact ⟨o, es, ep, hidT_get e (isN e (by intro its n z; rw [d] at z; cases z)), d, r⟩
  have inB : K.In (hidT s₁.heap H) := by
    intro b o e
    refine hidT_get (KX b o e) ?_
    cases q : H b with
    | none => rfl
    | some u =>
      obtain ⟨rfl, z, _⟩ := hH b u q
      rw [z] at e
      cases e
  obtain ⟨mc, n1, n2⟩ := hlim
  have md : Mod K mg (hidT s₁.heap H) := ⟨inB, below hns, ⟨mb, below hb, hbb⟩, ⟨mc, below n1, n2⟩⟩
  have e0 : Env0 P w K mg (hidT s₁.heap H) callerA [] s₁ H :=
    ⟨rfl, md, fun b o e => of_hidT e, Nat.le_of_eq (hidT_size _ _), trivial, (by intro b hb; cases hb), hok, .of_eq hg⟩
  have run := (F _ inB (below hns)).go callerA [] s₁ H ⟨[.ref a], []⟩ [.ref a] [.ref a] _ _ rfl hr e0 (.of_eq (hbind (.ref a))) (.cons rfl .nil) hsp
  refine codeAny_mono run ?_
  intro r s' h
  cases r with
  | error e => exact h.elim
  | ok fl =>
    cases fl with
    | next => exact h.elim
    | brk => exact h.elim
    | cont => exact h.elim
    | ret u =>
      obtain ⟨v, H', os, bare, un, hok', rv, q⟩ := h
      obtain rfl : v = .bl true := q
      obtain rfl : u = Value.bool true := rv
      refine ⟨rfl, OldK.of_keep ?_, os, bare⟩
      intro b o e
      cases q : H b with
      | none => exact un.keep b o e q (by intro z; cases z) (by intro z; cases z)
      | some u =>
        obtain ⟨rfl, _, xs, rfl⟩ := hH b u q
        obtain ⟨f1, _⟩ := hok' b _ (un.frzs b _ _ q)
        rw [ha] at e
        cases e
        exact f1
theorem law_run (KX : K.In s₁.heap) (hns : s₁.heap.Ns mainGlobals mg) (hb : s₁.heap.Ns builtinsNs mb) (hbb : ∀ x : Str, x ≠ "__name__" → mb x = bootBuiltins x) (hlim : s₁.heap.NoLimit) (hg : s₁.gens = #[])
    (ha : s₁.heap.get? a = some { cls := .type "list", data := .seq us.toArray }) (hi : IntsAre us ns) (hl : ns.length ≤ sizeLine) (hr : Room k callerA)
    (F : ∀ base : Heap, K.In base → base.Ns mainGlobals mg → Prm P w K mg base CX0 k fa fd [x] sp) (hbind : ∀ u : Value, bindArgs fd ⟨[u], []⟩ = pure [(x, u)])
    (hsp : ∀ H : Hp, SqL K H a (ns.map V.int) → sp [.ref a] H (fun v _ => v = .bl true) E0) :
    codeAny (model P w) callerA (.call (.ref fa) ⟨[.ref a], []⟩) (fun r s' => r = .ok (.ret (.bool true)) ∧ OldK s₁.heap s'.heap ∧ s'.os = s₁.os ∧ AllBare s'.gens) s₁ := by
  have rv := ints_vals hi
  cases hk : K.lookup a with
  | some o =>
    have e := KX a o hk
    rw [ha] at e
    cases e
    refine law_core KX hns hb hbb hlim hg ha hr F hbind (fun _ => none) (fun b u z => nomatch z) (fun b u z => nomatch z) (hsp _ (.inr ⟨_, us.toArray, _, hk, rfl, rfl, rfl, ?_, ?_⟩))
    · rw [List.size_toArray, hi.length]
      exact hl
    · simpa using rv
  | none =>
    refine law_core KX hns hb hbb hlim hg ha hr F hbind (fun b => if b = a then some (.frz { cls := .type "list", data := .seq us.toArray } (.lst (ns.map V.int))) else none) ?_ ?_ (hsp _ (.inl (.inr ⟨_, if_pos rfl⟩)))
    · intro b u z
      by_cases q : b = a
      · rw [if_pos q] at z
        cases z
        exact ⟨q, hk, _, rfl⟩
      · rw [if_neg q] at z
        cases z
    · intro b u z
      have z : (if b = a then some (HO.frz { cls := .type "list", data := .seq us.toArray } (.lst (ns.map V.int))) else none) = some u := z
      by_cases q : b = a
      · rw [if_pos q] at z
        cases z
        subst q
        exact ⟨ha, (by rw [List.length_map]; exact hl), us, _, rv, ha⟩
      · rw [if_neg q] at z
        cases z
/-- the goal that the head leaves, by the promise of the law's def -/
theorem law_end {l : PySem.W.OpenLaw} {n : Nat} {q : Program} {loose : List Str} {XP : (Str → Option Value) → Heap → Prop} {YP : World → Heap → Prop} {d : DefRec} {K : Params → PySem.W.Frag} {sp : PySem.W.Frag → Sp}
    (hn : l.most = some n) (hn2 : n ≤ sizeLine) (hdf : d.params.defaults = []) (hr : Room k callerA) (hY : ∀ (w : World) (h : Heap), YP w h → (K w.params).In h)
    (F : ∀ (w : World) (mg : Str → Option Value) (fa : Addr) (h : Heap), (K w.params).In h → h.Ns mainGlobals mg → mg d.name = some (.ref fa) →
      ∃ fd : FuncData, (∀ u : Value, bindArgs fd ⟨[u], []⟩ = pure [(x, u)]) ∧ ∀ base : Heap, (K w.params).In base → base.Ns mainGlobals mg → Prm l.prog w (K w.params) mg base CX0 k fa fd [x] (sp (K w.params)))
    (hsp : ∀ (K : PySem.W.Frag) (H : Hp) (a : Addr) (ns : List Int), ns.length ≤ n → SqL K H a (ns.map V.int) → sp K [.ref a] H (fun v _ => v = .bl true) E0) :
    PySem.W.WalkO q loose XP YP l.row.toRowW d [] (fun f vs => PySem.call f vs) := by
  refine Att.attach_call hn hdf ?_
  intro w s₀ s₁ mg mb fa o pm cd doc a vs ns G Y ho hd hcd hmg hobj hints hlen hg
  obtain ⟨fd, hb, hF⟩ := F w mg fa _ (hY w _ Y) G.T.g hmg
  exact law_run (hY w _ Y) G.T.g G.T.b G.T.builtins G.T.nolimit hg hobj hints (Nat.le_trans hlen hn2) hr hF hb fun H hS => hsp _ H a ns hlen hS
end
end Ow
namespace Ow
open PySem PySem.Spec PyProof.Rows L2
/-- what the head tells of a def -/
theorem stands_of {K : PySem.W.Frag} {h : Heap} {mg : Str → Option Value} {y x : Str} {st : Stmt} {f : Addr} {od an : Option Addr} {sl : Array (Option Value)} {oc kV doc pm cdv ct : Value} (X : K.In h) (G : h.Ns mainGlobals mg)
    (a : PySem.W.nsIn K mainGlobals y = some (some (.ref f))) (l : K.lookup f = some ⟨oc, od, .func (PySem.W.fnOf x x (defArgs st) (defBody st) (defScope st) .none kV doc pm an cdv ct), sl⟩)
    (c : PySem.W.codeIn K cdv x = true) (k : PySem.W.keepIn K (.ref f) = true) : StandsA K mg y x st := ⟨f, _, PySem.W.mg_of X G a, fun_mk l c k⟩
theorem none_of {K : PySem.W.Frag} {h : Heap} {mg : Str → Option Value} {x : Str} (X : K.In h) (G : h.Ns mainGlobals mg) (a : PySem.W.nsIn K mainGlobals x = some none) : mg x = none := PySem.W.mg_none_of X G a
theorem int_of {K : PySem.W.Frag} {h : Heap} {mg : Str → Option Value} {x : Str} {i : Int} {t : Tok} (X : K.In h) (G : h.Ns mainGlobals mg) (a : PySem.W.nsIn K mainGlobals x = some (some (.int i t))) : ∃ t, mg x = some (.int i t) := ⟨t, PySem.W.mg_of X G a⟩
end Ow
namespace Ow
open PySem PySem.Spec PyProof.Rows L2
section
variable {P : Program} {w : World} {K : PySem.W.Frag} {mg : Str → Option Value} {base : Heap} {CX : CXT} {k : Nat} {x : Str} {st : Stmt} {ps : List Str} {sp : Sp} {f : Addr} {fd : FuncData}
/-- the promise, of the very def that stands there -/
theorem Df.prm (D : Df P w K mg base CX k x st ps sp) (hm : mg x = some (.ref f)) (F : Fun K x x st f fd) : Prm P w K mg base CX k f fd ps sp := by
  obtain ⟨g, gd, gm, G, R⟩ := D.ex
  rw [hm] at gm
  cases gm
  obtain ⟨o1, d1, _, _, _, _, _, _, l1, _, e1, _⟩ := F.ex
  obtain ⟨o2, d2, _, _, _, _, _, _, l2, _, e2, _⟩ := G.ex
  rw [e1] at e2
  cases e2
  exact R
/-- the law's def: what law_end asks -/
theorem made_of {s : PySem.W.Frag → Sp} (S : Stands K mg x st) (hm : mg x = some (.ref f)) (bd : Bind x st ["script"]) (D : ∀ base : Heap, Df P w K mg base CX k x st ["script"] (s K)) :
    ∃ fd : FuncData, (∀ u : Value, bindArgs fd ⟨[u], []⟩ = pure [(("script" : Str), u)]) ∧ ∀ base : Heap, K.In base → base.Ns mainGlobals mg → Prm P w K mg base CX k f fd ["script"] (s K) := by
  obtain ⟨g, fd, gm, G⟩ := S
  rw [hm] at gm
  cases gm
  refine ⟨fd, fun u => ?_, fun base _ _ => (D base).prm hm G⟩
  obtain ⟨_, _, kV, doc, pm, an, cdv, ct, _, rfl, _, _⟩ := G.ex
  exact bd kV doc pm an cdv ct [u] rfl
end
end Ow
/-! Own layer: repr of data. -/
namespace Ow
open PySem PySem.Spec PyProof.Rows L2
section
variable {X : Cx}
/-- repr(x), x data that holds no dict -/
def rShow (K : PySem.W.Frag) : List V → Hp → VK → Prop := fun xs H Q => ∃ (v : V) (d : PyData), xs = [v] ∧ Dp K H v d ∧ (d.hasDict = false ∧ d.showable = true ∧ d.depth ≤ 60 ∧ d.shown.length ≤ sizeLine) ∧ Q (.str d.shown) H
theorem call_show (hu : X.A.units + 64 < cLine) (hg : X.A.guards = some []) : CallR X (.builtin "repr") (rShow X.K) := by
  intro pins s σ H xs us Q I r h
  obtain ⟨v, d, rfl, hd, ⟨h1, h2, h3, h4⟩, q⟩ := h
  obtain ⟨u, rfl, ru⟩ := vals1 r
  have fin : ∀ (t : Tok) (tk : Nat) (h' : Heap), (∀ b o, s.heap.get? b = some o → h'.get? b = some o) → EP X pins σ Q (.str d.shown t) { s with heap := h', toks := tk } :=
    fun t tk h' hk => ⟨.str d.shown, H, I.kept hk, ⟨t, rfl⟩, q⟩
  have big : ∀ {a : Addr}, u = .ref a → wpAny (model X.prog X.w) X.A (call (.builtin "repr") [u]) (EP X pins σ Q) X.xe s := by
    intro a e
    subst e
    obtain ⟨as, rd⟩ := Dp.reads I d v _ hd ru
    exact repr_of_reads' rd h2 (fun z => by rw [h1] at z; cases z) hg (by omega) (fun _ _ e => e) (fun h' t tk hk => fin t tk h' hk) h4
  cases hd with
  | non => cases ru; exact PySem.P.repr_of_none (fin _ _ _ fun _ _ e => e)
  | bl b => cases ru; exact PySem.P.repr_of_bool (fin _ _ _ fun _ _ e => e)
  | int i => obtain ⟨t, rfl⟩ := ru; exact PySem.P.repr_of_int (by simpa [PyData.showable] using h2) (fin _ _ _ fun _ _ e => e)
  | str x => obtain ⟨t, rfl⟩ := ru; exact PySem.P.repr_of_str (fin _ _ _ fun _ _ e => e) (by simpa [PyData.shown] using h4)
  | @lst a xs ds hs ha => exact big ru
  | @tup a xs ds hs ha => exact big ru
end
end Ow
/-! Own layer: data of any kind, isinstance of data, tuples whose one object is known (they have no dict), dict of such a tuple of pairs. -/
namespace Ow
open PySem PySem.Spec PyProof.Rows L2
/-! ### tuples whose object is known -/
def SqF (H : Hp) (a : Addr) (xs : List V) : Prop := ∃ ob : Obj, ob.dict = none ∧ H a = some (.frz ob (.tup xs))
theorem SqF.t {K : PySem.W.Frag} {H : Hp} {a : Addr} {xs : List V} (h : SqF H a xs) : SqT K H a xs := by
  obtain ⟨ob, _, e⟩ := h
  exact .inl (.inr ⟨ob, e⟩)
/-- a new tuple whose object is known -/
def rNewF (xs : List V) (H : Hp) (Q : VK) : Prop := ∀ (p : Addr) (ob : Obj), ob.dict = none → H p = none → Q (.ref p) (upd H p (.frz ob (.tup xs)))
def tTupF (t : TA) : TE := fun σ H Q => t σ H fun xs H1 => xs.length ≤ sizeLine ∧ rNewF xs H1 Q
section
variable {X : Cx} {es : List Expr} {t : TA} {pos : Pos}
theorem pe_tupF {x1} (h : PA X es t) : PE X (.Tuple es x1 pos) (tTupF t) := by
  refine ⟨fun pins s σ H Q I hq => ?_⟩
  refine wpAny_Tuple_spliced (thn (h.run pos pins s σ H _ I hq) fun us s1 ⟨xs, H1, I1, r, z, q⟩ => ⟨by rw [← r.length]; exact z, ?_⟩)
  have hf : H1 s1.heap.objs.size = none := I1.hok.fresh (Nat.le_refl _)
  refine ⟨.ref s1.heap.objs.size, upd H1 s1.heap.objs.size (.frz { cls := .type "tuple", data := .seq us.toArray } (.tup xs)), I1.laid (t' := s1.toks) (fun b u e => Heap.get?_push_of_some _ e) (Nat.le_refl _) ?_, rfl, q _ _ rfl hf⟩
  have e : (s1.heap.push { cls := .type "tuple", data := .seq us.toArray }).get? s1.heap.objs.size = some { cls := .type "tuple", data := .seq us.toArray } := Heap.get?_push_size _ rfl
  exact ⟨e, z, us, r, ⟨_, e, rfl, _, rfl⟩⟩
/-- tuple(x) of a list: a new one; of a tuple: that one -/
theorem call_tupleF : CallR X (.type "tuple") (fun xs H Q => ∃ p ys, xs = [.ref p] ∧ ((SqL X.K H p ys ∧ rNewF ys H Q) ∨ (SqT X.K H p ys ∧ Q (.ref p) H))) := by
  intro pins s σ H xs us Q I r h
  obtain ⟨p, ys, rfl, h⟩ := h
  obtain ⟨u, rfl, rx⟩ := vals1 r
  cases rx
  rcases h with ⟨hq, q⟩ | ⟨hq, q⟩
  · obtain ⟨its, r', pl, hz⟩ := I.list hq
    have hlen := r'.length
    refine call_tuple_list pl.isList (fun h' kp => ?_) (by simp only [List.size_toArray] <;> omega)
    have I1 : Inv X pins σ H { s with heap := h' } := I.kept (t' := s.toks) kp
    have e : (h'.push { cls := .type "tuple", data := .seq its.toArray }).get? h'.objs.size = some { cls := .type "tuple", data := .seq its.toArray } := Heap.get?_push_size _ rfl
    have I2 : Inv X pins σ (upd H h'.objs.size (.frz { cls := .type "tuple", data := .seq its.toArray } (.tup ys))) { s with heap := h'.push { cls := .type "tuple", data := .seq its.toArray } } :=
      I1.laid (t' := s.toks) (fun b o e => Heap.get?_push_of_some _ e) (Nat.le_refl _) (show ObjOk X.prog X.w _ _ _ (.frz _ (.tup ys)) from ⟨e, hz, its, r', ⟨_, e, rfl, _, rfl⟩⟩)
    exact ⟨.ref h'.objs.size, _, I2, rfl, q _ _ rfl (I1.hok.fresh (Nat.le_refl _))⟩
  · obtain ⟨its, r', pl, hz⟩ := I.tuple hq
    exact call_tuple_same pl ⟨.ref p, H, I, rfl, q⟩
/-- dict(x) of a tuple of pairs -/
theorem call_dictF (hcalm : X.calm = true) : CallR X (.type "dict") (fun xs H Q => ∃ (a : Addr) (ps : List Addr) (kvs : List (Key × V)), xs = [.ref a] ∧ SqF H a (ps.map V.ref) ∧ Paired (fun p kv => SqT X.K H p [kV kv.1, kv.2]) ps kvs ∧
    ∀ p, H p = none → Q (.ref p) (upd H p (.dK (mergeK [] kvs)))) := by
  intro pins s σ H xs us Q I r q
  obtain ⟨a, ps, kvs, ex, hq, hp, q⟩ := q
  subst ex
  obtain ⟨u, eu, rx⟩ := vals1 r
  subst eu
  cases rx
  obtain ⟨ob, hd, eo⟩ := hq
  obtain ⟨eg, hz, its, rv, o, ho, hc, n, hdat⟩ := (show ObjOk X.prog X.w H s.heap a (.frz ob (.tup (ps.map V.ref))) from I.hok a _ eo)
  rw [eg] at ho
  cases ho
  have ei := refs_at rv
  subst ei
  rw [List.length_map] at hz
  obtain ⟨prs, rel, hl, hpr⟩ := pairs_of I hp
  have hps : ∀ (j : Nat) (q : Key × Value), prs[j]? = some q → ∃ b, ps[j]? = some b ∧ ∃ u, IsTup s.heap b #[u, q.2] ∧ keyIs q.1 u = true := fun j q e => by
    obtain ⟨b, u, e1, e2, e3⟩ := hpr j q e
    exact ⟨b, e1, u, e2, e3⟩
  have hall : ∃ pvs : List (Value × Value), pvs.length = prs.length ∧ ∀ (j : Nat) (q : Key × Value), prs[j]? = some q → ∃ u, pvs[j]? = some (u, q.2) ∧ keyIs q.1 u = true ∧ IsTup s.heap (ps.getD j 0) #[u, q.2] := by
    have key : ∀ m, m ≤ prs.length → ∃ pvs : List (Value × Value), pvs.length = m ∧ ∀ (j : Nat) (q : Key × Value), j < m → prs[j]? = some q → ∃ u, pvs[j]? = some (u, q.2) ∧ keyIs q.1 u = true ∧ IsTup s.heap (ps.getD j 0) #[u, q.2] := by
      intro m
      induction m with
      | zero => exact fun _ => ⟨[], rfl, fun j q h => absurd h (Nat.not_lt_zero _)⟩
      | succ m ih =>
        intro hm
        obtain ⟨pvs, e1, e2⟩ := ih (by omega)
        have hlt : m < prs.length := by omega
        obtain ⟨b, eb, u, e3, e4⟩ := hps m prs[m] (List.getElem?_eq_getElem hlt)
        refine ⟨pvs ++ [(u, prs[m].2)], by simp [e1], fun j q hj hq => ?_⟩
        rcases Nat.lt_or_ge j m with z | z
        · obtain ⟨u', x1, x2, x3⟩ := e2 j q z hq
          exact ⟨u', by rw [List.getElem?_append_left (by omega)]; exact x1, x2, x3⟩
        · have ej : j = m := by omega
          subst ej
          rw [List.getElem?_eq_getElem hlt] at hq
          have hq := Option.some.inj hq
          subst hq
          refine ⟨u, ?_, e4, ?_⟩
          · rw [List.getElem?_append_right (by omega), e1]
            simp
          · rw [List.getD_eq_getElem?_getD, eb]
            exact e3
    obtain ⟨pvs, e1, e2⟩ := key prs.length (Nat.le_refl _)
    exact ⟨pvs, e1, fun j q hq => e2 j q (List.getElem?_eq_some_iff.mp hq).1 hq⟩
  obtain ⟨pvs, el, ep⟩ := hall
  have P := PairArg.tuple (prog := X.prog) (w := X.w) a (ps.map Value.ref).toArray (fun j => ps.getD j 0) pvs
  have back : ∀ (j : Nat) (k v : Value), pvs[j]? = some (k, v) → ∃ q, prs[j]? = some q ∧ q.2 = v ∧ keyIs q.1 k = true ∧ IsTup s.heap (ps.getD j 0) #[k, v] := by
    intro j k v e
    have hj : j < prs.length := by rw [← el]; exact (List.getElem?_eq_some_iff.mp e).1
    obtain ⟨u, x1, x2, x3⟩ := ep j prs[j] (List.getElem?_eq_getElem hj)
    rw [x1] at e
    cases e
    exact ⟨_, List.getElem?_eq_getElem hj, rfl, x2, x3⟩
  refine call_dict_pairs (knd := mixKind X.prog X.w) (kvs := prs) P (I.ok.hd hcalm) ⟨⟨ob, n, eg, hc, hd, hdat⟩, ?_, fun j k v e => ?_⟩ ⟨el.symm, fun i k v e => ?_⟩ (by rw [el, hl]; exact hz) fun h' tk hd' k => ?_
  · simp [el, hl]
  · obtain ⟨q, e1, e2, e3, ⟨o, e4, e5, m, e6⟩⟩ := back j k v e
    refine ⟨?_, .inl ⟨o, e4, e5, m, e6⟩⟩
    have hj : j < ps.length := by rw [← hl]; exact (List.getElem?_eq_some_iff.mp e1).1
    simp [List.getD_eq_getElem?_getD, List.getElem?_eq_getElem hj]
  · obtain ⟨q, e1, e2, e3, _⟩ := back i k v e
    obtain ⟨q1, q2⟩ := q
    cases e2
    exact ⟨q1, e1, e3⟩
  · have hm : (s.heap.objs.size == sysModules) = false := beq_eq_false_iff_ne.mpr (Nat.ne_of_gt I.big)
    have hlen : (mergeK [] kvs).length ≤ sizeLine := by
      refine Nat.le_trans (length_mergeK kvs []) ?_
      rw [List.length_nil, Nat.zero_add, rel.length, hl]
      exact hz
    exact ⟨.ref s.heap.objs.size, upd H s.heap.objs.size (.dK (mergeK [] kvs)), I.laid (t' := tk) (fun b o e => k b o (fun z => nomatch z) e) (Nat.le_refl _) (show ObjOk X.prog X.w _ _ _ (.dK (mergeK [] kvs)) from ⟨hlen, hm, merged [] prs, KV.merge rel .nil, hd'⟩), rfl, q _ (I.hok.fresh (Nat.le_refl _))⟩
end
end Ow
/-! Own layer: data of any kind (dicts too), and what isinstance says of it. -/
namespace Ow
open PySem PySem.Spec PyProof.Rows L2
def kD : Key → PyData
  | .inl i => .int i
  | .inr x => .str x
mutual
/-- the value v is the data d -/
inductive Dq (K : PySem.W.Frag) (H : Hp) : V → PyData → Prop
  | non : Dq K H .non .none
  | bl (b : Bool) : Dq K H (.bl b) (.bool b)
  | int (i : Int) : Dq K H (.int i) (.int i)
  | str (x : Str) : Dq K H (.str x) (.str x)
  | lst {a : Addr} {xs : List V} {ds : List PyData} : SqL K H a xs → DqAll K H xs ds → Dq K H (.ref a) (.list ds)
  | tup {a : Addr} {xs : List V} {ds : List PyData} : SqF H a xs → DqAll K H xs ds → Dq K H (.ref a) (.tuple ds)
  | dct {a : Addr} {kvs : List (Key × V)} {ds : List PyData} : Rd H a (.dK kvs) → DqAll K H (kvs.map (·.2)) ds → Dq K H (.ref a) (.dict ((kvs.map fun kv => kD kv.1).zip ds))
inductive DqAll (K : PySem.W.Frag) (H : Hp) : List V → List PyData → Prop
  | nil : DqAll K H [] []
  | cons {v : V} {vs : List V} {d : PyData} {ds : List PyData} : Dq K H v d → DqAll K H vs ds → DqAll K H (v :: vs) (d :: ds)
end
/-- what is known of one heap is known of the other -/
def Sm (H H' : Hp) : Prop := ∀ b o, H b = some o → H' b = some o
theorem Rd.sm {H H' : Hp} {a : Addr} {o : HO} (h : Rd H a o) (s : Sm H H') : Rd H' a o := h.elim (fun e => .inl (s _ _ e)) fun ⟨ob, e⟩ => .inr ⟨ob, s _ _ e⟩
theorem SqL.sm {K : PySem.W.Frag} {H H' : Hp} {a : Addr} {xs : List V} (h : SqL K H a xs) (s : Sm H H') : SqL K H' a xs := h.elim (fun e => .inl (Rd.sm e s)) .inr
theorem SqT.sm {K : PySem.W.Frag} {H H' : Hp} {a : Addr} {xs : List V} (h : SqT K H a xs) (s : Sm H H') : SqT K H' a xs := h.elim (fun e => .inl (Rd.sm e s)) .inr
theorem SqF.sm {H H' : Hp} {a : Addr} {xs : List V} (h : SqF H a xs) (s : Sm H H') : SqF H' a xs := by
  obtain ⟨ob, e, q⟩ := h
  exact ⟨ob, e, s _ _ q⟩
mutual
theorem Dq.sm {K : PySem.W.Frag} {H H' : Hp} (s : Sm H H') : ∀ {v : V} {d : PyData}, Dq K H v d → Dq K H' v d
  | _, _, .non => .non
  | _, _, .bl b => .bl b
  | _, _, .int i => .int i
  | _, _, .str x => .str x
  | _, _, .lst h t => .lst (SqL.sm h s) (DqAll.sm s t)
  | _, _, .tup h t => .tup (SqF.sm h s) (DqAll.sm s t)
  | _, _, .dct h t => .dct (Rd.sm h s) (DqAll.sm s t)
theorem DqAll.sm {K : PySem.W.Frag} {H H' : Hp} (s : Sm H H') : ∀ {vs : List V} {ds : List PyData}, DqAll K H vs ds → DqAll K H' vs ds
  | _, _, .nil => .nil
  | _, _, .cons h t => .cons (Dq.sm s h) (DqAll.sm s t)
end
mutual
theorem Dp.sm {K : PySem.W.Frag} {H H' : Hp} (s : Sm H H') : ∀ {v : V} {d : PyData}, Dp K H v d → Dp K H' v d
  | _, _, .non => .non
  | _, _, .bl b => .bl b
  | _, _, .int i => .int i
  | _, _, .str x => .str x
  | _, _, .lst h t => .lst (SqL.sm h s) (DpAll.sm s t)
  | _, _, .tup h t => .tup (SqT.sm h s) (DpAll.sm s t)
theorem DpAll.sm {K : PySem.W.Frag} {H H' : Hp} (s : Sm H H') : ∀ {vs : List V} {ds : List PyData}, DpAll K H vs ds → DpAll K H' vs ds
  | _, _, .nil => .nil
  | _, _, .cons h t => .cons (Dp.sm s h) (DpAll.sm s t)
end
theorem DqAll.length {K : PySem.W.Frag} {H : Hp} : ∀ {vs : List V} {ds : List PyData}, DqAll K H vs ds → vs.length = ds.length
  | _, _, .nil => rfl
  | _, _, .cons _ t => congrArg (· + 1) (DqAll.length t)
theorem DpAll.length {K : PySem.W.Frag} {H : Hp} : ∀ {vs : List V} {ds : List PyData}, DpAll K H vs ds → vs.length = ds.length
  | _, _, .nil => rfl
  | _, _, .cons _ t => congrArg (· + 1) (DpAll.length t)
theorem DqAll.at {K : PySem.W.Frag} {H : Hp} : ∀ {vs : List V} {ds : List PyData} (i : Nat) {d : PyData}, DqAll K H vs ds → ds[i]? = some d → ∃ v, vs[i]? = some v ∧ Dq K H v d
  | _, _, i, _, .nil, e => by simp at e
  | v :: _, _ :: _, 0, d, .cons h _, e => ⟨v, rfl, by
    have e : _ = d := Option.some.inj e
    rw [← e]
    exact h⟩
  | _, _ :: _, i + 1, _, .cons _ t, e => by
    obtain ⟨v, a, b⟩ := DqAll.at i t (by simpa using e)
    exact ⟨v, by simpa using a, b⟩
/-- the name of the type -/
def kindD : PyData → String
  | .none => "NoneType"
  | .bool _ => "bool"
  | .int _ => "int"
  | .str _ => "str"
  | .list _ => "list"
  | .tuple _ => "tuple"
  | .dict _ => "dict"
/-- isinstance(x, n) -/
def isK (d : PyData) (n : String) : Bool := decide (kindD d = n) || (decide (kindD d = "bool") && decide (n = "int"))
def kinds : List String := ["int", "bool", "str", "list", "tuple", "dict"]
theorem Dq.tyx {K : PySem.W.Frag} {H : Hp} {v : V} {d : PyData} (h : Dq K H v d) : TyX K H v (.type (kindD d)) := by
  cases h with
  | non => exact .base .non
  | bl b => exact .base (.bl b)
  | int i => exact .base (.int i)
  | str x => exact .base (.str x)
  | lst h t =>
    rcases h with (h | ⟨ob, h⟩) | ⟨o, its, n, h, c, _⟩
    · exact .base (.lst h)
    · exact .base (.frz h)
    · exact .kList h c
  | tup h t =>
    obtain ⟨ob, _, h⟩ := h
    exact .fTuple h
  | dct h t =>
    rcases h with h | ⟨ob, h⟩
    · exact .base (.dK h)
    · exact .fDict h
theorem kit_all : (["NoneType", "bool", "int", "str", "list", "tuple", "dict"].all fun k => kinds.all fun n => kitB k n == some (decide (k = n) || (decide (k = "bool") && decide (n = "int")))) = true := by decide +kernel
theorem kind_in (d : PyData) : kindD d ∈ ["NoneType", "bool", "int", "str", "list", "tuple", "dict"] := by cases d <;> simp [kindD]
theorem kit_one {K : PySem.W.Frag} (d : PyData) {n : String} (hn : n ∈ kinds) : PySem.W.kitOne K (.type (kindD d)) (.type n) = some (isK d n) := by
  refine kit_ty ?_
  have h1 := List.all_eq_true.mp kit_all _ (kind_in d)
  have h2 := List.all_eq_true.mp h1 n hn
  exact eq_of_beq h2
section
variable {X : Cx}
/-- isinstance(x, n), x data -/
theorem call_isiD : CallR X (.builtin "isinstance") (fun xs H Q => ∃ v d n, xs = [v, .ty n] ∧ n ∈ kinds ∧ Dq X.K H v d ∧ Q (.bl (isK d n)) H) := by
  intro pins s σ H xs us Q I r h
  obtain ⟨v, d, n, rfl, hn, hd, q⟩ := h
  exact call_isi pins s σ H _ us Q I r ⟨v, .ty n, _, _, isK d n, rfl, .ty n, hd.tyx, kit_one d hn, q⟩
/-- isinstance(x, (m, n)) -/
theorem call_isiD2 : CallR X (.builtin "isinstance") (fun xs H Q => ∃ v d tp m n, xs = [v, .ref tp] ∧ H tp = some (.tup [.ty m, .ty n]) ∧ m ∈ kinds ∧ n ∈ kinds ∧ Dq X.K H v d ∧ Q (.bl (isK d m || isK d n)) H) := by
  intro pins s σ H xs us Q I r h
  obtain ⟨v, d, tp, m, n, rfl, ht, hm, hn, hd, q⟩ := h
  refine call_isiT pins s σ H _ us Q I r ⟨v, tp, _, _, [.type m, .type n], isK d m || isK d n, rfl, ht, .cons (.ty m) (.cons (.ty n) .nil), hd.tyx, ?_, q⟩
  have a := kit_one (K := X.K) d hm
  have b := kit_one (K := X.K) d hn
  simp only [PySem.W.kitAny, a, b]
  cases isK d m <;> cases isK d n <;> rfl
/-- t[lo:hi] -/
def rSlQ (K : PySem.W.Frag) : V → Option Int → Option Int → Hp → VK → Prop := fun x lo hi H Q => ∃ a xs, x = .ref a ∧ SqT K H a xs ∧ ∀ p H', Sm H H' → SqT K H' p (cutV xs lo hi) → Q (.ref p) H'
theorem sm_new {H : Hp} {p : Addr} {o : HO} (h : H p = none) : Sm H (upd H p o) := fun b u e => by
  rw [upd_ne (ne_of_none e h)]
  exact e
theorem sl_tupQ : SlR X (rSlQ X.K) := by
  intro pins s σ H x v vl vu lo hi sl Q I rx hs pl pu h
  obtain ⟨a, xs, rfl, hx, q⟩ := h
  refine sl_tupA pins s σ H _ v vl vu lo hi sl Q I rx hs pl pu ⟨a, xs, rfl, hx, fun hw => q a H (fun _ _ e => e) ?_, fun hw p hp => q p _ (sm_new hp) (.inl (.inl upd_same))⟩
  have e : cutV xs lo hi = xs := by
    unfold cutV
    rw [hw.1, hw.2, List.drop_zero, Nat.sub_zero, List.take_length]
  rw [e]
  exact hx
/-- t + u -/
def rCatQ (K : PySem.W.Frag) : R2 := fun x y H Q => ∃ a b xs ys, x = .ref a ∧ y = .ref b ∧ SqT K H a xs ∧ SqT K H b ys ∧ xs.length + ys.length ≤ sizeLine ∧ ∀ p H', Sm H H' → SqT K H' p (xs ++ ys) → Q (.ref p) H'
theorem op_catQ : OpR X (binaryOp .Add) (rCatQ X.K) := by
  intro pins s σ H x y v u Q I rx ry h
  obtain ⟨a, b, xs, ys, rfl, rfl, ha, hb, hz, q⟩ := h
  refine op_catA pins s σ H _ _ v u Q I rx ry ⟨a, b, xs, ys, rfl, rfl, ha, hb, hz, fun e => q b H (fun _ _ e => e) ?_, fun _ e => q a H (fun _ _ e => e) ?_, fun _ _ p hp => q p _ (sm_new hp) (.inl (.inl upd_same))⟩
  · rw [e]
    exact hb
  · rw [e, List.append_nil]
    exact ha
/-- a walk of the one kind or of the other -/
theorem pi_or {tg l : Expr} {w1 w2 : TI} (h1 : PI X tg l w1) (h2 : PI X tg l w2) : PI X tg l (fun σ H R => w1 σ H R ∨ w2 σ H R) :=
  ⟨fun pins s σ H R I h => h.elim (h1.run pins s σ H R I) (h2.run pins s σ H R I)⟩
end
theorem walk_zipT {K : PySem.W.Frag} {a b : Addr} {xs ys : List V} {n : Nat} (hn : n = min xs.length ys.length) : Walk (RZ.ItzT K a b) n (fun H => SqT K H a xs ∧ SqT K H b ys) (YPair (fun i => xs[i]?) (fun i => ys[i]?)) := by
  subst hn
  refine ⟨fun i _ hi q => ?_, fun _ q => ⟨xs, ys, q.1, q.2, by omega⟩, fun i H v H' _ q y => ?_⟩
  · have h1 : i < xs.length := by omega
    have h2 : i < ys.length := by omega
    exact ⟨xs, ys, xs[i], ys[i], q.1, q.2, by simp [h1], by simp [h2]⟩
  · obtain ⟨T, x, z, h1, h2, h3, h4, h5⟩ := y
    exact ⟨T, x, z, h1, h2, h3, h4 xs q.1, h5 ys q.2⟩
end Ow
/-! Own layer: rules whose terms speak of K itself, for the insides of comprehensions. -/
namespace Ow
open PySem PySem.Spec PyProof.Rows L2
section
variable (K : PySem.W.Frag) {X : Cx}
theorem ixLK (h : X.K = K) : IxR X (rIxL K) := h ▸ ix_list
theorem ixTK (h : X.K = K) : IxR X (rIxT K) := h ▸ ix_tup
theorem ixSK (h : X.K = K) : IxR X (rIx K) := h ▸ ix_seq
theorem slTK (h : X.K = K) : SlR X (rSlQ K) := h ▸ sl_tupQ
theorem slLK (h : X.K = K) : SlR X (rSlL K) := h ▸ sl_list
theorem catQK (h : X.K = K) : OpR X (binaryOp .Add) (rCatQ K) := h ▸ op_catQ
theorem lenK (h : X.K = K) : CallR X (.builtin "len") (fun xs H Q => ∃ p ys, xs = [.ref p] ∧ (SqL K H p ys ∨ SqT K H p ys) ∧ Q (.int ys.length) H) := h ▸ call_len_seq
theorem allK (h : X.K = K) (hc : X.calm = true) : CallR X (.builtin "all") (rAll K) := h ▸ cr_all hc
theorem anyK (h : X.K = K) (hc : X.calm = true) : CallR X (.builtin "any") (rAny K) := h ▸ cr_any hc
theorem sumK (h : X.K = K) (hc : X.calm = true) : CallR X (.builtin "sum") (rSum K) := h ▸ cr_sum hc
theorem isiK (h : X.K = K) : CallR X (.builtin "isinstance") (fun xs H Q => ∃ v d n, xs = [v, .ty n] ∧ n ∈ kinds ∧ Dq K H v d ∧ Q (.bl (isK d n)) H) := h ▸ call_isiD
theorem isi2K (h : X.K = K) : CallR X (.builtin "isinstance") (fun xs H Q => ∃ v d tp m n, xs = [v, .ref tp] ∧ H tp = some (.tup [.ty m, .ty n]) ∧ m ∈ kinds ∧ n ∈ kinds ∧ Dq K H v d ∧ Q (.bl (isK d m || isK d n)) H) := h ▸ call_isiD2
theorem tupleK (h : X.K = K) : CallR X (.type "tuple") (fun xs H Q => ∃ p ys, xs = [.ref p] ∧ ((SqL K H p ys ∧ rNewF ys H Q) ∨ (SqT K H p ys ∧ Q (.ref p) H))) := h ▸ call_tupleF
theorem sortedIK (h : X.K = K) : CallR X (.builtin "sorted") (rSortedI K) := h ▸ cr_sortedI
theorem eqDK (h : X.K = K) (hu : X.A.units + 64 < cLine) : OpR X (compareOp .Eq) (rEqD K) := h ▸ op_eqD hu
theorem neDK (h : X.K = K) (hu : X.A.units + 64 < cLine) : OpR X (compareOp .NotEq) (rNeD K) := h ▸ op_neD hu
theorem showK (h : X.K = K) (hu : X.A.units + 64 < cLine) (hg : X.A.guards = some []) : CallR X (.builtin "repr") (rShow K) := h ▸ call_show hu hg
theorem piLK {tg l : Expr} {tl : TE} (h : X.K = K) (hl : PE X l tl) : PI X tg l (iList K tl) := h ▸ pi_list hl
theorem piTK {tg l : Expr} {tl : TE} (h : X.K = K) (hl : PE X l tl) : PI X tg l (iTup K tl) := h ▸ pi_tup hl
end
end Ow
/-! Own layer: data that can be shown and compared: depth at most k, at most n signs and items. -/
namespace Ow
open PySem PySem.Spec PyProof.Rows L2
structure Shows (k n : Nat) (d : PyData) : Prop where
  lay : d.canLay0 = true
  shw : d.showable = true
  leaf : d.leavesShort 40 = true
  dep : d.depth ≤ k
  blk : d.bulk ≤ n
structure ShowsAll (k n : Nat) (ds : List PyData) : Prop where
  lay : PyData.canLayAll0 ds = true
  shw : PyData.showableAll ds = true
  leaf : PyData.leavesShortAll 40 ds = true
  dep : PyData.depthAll ds ≤ k
  blk : PyData.bulkAll ds ≤ n
theorem Shows.ok {k n : Nat} {d : PyData} (h : Shows k n d) (hk : k ≤ 60) (hn : n ≤ 300000) : d.hasDict = false ∧ d.showable = true ∧ d.depth ≤ 60 ∧ d.shown.length ≤ sizeLine := by
  refine ⟨PyData.hasDict_of_canLay d h.lay, h.shw, Nat.le_trans h.dep hk, ?_⟩
  have := PyData.shown_le_bulk 40 (by decide) d h.leaf
  have := h.blk
  rw [sizeLine_eq]
  omega
theorem Shows.shaped {k n : Nat} {d : PyData} (h : Shows k n d) (hk : k ≤ 60) : SeqAt.shaped d = true := by
  unfold SeqAt.shaped
  rw [h.lay, decide_eq_true (Nat.le_trans h.dep (by omega))]
  rfl
theorem Shows.mono {k n k' n' : Nat} {d : PyData} (h : Shows k n d) (hk : k ≤ k') (hn : n ≤ n') : Shows k' n' d := ⟨h.lay, h.shw, h.leaf, Nat.le_trans h.dep hk, Nat.le_trans h.blk hn⟩
theorem Shows.none : Shows 0 0 .none := ⟨rfl, rfl, rfl, Nat.le_refl _, Nat.le_refl _⟩
theorem Shows.bool (b : Bool) : Shows 0 0 (.bool b) := ⟨rfl, rfl, rfl, Nat.le_refl _, Nat.le_refl _⟩
theorem Shows.int {i : Int} (h0 : -(10 ^ 38) < i) (h1 : i < 10 ^ 38) : Shows 0 0 (.int i) := by
  have hb : i.natAbs < 10 ^ 38 := by omega
  refine ⟨rfl, ?_, ?_, Nat.le_refl _, Nat.le_refl _⟩
  · show decide (i.natAbs.log2 < 1920) = true
    rw [decide_eq_true_eq]
    rcases Nat.eq_zero_or_pos i.natAbs with z | z
    · rw [z]
      decide
    · have := (Nat.log2_lt (by omega : i.natAbs ≠ 0)).mpr (show i.natAbs < 2 ^ 200 by omega)
      omega
  · show decide ((toString i : Str).length ≤ 40) = true
    rw [decide_eq_true_eq]
    have := int_text_length_le10 (a := i) (k := 38) (by decide) hb
    show (Str.ofString (toString i)).length ≤ 40
    rw [PySem.ofString_length]
    omega
theorem ShowsAll.nil : ShowsAll 0 0 [] := ⟨rfl, rfl, rfl, Nat.le_refl _, Nat.le_refl _⟩
theorem ShowsAll.cons {k j a b : Nat} {d : PyData} {ds : List PyData} (h : Shows k a d) (t : ShowsAll j b ds) : ShowsAll (max k j) (a + 1 + b) (d :: ds) := by
  refine ⟨?_, ?_, ?_, ?_, ?_⟩
  · simp only [PyData.canLayAll0, h.lay, t.lay, Bool.and_self]
  · simp only [PyData.showableAll, h.shw, t.shw, Bool.and_self]
  · simp only [PyData.leavesShortAll, h.leaf, t.leaf, Bool.and_self]
  · simp only [PyData.depthAll]
    have := h.dep
    have := t.dep
    omega
  · simp only [PyData.bulkAll]
    have := h.blk
    have := t.blk
    omega
theorem ShowsAll.mono {k n k' n' : Nat} {d : List PyData} (h : ShowsAll k n d) (hk : k ≤ k') (hn : n ≤ n') : ShowsAll k' n' d := ⟨h.lay, h.shw, h.leaf, Nat.le_trans h.dep hk, Nat.le_trans h.blk hn⟩
theorem ShowsAll.of {k m : Nat} : ∀ {ds : List PyData}, (∀ d ∈ ds, Shows k m d) → ShowsAll k (ds.length * (m + 1)) ds
  | [], _ => ShowsAll.nil.mono (Nat.zero_le _) (Nat.zero_le _)
  | d :: ds, h => by
    have t := ShowsAll.of fun x hx => h x (List.mem_cons_of_mem _ hx)
    refine (ShowsAll.cons (h d List.mem_cons_self) t).mono (by omega) ?_
    rw [List.length_cons, Nat.add_mul]
    omega
theorem Shows.list {k n : Nat} {ds : List PyData} (h : ShowsAll k n ds) : Shows (k + 1) n (.list ds) := by
  refine ⟨?_, ?_, ?_, ?_, ?_⟩
  · simpa only [PyData.canLay0] using h.lay
  · simpa only [PyData.showable] using h.shw
  · simpa only [PyData.leavesShort] using h.leaf
  · simpa only [PyData.depth] using Nat.succ_le_succ h.dep
  · simpa only [PyData.bulk] using h.blk
theorem Shows.tuple {k n : Nat} {ds : List PyData} (h : ShowsAll k n ds) : Shows (k + 1) n (.tuple ds) := by
  refine ⟨?_, ?_, ?_, ?_, ?_⟩
  · simpa only [PyData.canLay0] using h.lay
  · simpa only [PyData.showable] using h.shw
  · simpa only [PyData.leavesShort] using h.leaf
  · simpa only [PyData.depth] using Nat.succ_le_succ h.dep
  · simpa only [PyData.bulk] using h.blk
/-! ### equality of data without texts, bools beside numbers -/
theorem eqv_self {d : PyData} (h : d.canLay0 = true) : PyData.eqv d d = true := by
  exact SeqAt.eqv_refl d h
/-! whole numbers and tuples of them: equal for == just if the same -/
mutual
def plainD : PyData → Bool
  | .int _ => true
  | .tuple ds => plainAllD ds
  | .list ds => plainAllD ds
  | .none => true
  | _ => false
def plainAllD : List PyData → Bool
  | [] => true
  | d :: ds => plainD d && plainAllD ds
end
mutual
theorem eqv_plain : ∀ (d e : PyData), plainD d = true → plainD e = true → PyData.eqv d e = true → d = e
  | .int i, .int j, _, _, h => by
    simp only [PyData.eqv, beq_iff_eq] at h
    rw [h]
  | .tuple xs, .tuple ys, h1, h2, h => by
    simp only [PyData.eqv] at h
    simp only [plainD] at h1 h2
    rw [eqv_plainAll xs ys h1 h2 h]
  | .list xs, .list ys, h1, h2, h => by
    simp only [PyData.eqv] at h
    simp only [plainD] at h1 h2
    rw [eqv_plainAll xs ys h1 h2 h]
  | .none, .none, _, _, _ => rfl
  | .int _, .tuple _, _, _, h => by simp [PyData.eqv] at h
  | .int _, .list _, _, _, h => by simp [PyData.eqv] at h
  | .int _, .none, _, _, h => by simp [PyData.eqv] at h
  | .tuple _, .int _, _, _, h => by simp [PyData.eqv] at h
  | .tuple _, .list _, _, _, h => by simp [PyData.eqv] at h
  | .tuple _, .none, _, _, h => by simp [PyData.eqv] at h
  | .list _, .int _, _, _, h => by simp [PyData.eqv] at h
  | .list _, .tuple _, _, _, h => by simp [PyData.eqv] at h
  | .list _, .none, _, _, h => by simp [PyData.eqv] at h
  | .none, .int _, _, _, h => by simp [PyData.eqv] at h
  | .none, .tuple _, _, _, h => by simp [PyData.eqv] at h
  | .none, .list _, _, _, h => by simp [PyData.eqv] at h
  | .bool _, _, h, _, _ => by simp [plainD] at h
  | .str _, _, h, _, _ => by simp [plainD] at h
  | .dict _, _, h, _, _ => by simp [plainD] at h
  | _, .bool _, _, h, _ => by simp [plainD] at h
  | _, .str _, _, h, _ => by simp [plainD] at h
  | _, .dict _, _, h, _ => by simp [plainD] at h
theorem eqv_plainAll : ∀ (ds es : List PyData), plainAllD ds = true → plainAllD es = true → PyData.eqvAll ds es = true → ds = es
  | [], [], _, _, _ => rfl
  | x :: xs, y :: ys, h1, h2, h => by
    simp only [PyData.eqvAll, Bool.and_eq_true] at h
    simp only [plainAllD, Bool.and_eq_true] at h1 h2
    rw [eqv_plain x y h1.1 h2.1 h.1, eqv_plainAll xs ys h1.2 h2.2 h.2]
  | [], _ :: _, _, _, h => by simp [PyData.eqvAll] at h
  | _ :: _, [], _, _, h => by simp [PyData.eqvAll] at h
end
end Ow
set_option maxHeartbeats 1000000
/-! Own layer: every tuple that is made has its object known; pairs out of enumerate and zip, over lists and tuples in any mix. -/
namespace Ow
open PySem PySem.Spec PyProof.Rows L2
open AutoSeq1 (wpAny_loadPart')
theorem laidF {X : Cx} {pins : List (Addr × Obj)} {σ : L2.St} {H : Hp} {s : Shared} {xs : List V} {its : List Value} (I : L2.Inv X pins σ H s) (r : Vals xs its) (hz : xs.length ≤ sizeLine) :
    L2.Inv X pins σ (upd H s.heap.objs.size (.frz { cls := .type "tuple", data := .seq its.toArray } (.tup xs))) { s with heap := s.heap.push { cls := .type "tuple", data := .seq its.toArray } } := by
  have g : (s.heap.push { cls := .type "tuple", data := .seq its.toArray }).get? s.heap.objs.size = some { cls := .type "tuple", data := .seq its.toArray } := Heap.get?_push_size _ rfl
  exact I.laid (t' := s.toks) (fun b o e => Heap.get?_push_of_some _ e) (Nat.le_refl _) (show ObjOk X.prog X.w _ _ _ (.frz _ (.tup xs)) from ⟨g, hz, its, r, ⟨_, g, rfl, _, rfl⟩⟩)
section
variable {X : Cx}
/-- t[lo:hi] -/
def rSlF : V → Option Int → Option Int → Hp → VK → Prop := fun x lo hi H Q => ∃ a xs, x = .ref a ∧ SqF H a xs ∧ (HT.sIx xs.length 0 lo = 0 ∧ HT.sIx xs.length xs.length hi = xs.length → Q (.ref a) H) ∧
  (¬ (HT.sIx xs.length 0 lo = 0 ∧ HT.sIx xs.length xs.length hi = xs.length) → rNewF (cutV xs lo hi) H Q)
theorem sl_tupF : SlR X rSlF := by
  intro pins s σ H x v vl vu lo hi sl Q I rx hs pl pu h
  obtain ⟨a, xs, rfl, hF, q1, q2⟩ := h
  have hx := hF.t (K := X.K)
  cases rx
  obtain ⟨its, r, ht, hz⟩ := I.tuple hx
  have ln : its.toArray.size = xs.length := by rw [List.size_toArray]; exact r.length.symm
  refine ⟨"tuple", _, PyProof.Rows.slot_tuple_getitem.lookup, ht.typeIs, ?_⟩
  by_cases hw : HT.sIx xs.length 0 lo = 0 ∧ HT.sIx xs.length xs.length hi = xs.length
  · exact getItem_tuple_whole ht hs pl pu (by rw [ln]; exact hw) ⟨.ref a, H, I, rfl, q1 hw⟩
  · refine HT.getItem_tuple_cut ht hs pl pu (by rw [ln]; exact hw) ?_ (by rw [ln]; exact hz)
    rw [ln]
    refine ⟨.ref s.heap.objs.size, _, laidF I (xs := cutV xs lo hi) ?_ (Nat.le_trans (cutV_length xs lo hi) hz), rfl, q2 hw _ _ rfl (I.hok.fresh (Nat.le_refl _))⟩
    exact (r.drop (HT.sIx xs.length 0 lo)).take (HT.sIx xs.length xs.length hi - HT.sIx xs.length 0 lo)
/-- t + u -/
def rCatF : R2 := fun x y H Q => ∃ a b xs ys, x = .ref a ∧ y = .ref b ∧ SqF H a xs ∧ SqF H b ys ∧ xs.length + ys.length ≤ sizeLine ∧ (xs = [] → Q (.ref b) H) ∧ (xs ≠ [] → ys = [] → Q (.ref a) H) ∧ (xs ≠ [] → ys ≠ [] → rNewF (xs ++ ys) H Q)
theorem op_catF : OpR X (binaryOp .Add) rCatF := by
  intro pins s σ H x y v u Q I rx ry h
  obtain ⟨a, b, xs, ys, rfl, rfl, fa, fb, hz, q0, q1, q2⟩ := h
  have ha := fa.t (K := X.K)
  have hb := fb.t (K := X.K)
  by_cases hx : xs = []
  · exact op_catA pins s σ H _ _ v u Q I rx ry ⟨a, b, xs, ys, rfl, rfl, ha, hb, hz, q0, fun n => absurd hx n, fun n => absurd hx n⟩
  cases rx
  cases ry
  obtain ⟨its, r1, p1, _⟩ := I.tuple ha
  obtain ⟨its2, r2, p2, _⟩ := I.tuple hb
  have n1 : its ≠ [] := fun e => hx (by
    have := r1.length
    rw [e] at this
    exact List.eq_nil_of_length_eq_zero this)
  refine HT.cat_tup p1 p2 n1 (fun e => ?_) (fun e => ?_) (by rw [← r1.length, ← r2.length]; exact hz)
  · have ey : ys = [] := by
      have := r2.length
      rw [e] at this
      exact List.eq_nil_of_length_eq_zero this
    exact ⟨.ref a, H, I, rfl, q1 hx ey⟩
  · have ey : ys ≠ [] := fun z => e (by
      have := r2.length
      rw [z] at this
      exact List.eq_nil_of_length_eq_zero this.symm)
    exact ⟨.ref s.heap.objs.size, _, laidF I (r1.append r2) (by rw [List.length_append]; exact hz), rfl, q2 hx ey _ _ rfl (I.hok.fresh (Nat.le_refl _))⟩
/-- t * n -/
def rRepF : R2 := fun x y H Q => ∃ l k xs, x = .ref l ∧ y = .int k ∧ SqF H l xs ∧ xs ≠ [] ∧ 2 ≤ k ∧ k ≤ 1000 ∧ xs.length ≤ 1000 ∧ rNewF (List.replicate k.toNat xs).flatten H Q
theorem op_repF : OpR X (binaryOp .Mult) rRepF := by
  intro pins s σ H x y v u Q I rx ry h
  obtain ⟨l, k, xs, rfl, rfl, hF, hne, k2, k3, hl, q⟩ := h
  cases rx
  obtain ⟨t, rfl⟩ := ry
  obtain ⟨its, r, ⟨⟨cl, dd, da, sl⟩, g, hc, n, hd⟩, _⟩ := I.tuple (hF.t (K := X.K))
  simp only at hc hd
  subst hc hd
  have le : its.length = xs.length := r.length.symm
  have ne : its.toArray.isEmpty = false := by
    cases its with
    | nil => exact absurd (List.eq_nil_of_length_eq_zero le.symm) hne
    | cons a b => rfl
  have sz0 : its.toArray.size = xs.length := by rw [List.size_toArray, le]
  have prod : ((its.toArray.size : Nat) : Int) * k ≤ 1000000 := by
    rw [sz0]
    have := Int.mul_le_mul_of_nonneg_right (show ((xs.length : Nat) : Int) ≤ 1000 by omega) (show 0 ≤ k by omega)
    omega
  have prodN : k.toNat * xs.length ≤ 1000 * 1000 := Nat.mul_le_mul (by omega) hl
  have fits : (List.replicate k.toNat its).flatten.length ≤ sizeLine := by
    rw [PyProof.Rows.lm_len_rep_flat, le, sizeLine_eq]
    omega
  have b0 : (decide (k < -(2 ^ 63)) || decide (k ≥ 2 ^ 63)) = false := by
    rw [decide_eq_false (by omega), decide_eq_false (by omega)]
    rfl
  have b1 : (its.toArray.isEmpty || k == 1) = false := by
    rw [ne, Bool.false_or]
    exact beq_eq_false_iff_ne.mpr (by omega)
  have b2 : (decide (k ≤ 0) || its.toArray.isEmpty) = false := by
    rw [ne, Bool.or_false]
    exact decide_eq_false (by omega)
  have b4 : Builtin.Tuple.tupleTooMany (((its.toArray.size : Nat) : Int) * k) = false := by
    unfold Builtin.Tuple.tupleTooMany
    rw [sizeLine_eq]
    exact decide_eq_false (by omega)
  have inner := L2.tuple_mulW l its.toArray n dd sl k t b0 b1 b2 (by omega) b4 (by rw [L2.size_rep, List.size_toArray]; exact fits)
  refine wpAny_binaryOp_repeat_ref (T := "tuple") (U := "int") (by decide) ⟨_, g, rfl⟩ (fun s' => typeIs_int s' k t) L2.noFill_tuple_mul F.fills_int_mul F.slot_int_rmul L2.repeat_tuple F.slot_int_index.lookup ?_
  refine call_meets F.slot_int_rmul (typeIs_int s k t) F.entry_int_rmul (F.args_int_rmul_2 _ _) (L2.int_rmul_tuple k t l its.toArray n dd sl) ⟨g, rfl, ⟨_, g, rfl⟩, ?_⟩
  refine call_meets F.slot_tuple_mul ⟨_, g, rfl⟩ F.entry_tuple_mul (F.args_tuple_mul_2 _ _) inner ⟨g, ?_⟩
  rw [L2.size_rep]
  exact ⟨.ref s.heap.objs.size, _, laidF I (r.rep k.toNat) (by rw [PyProof.Rows.lm_len_rep_flat, sizeLine_eq]; omega), rfl, q _ _ rfl (I.hok.fresh (Nat.le_refl _))⟩
/-- divmod(i, j) -/
theorem call_divmodF : CallR X (.builtin "divmod") (fun xs H Q => ∃ i j, xs = [.int i, .int j] ∧ CDivP i j ∧ rNewF [.int (i / j), .int (i % j)] H Q) := by
  intro pins s σ H xs us Q I r h
  obtain ⟨i, j, rfl, ⟨h1, h2⟩, q⟩ := h
  obtain ⟨u, w', rfl, ⟨t, rfl⟩, ⟨t', rfl⟩⟩ := vals2 r
  refine divmod_int (by omega) ?_ (.inl h2)
  rw [Int.fdiv_eq_ediv_of_nonneg i (by omega), Int.fmod_eq_emod_of_nonneg i (by omega)]
  have g := Heap.get?_push_size s.heap (o := { cls := .type "tuple", data := .seq #[.int (i / j) s.toks, .int (i % j) (s.toks + 1)] }) rfl
  refine ⟨.ref s.heap.objs.size, upd H s.heap.objs.size (.frz { cls := .type "tuple", data := .seq #[.int (i / j) s.toks, .int (i % j) (s.toks + 1)] } (.tup [.int (i / j), .int (i % j)])), I.laid (fun b o e => Heap.get?_push_of_some _ e) (Nat.le_refl _) ?_, rfl, q _ _ rfl (I.hok.fresh (Nat.le_refl _))⟩
  exact ⟨g, by show 2 ≤ sizeLine; decide, [.int (i / j) s.toks, .int (i % j) (s.toks + 1)], .cons ⟨_, rfl⟩ (.cons ⟨_, rfl⟩ .nil), ⟨_, g, rfl, 0, rfl⟩⟩
def tTupRgF (te : L2.St → Hp → (Int → Int → Hp → Prop) → Prop) : TE := fun σ H Q => te σ H fun a b H1 => RgOk a b ∧ rNewF (rgV a b) H1 Q
theorem pe_tupRgF {e : Expr} {te : L2.St → Hp → (Int → Int → Hp → Prop) → Prop} {p pos : Pos} (hc : X.calm = true) (hg : Gl X "tuple") (hm : X.mg "tuple" = none) (he : PRg X e te) (na : starEach [e] X.env = (false, eval e X.env) :: starEach [] X.env := by rfl) :
    PE X (.Call (.Name "tuple" p) [e] [] pos) (tTupRgF te) := by
  refine ⟨fun pins s σ H Q I h => ?_⟩
  refine Call_ (ld_blt I hg hm boot_tuple (PyProof.Rows.callWith_type1 (args_cons (thn (he pins s σ H _ I h) fun x s1 ⟨r, a, b, t, u, v, H1, ex, hr, I1, ok, q⟩ => args_nil ?_) na) na))
  subst ex
  obtain ⟨k1, k2, k3, k4, k5⟩ := ok
  refine call_tuple_range (n := (b - a).toNat) (I1.ok.hd hc) hr (small_one k1 k2 k3 k4) (rangeSize_nat a b) k5 fun h' tk acc hk hi => ?_
  have J : L2.Inv X pins σ H1 { s1 with heap := h', toks := tk } := I1.kept hk
  have vr := vals_rg hi
  have e := laidF J vr (by rw [rgV_length, sizeLine_eq]; omega)
  rw [Array.toArray_toList] at e
  exact ⟨.ref h'.objs.size, _, e, rfl, q _ _ rfl (J.hok.fresh (Nat.le_refl _))⟩
end
/-! ### lists and tuples as sources of pairs -/
inductive Src where
  | l (a : Addr)
  | t (a : Addr)
def Src.ad : Src → Addr
  | .l a => a
  | .t a => a
def SrcAt (K : PySem.W.Frag) (H : Hp) : Src → List V → Prop
  | .l a, xs => SqL K H a xs
  | .t a, xs => SqT K H a xs
def SrcIt (it : Addr) (i : Nat) (h : Heap) : Src → Prop
  | .l a => h.IsListIter it a i
  | .t a => h.IsTupleIter it a i
def SrcIn (h : Heap) (its : Array Value) : Src → Prop
  | .l a => h.IsList a its
  | .t a => h.IsTuple a its
section
variable {X : Cx} {pins : List (Addr × Obj)} {σ : L2.St} {H : Hp} {s : Shared} {src : Src} {xs ys : List V} {it : Addr} {i : Nat} {h h' : Heap}
theorem SrcAt.sm {K : PySem.W.Frag} {H H' : Hp} (q : SrcAt K H src xs) (m : Sm H H') : SrcAt K H' src xs := by
  cases src with
  | l a => exact SqL.sm q m
  | t a => exact SqT.sm q m
theorem src_in (I : L2.Inv X pins σ H s) (q : SrcAt X.K H src xs) : ∃ its, Vals xs its ∧ SrcIn s.heap its.toArray src ∧ src.ad < s.heap.objs.size := by
  cases src with
  | l a =>
    obtain ⟨its, r, p, _⟩ := I.list q
    exact ⟨its, r, p.isList, p.lt⟩
  | t a =>
    obtain ⟨its, r, p, _⟩ := I.tuple q
    exact ⟨its, r, p, p.lt⟩
theorem src_inj (I : L2.Inv X pins σ H s) (q : SrcAt X.K H src xs) (q' : SrcAt X.K H src ys) : xs = ys := by
  cases src with
  | l a => exact I.list_inj q q'
  | t a => exact I.tuple_inj q q'
theorem SrcIt.at' (q : SrcIt it i h src) (k : ∀ o, h.get? it = some o → h'.get? it = some o) : SrcIt it i h' src := by
  cases src with
  | l a => exact Heap.IsListIter.at q k
  | t a => exact Heap.IsTupleIter.at q k
theorem SrcIt.obj (q : SrcIt it i h src) : ∃ o, h.get? it = some o ∧ ∀ v, o.data ≠ .cell v := by
  cases src with
  | l a =>
    obtain ⟨o, g, _, d⟩ := q
    exact ⟨o, g, fun v z => by rw [d] at z; cases z⟩
  | t a =>
    obtain ⟨o, g, _, d⟩ := q
    exact ⟨o, g, fun v z => by rw [d] at z; cases z⟩
theorem SrcIn.at' {its : Array Value} (q : SrcIn h its src) (k : ∀ o, h.get? src.ad = some o → h'.get? src.ad = some o) : SrcIn h' its src := by
  cases src with
  | l a => exact Heap.IsList.at q k
  | t a => exact Heap.IsTuple.at q k
/-- what such an iterator draws, from its i-th turn on -/
theorem src_draws {P : Program} {w : World} {A : Around} (hh : A.handled = none) (src : Src) (it : Addr) (ne : src.ad ≠ it) (its : Array Value) (i : Nat) :
    Draws P w A it [it, src.ad] (max i its.size) (fun j v => its[j]? = some v) (fun j h => i ≤ j ∧ SrcIt it j h src ∧ SrcIn h its src) where
  live := fun j h st => let ⟨o, g, _⟩ := st.2.1.obj; ⟨o, g⟩
  frame := fun j h h' st k => ⟨st.1, st.2.1.at' fun o e => k it (by simp) o e, st.2.2.at' fun o e => k src.ad (by simp) o e⟩
  item := fun j s Q E lt st fin => by
    obtain ⟨l1, q1, q2⟩ := st
    have lj : j < its.size := by omega
    cases src with
    | l a => exact (Draws.list (prog := P) (w := w) hh it a ne its).item j s Q E lj ⟨q1, q2⟩ fun x h' tk px st sb => fin x h' tk px ⟨by omega, st.1, st.2⟩ sb
    | t a => exact (Draws.tuple (prog := P) (w := w) hh it a ne its).item j s Q E lj ⟨q1, q2⟩ fun x h' tk px st sb => fin x h' tk px ⟨by omega, st.1, st.2⟩ sb
  done := fun s Q E st fin => by
    obtain ⟨l1, q1, q2⟩ := st
    have none' : its[max i its.size]? = none := Array.getElem?_eq_none (by omega)
    cases src with
    | l a => exact wpAny_nextOf_list_end hh q1 q2 none' fin
    | t a => exact wpAny_nextOf_tuple_end hh q1 q2 none' fin
theorem src_begins (src : Src) (its : Array Value) : ∃ o, Begins (.ref src.ad) o (fun h => SrcIn h its src) ∧ ∀ h it, h.get? it = some o → SrcIt it 0 h src := by
  cases src with
  | l a => exact ⟨_, begins_list a its, fun h it g => ⟨_, g, rfl, rfl⟩⟩
  | t a => exact ⟨_, begins_tuple a its, fun h it g => ⟨_, g, rfl, rfl⟩⟩
end
/-- pairs: x and y in a new tuple whose object is known -/
def YPairF (fx fy : Nat → Option V) (i : Nat) (H : Hp) (v : V) (H' : Hp) : Prop := ∃ T ob x y, v = .ref T ∧ H T = none ∧ ob.dict = none ∧ H' = upd H T (.frz ob (.tup [x, y])) ∧ fx i = some x ∧ fy i = some y
theorem pair_laid {X : Cx} {pins : List (Addr × Obj)} {σ : L2.St} {H : Hp} {s : Shared} {h2 : Heap} {t : Nat} {x y : V} {u u2 : Value} {ch : List Addr} (I : L2.Inv X pins σ H s) (ru : RelV x u) (ru2 : RelV y u2)
    (g : h2.get? s.heap.objs.size = some { cls := .type "tuple", data := .seq #[u, u2] }) (kp : ∀ b ob, b ∉ ch → s.heap.get? b = some ob → h2.get? b = some ob) (hf : ∀ b ∈ ch, FpOk X pins H b) :
    L2.Inv X pins σ (upd H s.heap.objs.size (.frz { cls := .type "tuple", data := .seq #[u, u2] } (.tup [x, y]))) { s with heap := h2, toks := t } :=
  I.turnedNew (t' := t) (ch := ch) kp hf (Nat.le_refl _) (show ObjOk X.prog X.w _ _ _ (.frz _ (.tup [x, y])) from ⟨g, by show 2 ≤ sizeLine; decide, [u, u2], .cons ru (.cons ru2 .nil), ⟨_, g, rfl, _, rfl⟩⟩)
/-! enumerate -/
def ItE (K : PySem.W.Frag) (src : Src) : It :=
  ⟨fun i H => ∃ (xs : List V) (x : V), SrcAt K H src xs ∧ xs[i]? = some x, fun i H v H' => ∃ T ob x, v = .ref T ∧ H T = none ∧ ob.dict = none ∧ H' = upd H T (.frz ob (.tup [.int (i : Nat), x])) ∧ ∀ xs, SrcAt K H src xs → xs[i]? = some x,
    fun i H => ∃ xs : List V, SrcAt K H src xs ∧ xs.length ≤ i⟩
theorem turn_enumF {P : Program} {w : World} {K : PySem.W.Frag} {elts : List Expr} {kk : Nat} {tpos : Pos} (src : Src) (e it : Addr) :
    Turn P w K (.Tuple elts kk tpos) (ItE K src) [e, it] e (fun i h => (∃ old, IsEnum h e it ((i : Nat) : Int) old) ∧ SrcIt it i h src ∧ e ≠ it ∧ src.ad ≠ it ∧ e ≠ src.ad) where
  mem := List.mem_cons_self
  obj := fun i h st b hb => by
    obtain ⟨⟨old, g⟩, ti, _⟩ := st
    rcases List.mem_cons.mp hb with z | z
    · rw [z]
      exact ⟨_, g, fun v q => nomatch q⟩
    · rw [List.mem_singleton.mp z]
      exact ti.obj
  keep := fun i h h' st k => by
    obtain ⟨⟨old, g⟩, t, r⟩ := st
    exact ⟨⟨old, k e (by simp) _ g⟩, t.at' fun o q => k it (by simp) o q, r⟩
  item := by
    intro X hP hw hK hc i pins s σ H E I hf st hg
    subst hP hw hK
    obtain ⟨⟨old, g⟩, ti, n1, n2, n3⟩ := st
    obtain ⟨xs, x, hq, hx⟩ := hg
    obtain ⟨its, rv, p, _⟩ := src_in I hq
    obtain ⟨u, hu, ru⟩ := rv.get hx
    have le : e < s.heap.objs.size := Heap.lt_size g
    have li : it < s.heap.objs.size := by
      obtain ⟨_, q, _⟩ := ti.obj
      exact Heap.lt_size q
    have D := src_draws (P := X.prog) (w := X.w) (A := X.A.in1) (I.ok.hd hc) src it n2 its.toArray i
    have lt : i < its.toArray.size := by
      have := (List.getElem?_eq_some_iff.mp hu).1
      simpa using this
    have nf : e ∉ [it, src.ad] := by simp [n1, n3]
    refine wpAny_pyNext_enum_itemC D g ⟨Nat.le_refl _, ti, p⟩ (by omega) n1 nf fun y h' tk hy ho ti' hT hsz hk => ?_
    obtain rfl : y = u := by
      have hy : its.toArray[i]? = some y := hy
      rw [List.getElem?_toArray, hu] at hy
      exact (Option.some.inj hy).symm
    refine ⟨_, rfl, wpAny_letOwnedTupleGo_enum (s := { s with heap := h', toks := tk + 1 }) ho fun h2 g2 sb => ?_⟩
    have hT2 : h2.get? s.heap.objs.size = some { cls := .type "tuple", data := .seq #[.int i tk, y] } := (sb.2 _ (Nat.ne_of_gt le)).trans hT
    have J := pair_laid (t := tk + 1) (ch := [e, it]) (x := .int (i : Nat)) I ⟨_, rfl⟩ ru hT2 (fun b ob hb q => (sb.2 b (fun z => hb (by simp [z]))).trans (hk b ob (fun z => hb (by simp [z])) (fun z => hb (by simp [z])) q)) hf
    refine ⟨.ref s.heap.objs.size, _, J, rfl, ⟨_, _, x, rfl, I.hok.fresh (Nat.le_refl _), rfl, rfl, fun ys hy => ?_⟩, ⟨⟨y, ?_⟩, ti'.2.1.at' fun o q => (sb.2 it (Ne.symm n1)).trans q, n1, n2, n3⟩, fun b hb => ?_⟩
    · rw [src_inj I hy hq]
      exact hx
    · have e1 : ((i + 1 : Nat) : Int) = (i : Int) + 1 := by omega
      rw [e1]
      exact g2
    · have lb : b < s.heap.objs.size := by
        rcases List.mem_cons.mp hb with z | z
        · rw [z]
          exact le
        · rw [List.mem_singleton.mp z]
          exact li
      rw [upd_ne (Nat.ne_of_lt lb)]
      exact (hf b hb).1
  done := by
    intro X hP hw hK hc i pins s σ H E I hf st hg
    subst hP hw hK
    obtain ⟨⟨old, g⟩, ti, n1, n2, n3⟩ := st
    obtain ⟨xs, hq, hx⟩ := hg
    obtain ⟨its, rv, p, _⟩ := src_in I hq
    obtain ⟨f0, f1, f2, f3, f4, f5⟩ := hf it (by simp)
    have ln := rv.length
    have D := src_draws (P := X.prog) (w := X.w) (A := X.A.in1) (I.ok.hd hc) src it n2 its.toArray i
    have em : max i its.toArray.size = i := by
      rw [List.size_toArray]
      omega
    rw [em] at D
    exact wpAny_pyNext_enum_endD D g ⟨Nat.le_refl _, ti, p⟩ fun h' eb => ⟨rfl, I.turned (t' := s.toks) (fun b o hb q => eb b o hb q) f0 f1 f3 f4 f5⟩
  self := fun A i s Q E st h => by
    obtain ⟨⟨_, g⟩, _⟩ := st
    exact wpAny_pyIter_enum g h
theorem enum_one {v : Value} {o : Obj} {G : Heap → Prop} (B : Begins v o G) : Meets (Builtin.«enumerate.__new__» ⟨[.type "enumerate", v], []⟩) (fun _ R s => G s.heap ∧
    R (.ok (.ret (.ref (s.heap.push o).objs.size))) { s with heap := (s.heap.push o).push { cls := .type "enumerate", data := .fields #[.none, .bool false, .ref s.heap.objs.size, rawInt 0, .none, .none] } }) :=
  .of_wp fun prog w A R st z => by
    obtain ⟨hp, gn, dr, tk, os⟩ := st
    obtain ⟨z1, z2⟩ := z
    have sb := sub_enumerate
    have step : ∀ {A' : Around} {E : Value → Shared → Prop} {Q : Value → Shared → Prop}, Q (.ref hp.objs.size) ⟨hp.push o, gn, dr, tk, os⟩ → wpAny (model prog w) A' (pyIter v) Q E ⟨hp, gn, dr, tk, os⟩ :=
      fun q => B.iter prog w _ _ ⟨hp, gn, dr, tk, os⟩ _ z1 q
    wp_walk using step
    refine wpAny_stack_any fun frames => wpAny_pure ?_
    split
    · rename_i c _ _ _ _ _
      cases (c == Value.type "enumerate") <;>
      · wp_walk using step
        exact ⟨_, rfl, z2⟩
    · wp_walk using step
      exact ⟨_, rfl, z2⟩
theorem enum_call {prog : Program} {w : World} {A : Around} {E : Value → Shared → Prop} {s : Shared} {v : Value} {o : Obj} {G : Heap → Prop} {Q : Value → Shared → Prop} (B : Begins v o G) (z1 : G s.heap)
    (h : ∀ h', IsEnum h' (s.heap.objs.size + 1) s.heap.objs.size 0 .none → h'.get? s.heap.objs.size = some o → (∀ b u, s.heap.get? b = some u → h'.get? b = some u) → Q (.ref (s.heap.objs.size + 1)) { s with heap := h' }) :
    wpAny (model prog w) A (call (.type "enumerate") [v]) Q E s := by
  refine callType_new F.called_enumerate (by decide) (F.typeCall_enumerate_1 _) (F.newCall_enumerate_1 _) (fun x => F.args_object_init_2 x _) F.entry_enumerate_new (enum_one B) ⟨z1, ?_⟩
  have zs : (s.heap.push o).objs.size = s.heap.objs.size + 1 := Heap.size_push ..
  show _ ∧ _
  rw [zs]
  have ie : IsEnum ((s.heap.push o).push { cls := .type "enumerate", data := .fields #[.none, .bool false, .ref s.heap.objs.size, rawInt 0, .none, .none] }) (s.heap.objs.size + 1) s.heap.objs.size 0 .none := by
    have t := Heap.get?_push_size (s.heap.push o) (o := { cls := .type "enumerate", data := .fields #[.none, .bool false, .ref s.heap.objs.size, rawInt 0, .none, .none] }) rfl
    rw [zs] at t
    exact t
  exact ⟨⟨_, ie, rfl⟩, h _ ie (Heap.get?_push_of_some _ (Heap.get?_push_size _ B.free)) fun b u x => Heap.get?_push_of_some _ (Heap.get?_push_of_some _ x)⟩
def iEnumF (K : PySem.W.Frag) (ta : TA) : TI := fun σ H R => ta σ H fun vs H1 => ∃ (src : Src) (xs : List V), vs = [.ref src.ad] ∧ SrcAt K H1 src xs ∧ R (ItE K src) H1
theorem pi_enumF {X : Cx} {e : Expr} {ta : TA} {p pos tpos : Pos} {elts : List Expr} {kk : Nat} (hg : Gl X "enumerate") (hm : X.mg "enumerate" = none) (ha : PA X [e] ta) (hs : starEach [e] X.env = [(false, eval e X.env)] := by rfl) :
    PI X (.Tuple elts kk tpos) (.Call (.Name "enumerate" p) [e] [] pos) (iEnumF X.K ta) := by
  refine ⟨fun pins s σ H R I h => ?_⟩
  refine Call_ (ld_blt I hg hm boot_enumerate (PyProof.Rows.callWith_type1 (thn (ha.run pos pins s σ H _ I h) fun us s1 ⟨vs, H1, I1, r1, src, xs, ex, hq, q⟩ => ?_) hs rfl))
  subst ex
  cases r1 with
  | cons r rr =>
    cases rr
    cases r
    have fpo : ∀ b ∈ [s1.heap.objs.size + 1, s1.heap.objs.size], FpOk X pins H1 b := fun b hb => by
      have ge : s1.heap.objs.size ≤ b := by
        rcases List.mem_cons.mp hb with z | z
        · rw [z]
          exact Nat.le_add_right _ _
        · rw [List.mem_singleton.mp z]
          exact Nat.le_refl _
      exact I1.fpOk ge (I1.hok.fresh ge)
    obtain ⟨its, rv, p', la⟩ := src_in I1 hq
    obtain ⟨o, B, st⟩ := src_begins src its.toArray
    refine enum_call B p' fun h' g gi hk => wpAny_pyIter_enum g ?_
    exact ⟨s1.heap.objs.size + 1, [s1.heap.objs.size + 1, s1.heap.objs.size], _, _, H1, rfl, I1.kept (t' := s1.toks) hk, turn_enumF src (s1.heap.objs.size + 1) s1.heap.objs.size,
      ⟨⟨.none, g⟩, st _ _ gi, Nat.succ_ne_self _, Nat.ne_of_lt la, Nat.ne_of_gt (Nat.lt_succ_of_lt la)⟩, fpo, q⟩
theorem walk_enumF {K : PySem.W.Frag} {src : Src} {xs : List V} : Walk (ItE K src) xs.length (fun H => SrcAt K H src xs) (YPairF (fun i => some (.int (i : Nat))) (fun i => xs[i]?)) := by
  refine ⟨fun i _ hi q => ⟨xs, xs[i], q, by simp [hi]⟩, fun _ q => ⟨xs, q, Nat.le_refl _⟩, fun i H v H' _ q y => ?_⟩
  obtain ⟨T, ob, x, h1, h2, h3, h4, h5⟩ := y
  exact ⟨T, ob, .int (i : Nat), x, h1, h2, h3, h4, rfl, h5 xs q⟩
end Ow
set_option maxHeartbeats 1000000
/-! Own layer: zip of two lists or tuples, in any mix. -/
namespace Ow
open PySem PySem.Spec PyProof.Rows L2
def ItZ (K : PySem.W.Frag) (s1 s2 : Src) : It :=
  ⟨fun i H => ∃ (xs ys : List V) (x y : V), SrcAt K H s1 xs ∧ SrcAt K H s2 ys ∧ xs[i]? = some x ∧ ys[i]? = some y,
    fun i H v H' => ∃ T ob x y, v = .ref T ∧ H T = none ∧ ob.dict = none ∧ H' = upd H T (.frz ob (.tup [x, y])) ∧ (∀ xs, SrcAt K H s1 xs → xs[i]? = some x) ∧ ∀ ys, SrcAt K H s2 ys → ys[i]? = some y,
    fun i H => ∃ xs ys : List V, SrcAt K H s1 xs ∧ SrcAt K H s2 ys ∧ (xs.length ≤ i ∨ ys.length ≤ i)⟩
structure Sep (z TI TO i1 i2 : Addr) (s1 s2 : Src) : Prop where
  sp : ZipSep2 z TI TO i1 i2 [i1, s1.ad] [i2, s2.ad]
  n1 : s1.ad ≠ i1
  n2 : s2.ad ≠ i2
theorem pair_of {h : Heap} {a : Addr} {x y : Value} (q : IsTupOf2 h a x y) : h.get? a = some { cls := .type "tuple", data := .seq #[x, y] } := q
theorem turn_zipF {P : Program} {w : World} {K : PySem.W.Frag} {elts : List Expr} {kk : Nat} {tpos : Pos} {s1 s2 : Src} {z TI TO i1 i2 : Addr} (D : Sep z TI TO i1 i2 s1 s2) :
    Turn P w K (.Tuple elts kk tpos) (ItZ K s1 s2) [z, TI, TO, i1, i2] z (fun i h => IsZip h z TI TO .none ∧ IsTupOf2 h TI (.ref i1) (.ref i2) ∧ (∃ x y, IsTupOf2 h TO x y) ∧ SrcIt i1 i h s1 ∧ SrcIt i2 i h s2) where
  mem := List.mem_cons_self
  obj := fun i h st c hc => by
    obtain ⟨gz, gI, ⟨x, y, gO⟩, t1, t2⟩ := st
    simp only [List.mem_cons, List.not_mem_nil, or_false] at hc
    rcases hc with rfl | rfl | rfl | rfl | rfl
    · exact ⟨_, gz, fun v q => nomatch q⟩
    · exact ⟨_, pair_of gI, fun v q => nomatch q⟩
    · exact ⟨_, pair_of gO, fun v q => nomatch q⟩
    · exact t1.obj
    · exact t2.obj
  keep := fun i h h' st k => by
    obtain ⟨gz, gI, ⟨x, y, gO⟩, t1, t2⟩ := st
    exact ⟨k z (by simp) _ gz, k TI (by simp) _ gI, ⟨x, y, k TO (by simp) _ gO⟩, t1.at' fun o q => k i1 (by simp) o q, t2.at' fun o q => k i2 (by simp) o q⟩
  item := by
    intro X hP hw hK hc i pins s σ H E I hf st hg
    subst hP hw hK
    obtain ⟨gz, gI, ⟨x0, y0, gO⟩, t1, t2⟩ := st
    obtain ⟨xs, ys, x, y, hqx, hqy, hx, hy⟩ := hg
    obtain ⟨its, rv, p, _⟩ := src_in I hqx
    obtain ⟨its2, rv2, p2, _⟩ := src_in I hqy
    obtain ⟨u, hu, ru⟩ := rv.get hx
    obtain ⟨u2, hu2, ru2⟩ := rv2.get hy
    have lz : z < s.heap.objs.size := Heap.lt_size gz
    have D1 := src_draws (P := X.prog) (w := X.w) (A := X.A.in1) (I.ok.hd hc) s1 i1 D.n1 its.toArray i
    have D2 := src_draws (P := X.prog) (w := X.w) (A := X.A.in1) (I.ok.hd hc) s2 i2 D.n2 its2.toArray i
    have l1 : i < its.toArray.size := by
      have := (List.getElem?_eq_some_iff.mp hu).1
      simpa using this
    have l2 : i < its2.toArray.size := by
      have := (List.getElem?_eq_some_iff.mp hu2).1
      simpa using this
    refine wpAny_pyNext_zipD2_item D.sp D1 D2 gz gI gO ⟨Nat.le_refl _, t1, p⟩ ⟨Nat.le_refl _, t2, p2⟩ (by omega) (by omega) fun w1 w2 h' tk e1 e2 gz' gO' t1' t2' hT hsz hk => ?_
    obtain rfl : w1 = u := by
      have e1 : its.toArray[i]? = some w1 := e1
      rw [List.getElem?_toArray, hu] at e1
      exact (Option.some.inj e1).symm
    obtain rfl : w2 = u2 := by
      have e2 : its2.toArray[i]? = some w2 := e2
      rw [List.getElem?_toArray, hu2] at e2
      exact (Option.some.inj e2).symm
    refine ⟨_, rfl, wpAny_letOwnedTupleGo_zip (s := { s with heap := h', toks := tk }) gz' fun h2 gz2 sb => ?_⟩
    have hT2 : h2.get? s.heap.objs.size = some { cls := .type "tuple", data := .seq #[w1, w2] } := (sb.2 _ (Nat.ne_of_gt lz)).trans (pair_of hT)
    have J := pair_laid (t := tk) (ch := [z, TI, TO, i1, i2]) I ru ru2 hT2 (fun c o hb q => (sb.2 c (fun q' => hb (by simp [q']))).trans (hk c o (fun q' => hb (by simp [q'])) (fun q' => hb (by simp [q'])) (fun q' => hb (by simp [q'])) (fun q' => hb (by simp [q'])) q)) hf
    refine ⟨.ref s.heap.objs.size, _, J, rfl, ⟨_, _, x, y, rfl, I.hok.fresh (Nat.le_refl _), rfl, rfl, fun l hl => by rw [src_inj I hl hqx]; exact hx, fun l hl => by rw [src_inj I hl hqy]; exact hy⟩, ⟨gz2, ?_, ⟨w1, w2, ?_⟩, ?_, ?_⟩, fun c hcm => ?_⟩
    · exact (sb.2 _ D.sp.TIz).trans (hk _ _ D.sp.TIz D.sp.TITO D.sp.TIi1 D.sp.TIi2 gI)
    · exact (sb.2 _ D.sp.TOz).trans gO'
    · exact t1'.2.1.at' fun o q => (sb.2 _ (Ne.symm D.sp.zi1)).trans q
    · exact t2'.2.1.at' fun o q => (sb.2 _ (Ne.symm D.sp.zi2)).trans q
    · have lc : c < s.heap.objs.size := by
        simp only [List.mem_cons, List.not_mem_nil, or_false] at hcm
        rcases hcm with rfl | rfl | rfl | rfl | rfl
        · exact lz
        · exact Heap.lt_size (pair_of gI)
        · exact Heap.lt_size (pair_of gO)
        · obtain ⟨_, e1, _⟩ := t1.obj
          exact Heap.lt_size e1
        · obtain ⟨_, e2, _⟩ := t2.obj
          exact Heap.lt_size e2
      rw [upd_ne (Nat.ne_of_lt lc)]
      exact (hf c hcm).1
  done := by
    intro X hP hw hK hc i pins s σ H E I hf st hg
    subst hP hw hK
    obtain ⟨gz, gI, ⟨x0, y0, gO⟩, t1, t2⟩ := st
    obtain ⟨xs, ys, hqx, hqy, hend⟩ := hg
    obtain ⟨its, rv, p, _⟩ := src_in I hqx
    obtain ⟨its2, rv2, p2, _⟩ := src_in I hqy
    have l1 := rv.length
    have l2 := rv2.length
    have D1 := src_draws (P := X.prog) (w := X.w) (A := X.A.in1) (I.ok.hd hc) s1 i1 D.n1 its.toArray i
    have D2 := src_draws (P := X.prog) (w := X.w) (A := X.A.in1) (I.ok.hd hc) s2 i2 D.n2 its2.toArray i
    have e1 : its.toArray.size = xs.length := by rw [List.size_toArray]; omega
    have e2 : its2.toArray.size = ys.length := by rw [List.size_toArray]; omega
    refine wpAny_pyNext_zipD2_end D.sp D1 D2 gz gI gO ⟨Nat.le_refl _, t1, p⟩ ⟨Nat.le_refl _, t2, p2⟩ (by omega) (by omega) (by omega) fun h' tk hk => ⟨rfl, I.turnedL (t' := tk) (ch := [z, TI, TO, i1, i2]) (fun c o hb q =>
      hk c o (fun q' => hb (by simp [q'])) (fun q' => hb (by simp [q'])) (fun q' => hb (by simp [q'])) (fun q' => hb (by simp [q'])) q) hf⟩
  self := fun A i s Q E st h => wpAny_pyIter_zip st.1 h
theorem sep_new {N : Nat} {s1 s2 : Src} (h1 : s1.ad < N) (h2 : s2.ad < N) : Sep (N + 4) (N + 2) (N + 3) N (N + 1) s1 s2 :=
  ⟨zip_sep2 (N := N) (fp1 := [s1.ad]) (fp2 := [s2.ad]) (fun b hb => by rw [List.mem_singleton.mp hb]; exact h1) (fun b hb => by rw [List.mem_singleton.mp hb]; exact h2), Nat.ne_of_lt h1, Nat.ne_of_lt (Nat.lt_succ_of_lt h2)⟩
def iZipF (K : PySem.W.Frag) (ta : TA) : TI := fun σ H R => ta σ H fun vs H1 => ∃ (s1 s2 : Src) (xs ys : List V), vs = [.ref s1.ad, .ref s2.ad] ∧ SrcAt K H1 s1 xs ∧ SrcAt K H1 s2 ys ∧ R (ItZ K s1 s2) H1
theorem pi_zipF {X : Cx} {e e2 : Expr} {ta : TA} {p pos tpos : Pos} {elts : List Expr} {kk : Nat} (hg : Gl X "zip") (hm : X.mg "zip" = none) (ha : PA X [e, e2] ta)
    (hs : starEach [e, e2] X.env = (false, eval e X.env) :: starEach [e2] X.env := by rfl) (hpl : (backTo pos (starEach [e2] X.env)).any (·.1) = false := by rfl) :
    PI X (.Tuple elts kk tpos) (.Call (.Name "zip" p) [e, e2] [] pos) (iZipF X.K ta) := by
  refine ⟨fun pins s σ H R I h => ?_⟩
  refine Call_ (ld_blt I hg hm PyProof.Rows.boot_zip (PyProof.Rows.callWith_type1 (thn (ha.run pos pins s σ H _ I h) fun us t1 ⟨vs, H1, I1, r1, a, b, xs, ys, ex, hqx, hqy, q⟩ => ?_) hs hpl))
  subst ex
  cases r1 with
  | cons r rr =>
    cases rr with
    | cons r' rr =>
      cases rr
      cases r
      cases r'
      have fresh : ∀ c, c ∈ [t1.heap.objs.size + 4, t1.heap.objs.size + 2, t1.heap.objs.size + 3, t1.heap.objs.size, t1.heap.objs.size + 1] → FpOk X pins H1 c := fun c hm => by
        have ge : t1.heap.objs.size ≤ c := by
          simp only [List.mem_cons, List.not_mem_nil, or_false] at hm
          rcases hm with z | z | z | z | z <;> rw [z]
          · exact Nat.le_add_right _ _
          · exact Nat.le_add_right _ _
          · exact Nat.le_add_right _ _
          · exact Nat.le_refl _
          · exact Nat.le_add_right _ _
        exact I1.fpOk ge (I1.hok.fresh ge)
      obtain ⟨its, rv, p1, la⟩ := src_in I1 hqx
      obtain ⟨its2, rv2, p2, lb⟩ := src_in I1 hqy
      obtain ⟨o1, B1, st1⟩ := src_begins a its.toArray
      obtain ⟨o2, B2, st2⟩ := src_begins b its2.toArray
      refine zip_begins2 B1 B2 p1 p2 fun h' gz gI gO g1 g2 hsz hk => wpAny_pyIter_zip gz ?_
      exact ⟨t1.heap.objs.size + 4, [t1.heap.objs.size + 4, t1.heap.objs.size + 2, t1.heap.objs.size + 3, t1.heap.objs.size, t1.heap.objs.size + 1], _, _, H1, rfl, I1.kept (t' := t1.toks) hk, turn_zipF (sep_new la lb), ⟨gz, gI, ⟨_, _, gO⟩, st1 _ _ g1, st2 _ _ g2⟩, fresh, q⟩
theorem walk_zipF {K : PySem.W.Frag} {a b : Src} {xs ys : List V} {n : Nat} (hn : n = min xs.length ys.length) : Walk (ItZ K a b) n (fun H => SrcAt K H a xs ∧ SrcAt K H b ys) (YPairF (fun i => xs[i]?) (fun i => ys[i]?)) := by
  subst hn
  refine ⟨fun i _ hi q => ?_, fun _ q => ⟨xs, ys, q.1, q.2, by omega⟩, fun i H v H' _ q y => ?_⟩
  · have h1 : i < xs.length := by omega
    have h2 : i < ys.length := by omega
    exact ⟨xs, ys, xs[i], ys[i], q.1, q.2, by simp [h1], by simp [h2]⟩
  · obtain ⟨T, ob, x, z, h1, h2, h3, h4, h5, h6⟩ := y
    exact ⟨T, ob, x, z, h1, h2, h3, h4, h5 xs q.1, h6 ys q.2⟩
end Ow
set_option maxHeartbeats 1000000
/-! Calls of defs that may raise: what is wished of an exception depends on the caller's slots. -/
namespace Ow
open PySem PySem.Spec PyProof.Rows L2
section
variable {X : Cx} {CX : CXT} {k j : Nat} {ps ks : List Str} {sp : Sp} {E : L2.St → XK} {y x : Str} {st : Stmt} {p pos : Pos} {e : Expr} {es : List Expr} {kws : List Keyword} {t tk : TA}
theorem Prm.calledS {pins : List (Addr × Obj)} {σ : L2.St} {H : Hp} {s : Shared} {Q : VK} {us : List Value} {vs : List V} {f : Addr} {fd : FuncData} {pairs : List (Str × Value)} {first : List Value}
    (F : Prm X.prog X.w X.K X.mg X.base CX k f fd ps sp) (hr : Room k X.A) (hg : X.A.guards = some []) (hx : ∀ σ, PassesAt CX X σ (E σ)) (I : Inv X pins σ H s) (r : Vals vs us)
    (hb : bindArgs fd ⟨first, pairs⟩ = pure (ps.zip us)) (h : sp vs H Q (E σ)) : wpAny (model X.prog X.w) X.A (call (.ref f) first pairs) (EP X pins σ Q) X.xe s := by
  refine wpAny_call (codeAny_mono (F.go X.A X.stack s H ⟨first, pairs⟩ us vs Q (E σ) hg hr I.env0 (.of_eq hb) r h) ?_)
  intro res s' hq
  cases res with
  | error er => exact hx σ pins H s er s' I hq
  | ok fl =>
    cases fl with
    | ret u => exact I.after hq
    | next => exact hq.elim
    | brk => exact hq.elim
    | cont => exact hq.elim
theorem pe_dS (D : DfA X.prog X.w X.K X.mg X.base CX k y x st ps sp) (hr : Room j X.A) (hk : k ≤ j) (hg : X.A.guards = some []) (hx : ∀ σ, PassesAt CX X σ (E σ))
    (gl : Gl X y) (ha : PA X (e :: es) t) (hdb : (y == ("__debug__" : Str)) = false := by decide) (he : starEach (e :: es) X.env = (false, eval e X.env) :: starEach es X.env := by rfl)
    (hpl : (backTo pos (starEach es X.env)).any (·.1) = false := by rfl) : PE X (.Call (.Name y p) (e :: es) [] pos) (tCallS sp E t) := by
  obtain ⟨f, fd, hm, F, G⟩ := D.ex
  refine ⟨fun pins s σ H Q I h => ?_⟩
  refine wpAny_Call_Name_kw (ld_glob I gl hm ?_ hdb)
  refine PySem.W.callWith_K (h₀ := X.base) I.ok.mod.kin F.kp ?_ he hpl
  refine thn (ha.run pos pins s σ H _ I h) ?_
  rintro us s1 ⟨vs, H1, I1, r, q⟩
  refine ⟨I1.kIn, ?_⟩
  refine G.calledS (pairs := []) (first := us) (hr.mono hk) hg hx I1 r ?_ q
  obtain ⟨oc, od, kV, doc, pm, an, cdv, ct, osl, rfl, _, _⟩ := F.ex
  exact D.bd kV doc pm an cdv ct us (by rw [← r.length]; exact G.len _ _ _ _ q)
def tCallKwS (n m : Nat) (sp : Sp) (ix : List Nat) (E : L2.St → XK) (t tk : TA) : TE := fun σ H Q => t σ H fun vs H1 => tk σ H1 fun zs H2 => vs.length = n ∧ zs.length = m ∧ sp (putIn .non ix vs zs) H2 Q (E σ)
theorem pe_dkS {n : Nat} {ix : List Nat} (D : DfA X.prog X.w X.K X.mg X.base CX k y x st ps sp) (hr : Room j X.A) (hk : k ≤ j) (hg : X.A.guards = some []) (hx : ∀ σ, PassesAt CX X σ (E σ)) (wy : Way x st ps n ks ix)
    (gl : Gl X y) (ha : PA X (e :: es) t) (hkw : PK X kws tk) (hall : (backToKw pos (keywordEach kws X.env)).all (·.1.isSome) = true := by rfl) (hks : (backToKw pos (keywordEach kws X.env)).filterMap (·.1) = ks := by rfl)
    (hdb : (y == ("__debug__" : Str)) = false := by decide) (he : starEach (e :: es) X.env = (false, eval e X.env) :: starEach es X.env := by rfl)
    (hpl : ((backTo pos (starEach (e :: es) X.env)).any (·.1) || (backToKw pos (keywordEach kws X.env)).any (·.1.isNone)) = false := by rfl) :
    PE X (.Call (.Name y p) (e :: es) kws pos) (tCallKwS n ks.length sp ix E t tk) := by
  obtain ⟨f, fd, hm, F, G⟩ := D.ex
  refine ⟨fun pins s σ H Q I h => ?_⟩
  refine wpAny_Call_Name_kw (ld_glob I gl hm ?_ hdb)
  refine PySem.W.callWith_KW (h₀ := X.base) I.ok.mod.kin F.kp hall ?_ hpl he
  refine thn (ha.run pos pins s σ H _ I h) ?_
  rintro us s1 ⟨vs, H1, I1, r, q⟩
  refine thn (hkw.run pos pins s1 σ H1 _ I1 q) ?_
  rintro ws s2 ⟨zs, H2, I2, rz, l1, l2, q2⟩
  refine ⟨I2.kIn, ?_⟩
  rw [hks]
  refine G.calledS (pairs := ks.zip ws) (first := us) (hr.mono hk) hg hx I2 (vals_put r rz ix) ?_ q2
  obtain ⟨oc, od, kV, doc, pm, an, cdv, ct, osl, rfl, _, _⟩ := F.ex
  exact wy kV doc pm an cdv ct us ws (r.length.symm.trans l1) (rz.length.symm.trans l2)
theorem pe_dk0S {ix : List Nat} (D : DfA X.prog X.w X.K X.mg X.base CX k y x st ps sp) (hr : Room j X.A) (hk : k ≤ j) (hg : X.A.guards = some []) (hx : ∀ σ, PassesAt CX X σ (E σ)) (wy : Way x st ps 0 ks ix)
    (gl : Gl X y) (hkw : PK X kws tk) (hall : (backToKw pos (keywordEach kws X.env)).all (·.1.isSome) = true := by rfl) (hks : (backToKw pos (keywordEach kws X.env)).filterMap (·.1) = ks := by rfl)
    (hdb : (y == ("__debug__" : Str)) = false := by decide)
    (hpl : ((backTo pos (starEach [] X.env)).any (·.1) || (backToKw pos (keywordEach kws X.env)).any (·.1.isNone)) = false := by rfl) :
    PE X (.Call (.Name y p) [] kws pos) (tCallKwS 0 ks.length sp ix E tNil tk) := by
  obtain ⟨f, fd, hm, F, G⟩ := D.ex
  refine ⟨fun pins s σ H Q I h => ?_⟩
  refine wpAny_Call_Name_kw (ld_glob I gl hm ?_ hdb)
  refine PySem.W.callWith_KW0 (h₀ := X.base) I.ok.mod.kin F.kp hall ?_ hpl
  refine thn (hkw.run pos pins s σ H _ I h) ?_
  rintro ws s2 ⟨zs, H2, I2, rz, l1, l2, q2⟩
  refine ⟨I2.kIn, ?_⟩
  rw [hks]
  refine G.calledS (pairs := ks.zip ws) (first := []) (hr.mono hk) hg hx I2 (vals_put .nil rz ix) ?_ q2
  obtain ⟨oc, od, kV, doc, pm, an, cdv, ct, osl, rfl, _, _⟩ := F.ex
  exact wy kV doc pm an cdv ct [] ws rfl (rz.length.symm.trans l2)
/-- a call that raises nothing now -/
theorem passE0 {P : Program} {w : World} {X : Cx} : Passes (L2.CX P w) X E0 := fun _ _ _ _ _ _ _ ⟨_, _, _, _, _, _, _, _, _, _, _, _, z⟩ => z.elim
end
section
variable {P : Program} {w : World} {K : PySem.W.Frag} {mg : Str → Option Value} {base : Heap}
/-- a def that may let an exception out, by its body -/
theorem df_ofX {y x : Str} {st : Stmt} {N ps : List Str} {k : Nat} {sp : Sp} (F : StandsA K mg y x st) (S : FnScope N ps (defScope st)) (bd : Bind x st ps)
    (len : ∀ vs H Q E, sp vs H Q E → vs.length = ps.length)
    (hbody : ∀ (cdv : Value) (A : Around) (outer : List Env) (s : Shared) (H : Hp) (vs : List V) (Q : VK) (E : XK) (f : Addr), A.guards = some [] →
      Room k (A.deeper (envOfC x (defScope st) s.heap.objs.size f cdv)) → sp vs H Q E →
      ∃ t, PSs (cxOf (L2.CX P w) P w K mg base N x (defScope st) f cdv A outer s H E) (defBody st) t ∧ t { nx := fun _ H' => Q .non H', rt := Q } (start N vs) H) :
    DfA P w K mg base (L2.CX P w) (k + 1) y x st ps sp := by
  obtain ⟨f, fd, hm, F⟩ := F
  refine ⟨⟨f, fd, hm, F, prm_of F S len ?_⟩, bd⟩
  intro cdv A outer s H vs Q E hg hr h
  exact hbody cdv A outer s H vs Q E f hg hr h
end
end Ow
/-! Own layer, data level: readings over data (PyData) instead of addresses. A few cells (lists and dicts that are still changed, pots) have numbers; all else that lies in the heap is data and never changes. -/
namespace Dl
open PySem PySem.Spec PyProof.Rows L2 Ow
/-- a value: data, or the k-th cell -/
inductive DV where
  | d (x : PyData)
  | o (k : Nat)
inductive Cell where
  | lst (xs : List PyData)
  | dct (kvs : List (Key × PyData))
  | pot
  /-- a list whose items are these cells -/
  | rls (ks : List Nat)
  /-- a dict whose values are these cells -/
  | rdc (kvs : List (Key × Nat))
  /-- what has become data -/
  | fz (x : PyData)
abbrev Mem := List Cell
/-- the slots -/
inductive DSt where
  | lit (l : List (Option DV))
  | put (ε : DSt) (i : Nat) (v : DV)
def getO : List (Option DV) → Nat → Option DV
  | [], _ => none
  | x :: _, 0 => x
  | _ :: r, n + 1 => getO r n
def DSt.nth : DSt → Nat → Option DV
  | .lit l, j => getO l j
  | .put ε i v, j => if i = j then some v else ε.nth j
def normL (ε : DSt) : Nat → Nat → List (Option DV)
  | _, 0 => []
  | k, m + 1 => ε.nth k :: normL ε (k + 1) m
/-- the first n slots written out -/
def norm (n : Nat) (ε : DSt) : DSt := .lit (normL ε 0 n)
theorem normL_nth {ε : DSt} : ∀ {m k i : Nat} {y : DV}, getO (normL ε k m) i = some y → ε.nth (k + i) = some y
  | 0, k, i, y, h => by cases h
  | m + 1, k, 0, y, h => h
  | m + 1, k, i + 1, y, h => by
    have := normL_nth (ε := ε) (m := m) (k := k + 1) (i := i) h
    have e : k + (i + 1) = k + 1 + i := by omega
    rw [e]
    exact this
theorem norm_nth {ε : DSt} {n i : Nat} {y : DV} (h : (norm n ε).nth i = some y) : ε.nth i = some y := by
  have := normL_nth (k := 0) (show getO (normL ε 0 n) i = some y from h)
  rwa [Nat.zero_add] at this
abbrev DK := DV → Mem → Prop
abbrev DE := DSt → Mem → DK → Prop
abbrev DT := DSt → Mem → (Bool → Mem → Prop) → Prop
abbrev DA := DSt → Mem → (List DV → Mem → Prop) → Prop
def live : Cell → Bool
  | .fz _ => false
  | _ => true
def Own (η : List Addr) (M : Mem) (b : Addr) : Prop := ∃ (k : Nat) (c : Cell), η[k]? = some b ∧ M[k]? = some c ∧ live c = true
open Classical in
/-- the heap without what is hidden and the live cells -/
noncomputable def vis (Z : Addr → Prop) (η : List Addr) (M : Mem) (H : Hp) : Hp := fun b => if Z b ∨ Own η M b then none else H b
section
variable {Z : Addr → Prop} {η : List Addr} {M : Mem} {H : Hp} {b : Addr} {o : HO}
theorem vis_of (h : H b = some o) (hz : ¬ Z b) (hn : ¬ Own η M b) : vis Z η M H b = some o := by
  unfold vis
  rw [if_neg (fun q => q.elim hz hn)]
  exact h
theorem of_vis (h : vis Z η M H b = some o) : H b = some o ∧ ¬ Z b ∧ ¬ Own η M b := by
  unfold vis at h
  split at h
  · cases h
  · exact ⟨h, fun z => by simp_all, fun z => by simp_all⟩
theorem vis_sub : Sm (vis Z η M H) H := fun b o e => (of_vis e).1
end
/-- the pot: a list of two whole numbers from 0 on -/
def PotA (H : Hp) (a : Addr) : Prop := ∃ x y : Int, H a = some (.lst [.int x, .int y]) ∧ 0 ≤ x ∧ 0 ≤ y ∧ y < 4294967296
def CellOk (K : PySem.W.Frag) (η : List Addr) (W H : Hp) (a : Addr) : Cell → Prop
  | .lst xs => ∃ vs, H a = some (.lst vs) ∧ DqAll K W vs xs
  | .dct kvs => ∃ us, H a = some (.dK us) ∧ us.map (·.1) = kvs.map (·.1) ∧ DqAll K W (us.map (·.2)) (kvs.map (·.2))
  | .pot => PotA H a
  | .rls ks => ∃ as, H a = some (.lst (as.map V.ref)) ∧ Paired (fun k b => η[k]? = some b) ks as
  | .rdc kvs => ∃ us : List (Key × Addr), H a = some (.dK (us.map fun q => (q.1, V.ref q.2))) ∧ Paired (fun (kv : Key × Nat) (q : Key × Addr) => kv.1 = q.1 ∧ η[kv.2]? = some q.2) kvs us
  | .fz x => (∃ u, W a = some u) ∧ Dq K W (.ref a) x
theorem paired_imp {α β : Type} {F G : α → β → Prop} : ∀ {l₁ : List α} {l₂ : List β}, Paired F l₁ l₂ → (∀ a b, F a b → G a b) → Paired G l₁ l₂
  | _, _, .nil, _ => .nil
  | _, _, .cons r t, f => .cons (f _ _ r) (paired_imp t f)
theorem paired_in {α β : Type} {F G : α → β → Prop} : ∀ {l₁ : List α} {l₂ : List β}, Paired F l₁ l₂ → (∀ a ∈ l₁, ∀ b, F a b → G a b) → Paired G l₁ l₂
  | _, _, .nil, _ => .nil
  | _, _, .cons r t, f => .cons (f _ List.mem_cons_self _ r) (paired_in t fun a h => f a (List.mem_cons_of_mem _ h))
theorem CellOk.keep {K : PySem.W.Frag} {η η' : List Addr} {W W' H H' : Hp} {a : Addr} {c : Cell} (q : CellOk K η W H a c) (hu : ∀ u, H a = some u → H' a = some u) (s : Sm W W') (hη : ∀ (k : Nat) b, η[k]? = some b → η'[k]? = some b) : CellOk K η' W' H' a c := by
  cases c with
  | lst xs => obtain ⟨vs, e, t⟩ := q; exact ⟨vs, hu _ e, DqAll.sm s t⟩
  | dct kvs => obtain ⟨vs, e, t, t2⟩ := q; exact ⟨vs, hu _ e, t, DqAll.sm s t2⟩
  | pot => obtain ⟨x, y, e, t⟩ := q; exact ⟨x, y, hu _ e, t⟩
  | rls ks => obtain ⟨as, e, t⟩ := q; exact ⟨as, hu _ e, paired_imp t hη⟩
  | rdc kvs => obtain ⟨as, e, t⟩ := q; exact ⟨as, hu _ e, paired_imp t fun _ _ z => ⟨z.1, hη _ _ z.2⟩⟩
  | fz x => obtain ⟨⟨u, e⟩, t⟩ := q; exact ⟨⟨u, s _ _ e⟩, Dq.sm s t⟩
/-- the state: the cells' addresses, their contents, the heap -/
structure Rel (K : PySem.W.Frag) (Z : Addr → Prop) (η : List Addr) (M : Mem) (H : Hp) : Prop where
  len : η.length = M.length
  ok : ∀ (k : Nat) a c, η[k]? = some a → M[k]? = some c → CellOk K η (vis Z η M H) H a c
  inj : ∀ (j k : Nat) a, η[j]? = some a → η[k]? = some a → j = k
  z : ∀ b, Z b → H b ≠ none ∧ ¬ Own η M b
/-- what is no live cell stays -/
structure Keep (η : List Addr) (M : Mem) (H : Hp) (η' : List Addr) (M' : Mem) (H' : Hp) : Prop where
  more : ∃ m, η' = η ++ m
  kp : ∀ b o, H b = some o → ¬ Own η M b → H' b = some o ∧ ¬ Own η' M' b
def Den (K : PySem.W.Frag) (Z : Addr → Prop) (η : List Addr) (M : Mem) (H : Hp) (v : V) : DV → Prop
  | .d x => Dq K (vis Z η M H) v x
  | .o k => ∃ a, η[k]? = some a ∧ v = .ref a
structure Slt (n : Nat) (K : PySem.W.Frag) (Z : Addr → Prop) (η : List Addr) (M : Mem) (H : Hp) (σ : L2.St) (ε : DSt) : Prop where
  len : σ.length = n
  at' : ∀ (i : Nat) y, ε.nth i = some y → ∃ v, σ[i]? = some (some v) ∧ Den K Z η M H v y
section
variable {K : PySem.W.Frag} {Z : Addr → Prop} {η η1 η2 : List Addr} {M M1 M2 : Mem} {H H1 H2 : Hp} {v : V} {y : DV} {σ : L2.St} {ε : DSt}
theorem Keep.refl : Keep η M H η M H := ⟨⟨[], (List.append_nil _).symm⟩, fun b o e n => ⟨e, n⟩⟩
theorem Keep.trans (a : Keep η M H η1 M1 H1) (b : Keep η1 M1 H1 η2 M2 H2) : Keep η M H η2 M2 H2 := by
  obtain ⟨m, e⟩ := a.more
  obtain ⟨m', e'⟩ := b.more
  refine ⟨⟨m ++ m', by rw [e', e, List.append_assoc]⟩, fun c o h n => ?_⟩
  obtain ⟨h1, n1⟩ := a.kp c o h n
  exact b.kp c o h1 n1
theorem Keep.vis (a : Keep η M H η1 M1 H1) : Sm (vis Z η M H) (vis Z η1 M1 H1) := fun b o e => by
  obtain ⟨h, hz, hn⟩ := of_vis e
  obtain ⟨h1, n1⟩ := a.kp b o h hn
  exact vis_of h1 hz n1
theorem Den.keep (h : Den K Z η M H v y) (a : Keep η M H η1 M1 H1) : Den K Z η1 M1 H1 v y := by
  cases y with
  | d x => exact Dq.sm a.vis h
  | o k =>
    obtain ⟨b, e, q⟩ := h
    obtain ⟨m, e'⟩ := a.more
    refine ⟨b, ?_, q⟩
    rw [e', List.getElem?_append_left (List.getElem?_eq_some_iff.mp e).1]
    exact e
theorem Slt.keep {n : Nat} (h : Slt n K Z η M H σ ε) (a : Keep η M H η1 M1 H1) : Slt n K Z η1 M1 H1 σ ε :=
  ⟨h.len, fun i y e => let ⟨v, e1, q⟩ := h.at' i y e; ⟨v, e1, q.keep a⟩⟩
theorem Slt.norm {n m : Nat} (h : Slt n K Z η M H σ ε) : Slt n K Z η M H σ (norm m ε) := ⟨h.len, fun i y e => h.at' i y (norm_nth e)⟩
theorem Slt.set {n : Nat} (h : Slt n K Z η M H σ ε) (q : Den K Z η M H v y) (i : Nat) (hi : i < n) : Slt n K Z η M H (σ.set i (some v)) (.put ε i y) := by
  refine ⟨by rw [List.length_set, h.len], fun j z e => ?_⟩
  have e : (if i = j then some y else ε.nth j) = some z := e
  rw [List.getElem?_set]
  by_cases c : i = j
  · rw [if_pos c] at e ⊢
    cases e
    rw [if_pos (by rw [h.len]; exact hi)]
    exact ⟨v, rfl, q⟩
  · rw [if_neg c] at e ⊢
    exact h.at' j z e
theorem Own.lt (h : Own η M b) : ∃ k : Nat, η[k]? = some b := let ⟨k, _, e, _⟩ := h; ⟨k, e⟩
theorem Rel.owned (r : Rel K Z η M H) {b : Addr} (h : Own η M b) : H b ≠ none := by
  obtain ⟨k, c, e1, e2, l⟩ := h
  have q := r.ok k b c e1 e2
  cases c with
  | lst xs => obtain ⟨vs, e, _⟩ := q; rw [e]; exact Option.some_ne_none _
  | dct kvs => obtain ⟨vs, e, _⟩ := q; rw [e]; exact Option.some_ne_none _
  | pot => obtain ⟨x, y, e, _⟩ := q; rw [e]; exact Option.some_ne_none _
  | rls ks => obtain ⟨as, e, _⟩ := q; rw [e]; exact Option.some_ne_none _
  | rdc kvs => obtain ⟨vs, e, _⟩ := q; rw [e]; exact Option.some_ne_none _
  | fz x => cases l
/-! a new thing -/
theorem Rel.new (r : Rel K Z η M H) {p : Addr} {o : HO} (hp : H p = none) : Rel K Z η M (upd H p o) ∧ Keep η M H η M (upd H p o) := by
  have nown : ¬ Own η M p := fun h => r.owned h hp
  have kp : Keep η M H η M (upd H p o) := ⟨⟨[], (List.append_nil _).symm⟩, fun b u e n => ⟨by rw [upd_ne (ne_of_none e hp)]; exact e, n⟩⟩
  refine ⟨⟨r.len, fun k a c e1 e2 => ?_, r.inj, fun b hb => ⟨?_, (r.z b hb).2⟩⟩, kp⟩
  · have q := r.ok k a c e1 e2
    exact q.keep (fun u e => by rw [upd_ne (ne_of_none e hp)]; exact e) kp.vis fun _ _ e => e
  · intro e
    by_cases c : b = p
    · subst c
      exact (r.z b hb).1 hp
    · rw [upd_ne c] at e
      exact (r.z b hb).1 e
theorem Rel.new_vis (r : Rel K Z η M H) {p : Addr} {o : HO} (hp : H p = none) : vis Z η M (upd H p o) p = some o :=
  vis_of upd_same (fun z => (r.z p z).1 hp) fun h => r.owned h hp
theorem app_at {α : Type} {l m : List α} {k : Nat} {b : α} (e : l[k]? = some b) : (l ++ m)[k]? = some b := by
  rw [List.getElem?_append_left (List.getElem?_eq_some_iff.mp e).1]
  exact e
theorem getElem?_app_cases {α : Type} {l : List α} {x : α} {k : Nat} {y : α} (h : (l ++ [x])[k]? = some y) : (k < l.length ∧ l[k]? = some y) ∨ (k = l.length ∧ y = x) := by
  rcases Nat.lt_or_ge k l.length with z | z
  · rw [List.getElem?_append_left z] at h
    exact .inl ⟨z, h⟩
  · rw [List.getElem?_append_right z] at h
    rcases Nat.eq_zero_or_pos (k - l.length) with w | w
    · rw [w] at h
      have h : some x = some y := h
      exact .inr ⟨by omega, (Option.some.inj h).symm⟩
    · have : ([x] : List α)[k - l.length]? = none := List.getElem?_eq_none (by show 1 ≤ _; omega)
      rw [this] at h
      cases h
/-- a new cell -/
theorem Rel.cell (r : Rel K Z η M H) {p : Addr} {o : HO} {c : Cell} (hp : H p = none) (hl : live c = true) (hc : CellOk K (η ++ [p]) (vis Z η M H) (upd H p o) p c) :
    Rel K Z (η ++ [p]) (M ++ [c]) (upd H p o) ∧ Keep η M H (η ++ [p]) (M ++ [c]) (upd H p o) := by
  have own : ∀ b, Own (η ++ [p]) (M ++ [c]) b → Own η M b ∨ b = p := by
    rintro b ⟨k, c', e1, e2, l⟩
    rcases getElem?_app_cases e1 with ⟨h1, e1⟩ | ⟨h1, e1⟩
    · rcases getElem?_app_cases e2 with ⟨h2, e2⟩ | ⟨h2, e2⟩
      · exact .inl ⟨k, c', e1, e2, l⟩
      · have := r.len
        omega
    · exact .inr e1
  have kp : Keep η M H (η ++ [p]) (M ++ [c]) (upd H p o) := by
    refine ⟨⟨[p], rfl⟩, fun b u e n => ⟨by rw [upd_ne (ne_of_none e hp)]; exact e, fun h => ?_⟩⟩
    rcases own b h with h | h
    · exact n h
    · subst h
      rw [hp] at e
      cases e
  refine ⟨⟨by rw [List.length_append, List.length_append, r.len]; rfl, fun k a c' e1 e2 => ?_, fun j k a e1 e2 => ?_, fun b hb => ⟨fun e => ?_, fun h => ?_⟩⟩, kp⟩
  · rcases getElem?_app_cases e1 with ⟨h1, e1⟩ | ⟨h1, e1⟩
    · rcases getElem?_app_cases e2 with ⟨h2, e2⟩ | ⟨h2, e2⟩
      · have q := r.ok k a c' e1 e2
        exact q.keep (fun u e => by rw [upd_ne (ne_of_none e hp)]; exact e) kp.vis fun _ _ e => app_at e
      · have := r.len
        omega
    · rcases getElem?_app_cases e2 with ⟨h2, e2⟩ | ⟨h2, e2⟩
      · have := r.len
        omega
      · subst e1
        subst e2
        exact hc.keep (fun u e => e) kp.vis fun _ _ e => e
  · have npη : ∀ {k : Nat}, η[k]? = some p → False := fun {k} e => by
      have hk : k < M.length := by
        have := (List.getElem?_eq_some_iff.mp e).1
        have := r.len
        omega
      have q := r.ok k p M[k] e (List.getElem?_eq_getElem hk)
      by_cases l : live M[k] = true
      · exact r.owned ⟨k, _, e, List.getElem?_eq_getElem hk, l⟩ hp
      · cases z : M[k] with
        | fz x =>
          rw [z] at q
          obtain ⟨⟨u, e⟩, _⟩ := q
          rw [(of_vis e).1] at hp
          cases hp
        | lst xs => rw [z] at l; exact l rfl
        | dct xs => rw [z] at l; exact l rfl
        | pot => rw [z] at l; exact l rfl
        | rls ks => rw [z] at l; exact l rfl
        | rdc ks => rw [z] at l; exact l rfl
    rcases getElem?_app_cases e1 with ⟨h1, f1⟩ | ⟨h1, f1⟩
    · rcases getElem?_app_cases e2 with ⟨h2, f2⟩ | ⟨h2, f2⟩
      · exact r.inj j k a f1 f2
      · exact (npη (f1.trans (congrArg some f2))).elim
    · rcases getElem?_app_cases e2 with ⟨h2, f2⟩ | ⟨h2, f2⟩
      · exact (npη (f2.trans (congrArg some f1))).elim
      · omega
  · by_cases q : b = p
    · subst q
      exact (r.z b hb).1 hp
    · rw [upd_ne q] at e
      exact (r.z b hb).1 e
  · rcases own b h with h | h
    · exact (r.z b hb).2 h
    · subst h
      exact (r.z b hb).1 hp
/-- a live cell is changed -/
theorem Rel.put (r : Rel K Z η M H) {k : Nat} {a : Addr} {c c' : Cell} {o : HO} (e1 : η[k]? = some a) (e2 : M[k]? = some c) (hl : live c = true) (hl' : live c' = true) (hc : CellOk K η (vis Z η M H) (upd H a o) a c') :
    Rel K Z η (M.set k c') (upd H a o) ∧ Keep η M H η (M.set k c') (upd H a o) := by
  have hk := (List.getElem?_eq_some_iff.mp e2).1
  have own : ∀ b, Own η (M.set k c') b ↔ Own η M b := by
    intro b
    constructor
    · rintro ⟨j, d, f1, f2, l⟩
      rw [List.getElem?_set] at f2
      by_cases q : k = j
      · subst q
        rw [e1] at f1
        cases f1
        exact ⟨k, c, e1, e2, hl⟩
      · rw [if_neg q] at f2
        exact ⟨j, d, f1, f2, l⟩
    · rintro ⟨j, d, f1, f2, l⟩
      by_cases q : k = j
      · subst q
        exact ⟨k, c', f1, by rw [List.getElem?_set, if_pos rfl, if_pos hk], hl'⟩
      · exact ⟨j, d, f1, by rw [List.getElem?_set, if_neg q]; exact f2, l⟩
  have ha : Own η M a := ⟨k, c, e1, e2, hl⟩
  have kp : Keep η M H η (M.set k c') (upd H a o) := ⟨⟨[], (List.append_nil _).symm⟩, fun b u e n => ⟨by rw [upd_ne (fun q => n (by rw [q]; exact ha))]; exact e, fun h => n ((own b).mp h)⟩⟩
  refine ⟨⟨by rw [List.length_set]; exact r.len, fun j b d f1 f2 => ?_, r.inj, fun b hb => ⟨fun e => ?_, fun h => (r.z b hb).2 ((own b).mp h)⟩⟩, kp⟩
  · by_cases q : k = j
    · subst q
      rw [e1] at f1
      cases f1
      rw [List.getElem?_set, if_pos rfl, if_pos hk] at f2
      cases f2
      exact hc.keep (fun u e => e) kp.vis fun _ _ e => e
    · rw [List.getElem?_set, if_neg q] at f2
      have nb : b ≠ a := fun z => q (r.inj k j a e1 (by rw [← z]; exact f1))
      refine (r.ok j b d f1 f2).keep (fun u e => by rw [upd_ne nb]; exact e) kp.vis fun _ _ e => e
  · have nb : b ≠ a := fun z => (r.z b hb).2 (by rw [z]; exact ha)
    rw [upd_ne nb] at e
    exact (r.z b hb).1 e
/-! data of a cell -/
def cellD : Cell → Option PyData
  | .lst xs => some (.list xs)
  | .dct kvs => some (.dict (kvs.map fun kv => (kD kv.1, kv.2)))
  | .pot => none
  | .rls _ => none
  | .rdc _ => none
  | .fz x => some x
def look (M : Mem) : DV → Option PyData
  | .d x => some x
  | .o k => (M[k]?).bind cellD
/-- its top stands in H, the rest in W -/
def Top (K : PySem.W.Frag) (W H : Hp) (v : V) : PyData → Prop
  | .list xs => ∃ a vs, v = .ref a ∧ SqL K H a vs ∧ DqAll K W vs xs
  | .tuple xs => ∃ a vs, v = .ref a ∧ SqF W a vs ∧ DqAll K W vs xs
  | .dict ps => ∃ a us ds, v = .ref a ∧ Rd H a (.dK us) ∧ DqAll K W (us.map (·.2)) ds ∧ ps = (us.map fun kv => kD kv.1).zip ds
  | x => Dq K W v x
theorem Top.of {K : PySem.W.Frag} {W H : Hp} {v : V} {x : PyData} (h : Dq K W v x) (s : Sm W H) : Top K W H v x := by
  cases h with
  | non => exact .non
  | bl b => exact .bl b
  | int i => exact .int i
  | str x => exact .str x
  | lst h t => exact ⟨_, _, rfl, SqL.sm h s, t⟩
  | tup h t => exact ⟨_, _, rfl, h, t⟩
  | dct h t => exact ⟨_, _, _, rfl, Rd.sm h s, t, rfl⟩
theorem Top.dq {K : PySem.W.Frag} {W H : Hp} {v : V} {x : PyData} (h : Top K W H v x) (s : Sm W H) : Dq K H v x := by
  cases x with
  | none => exact Dq.sm s h
  | bool b => exact Dq.sm s h
  | int i => exact Dq.sm s h
  | str x => exact Dq.sm s h
  | list xs => obtain ⟨a, vs, rfl, q, t⟩ := h; exact .lst q (DqAll.sm s t)
  | tuple xs => obtain ⟨a, vs, rfl, q, t⟩ := h; exact .tup (SqF.sm q s) (DqAll.sm s t)
  | dict ps => obtain ⟨a, us, ds, rfl, q, t, rfl⟩ := h; exact .dct q (DqAll.sm s t)
theorem zip_kv : ∀ {us : List (Key × V)} {kvs : List (Key × PyData)}, us.map (·.1) = kvs.map (·.1) → (kvs.map fun kv => (kD kv.1, kv.2)) = (us.map fun kv => kD kv.1).zip (kvs.map (·.2))
  | [], [], _ => rfl
  | u :: us, kv :: kvs, e => by
    rw [List.map_cons, List.map_cons] at e
    injection e with e1 e2
    rw [List.map_cons, List.map_cons, List.map_cons, List.zip_cons_cons, zip_kv e2, e1]
  | [], _ :: _, e => by cases e
  | _ :: _, [], e => by cases e
theorem Rel.top (r : Rel K Z η M H) {x : PyData} (h : Den K Z η M H v y) (e : look M y = some x) : Top K (vis Z η M H) H v x := by
  cases y with
  | d z =>
    cases e
    exact Top.of h vis_sub
  | o k =>
    obtain ⟨a, e1, rfl⟩ := h
    have e : (M[k]?).bind cellD = some x := e
    obtain ⟨c, e2, e3⟩ := Option.bind_eq_some_iff.mp e
    have q := r.ok k a c e1 e2
    cases c with
    | lst xs => cases e3; obtain ⟨vs, q1, q2⟩ := q; exact ⟨a, vs, rfl, .of q1, q2⟩
    | dct kvs => cases e3; obtain ⟨us, q1, q2, q3⟩ := q; exact ⟨a, us, _, rfl, .inl q1, q3, zip_kv q2⟩
    | pot => cases e3
    | rls ks => cases e3
    | rdc ks => cases e3
    | fz z => cases e3; exact Top.of q.2 vis_sub
theorem Rel.dq (r : Rel K Z η M H) {x : PyData} (h : Den K Z η M H v y) (e : look M y = some x) : Dq K H v x := (r.top h e).dq vis_sub
/-! a cell becomes data -/
theorem Rel.freeze (r : Rel K Z η M H) {k : Nat} {a : Addr} {c : Cell} {x : PyData} (e1 : η[k]? = some a) (e2 : M[k]? = some c) (e3 : cellD c = some x) :
    Rel K Z η (M.set k (.fz x)) H ∧ Keep η M H η (M.set k (.fz x)) H ∧ Dq K (vis Z η (M.set k (.fz x)) H) (.ref a) x := by
  have hk := (List.getElem?_eq_some_iff.mp e2).1
  have own : ∀ b, Own η (M.set k (.fz x)) b → Own η M b ∧ b ≠ a := by
    rintro b ⟨j, d, f1, f2, l⟩
    rw [List.getElem?_set] at f2
    by_cases q : k = j
    · subst q
      rw [if_pos rfl, if_pos hk] at f2
      cases f2
      cases l
    · rw [if_neg q] at f2
      refine ⟨⟨j, d, f1, f2, l⟩, fun z => q (r.inj k j a e1 (by rw [← z]; exact f1))⟩
  have kp : Keep η M H η (M.set k (.fz x)) H := ⟨⟨[], (List.append_nil _).symm⟩, fun b u e n => ⟨e, fun h => n (own b h).1⟩⟩
  have hq : Dq K (vis Z η (M.set k (.fz x)) H) (.ref a) x ∧ ∃ u, vis Z η (M.set k (.fz x)) H a = some u := by
    have q := r.ok k a c e1 e2
    cases c with
    | pot => cases e3
    | rls ks => cases e3
    | rdc ks => cases e3
    | fz z =>
      cases e3
      obtain ⟨⟨u, q1⟩, q2⟩ := q
      exact ⟨Dq.sm kp.vis q2, u, kp.vis _ _ q1⟩
    | lst xs =>
      cases e3
      obtain ⟨vs, q1, q2⟩ := q
      have hz : ¬ Z a := fun z => (r.z a z).2 ⟨k, _, e1, e2, rfl⟩
      have hv := vis_of (Z := Z) (η := η) (M := M.set k (.fz (.list xs))) q1 hz fun h => (own a h).2 rfl
      exact ⟨.lst (.of hv) (DqAll.sm kp.vis q2), _, hv⟩
    | dct kvs =>
      cases e3
      obtain ⟨us, q1, q2, q3⟩ := q
      have hz : ¬ Z a := fun z => (r.z a z).2 ⟨k, _, e1, e2, rfl⟩
      have hv := vis_of (Z := Z) (η := η) (M := M.set k (.fz (.dict (kvs.map fun kv => (kD kv.1, kv.2))))) q1 hz fun h => (own a h).2 rfl
      refine ⟨?_, _, hv⟩
      rw [zip_kv q2]
      exact .dct (.inl (by rw [← zip_kv q2]; exact hv)) (DqAll.sm (by rw [← zip_kv q2]; exact kp.vis) q3)
  refine ⟨⟨by rw [List.length_set]; exact r.len, fun j b d f1 f2 => ?_, r.inj, fun b hb => ⟨(r.z b hb).1, fun h => (r.z b hb).2 (own b h).1⟩⟩, kp, hq.1⟩
  rw [List.getElem?_set] at f2
  by_cases q : k = j
  · subst q
    rw [if_pos rfl, if_pos hk] at f2
    cases f2
    rw [e1] at f1
    cases f1
    exact ⟨hq.2, hq.1⟩
  · rw [if_neg q] at f2
    exact (r.ok j b d f1 f2).keep (fun u e => e) kp.vis fun _ _ e => e
/-- a list of cells that have become data becomes data -/
theorem Rel.freezeR (r : Rel K Z η M H) {k : Nat} {a : Addr} {ks : List Nat} {xs : List PyData} {as : List Addr} (e1 : η[k]? = some a) (e2 : M[k]? = some (.rls ks)) (e3 : H a = some (.lst (as.map V.ref))) (d : DqAll K (vis Z η M H) (as.map V.ref) xs) :
    Rel K Z η (M.set k (.fz (.list xs))) H ∧ Keep η M H η (M.set k (.fz (.list xs))) H ∧ Dq K (vis Z η (M.set k (.fz (.list xs))) H) (.ref a) (.list xs) := by
  have hk := (List.getElem?_eq_some_iff.mp e2).1
  have own : ∀ b, Own η (M.set k (.fz (.list xs))) b → Own η M b ∧ b ≠ a := by
    rintro b ⟨j, d, f1, f2, l⟩
    rw [List.getElem?_set] at f2
    by_cases q : k = j
    · subst q
      rw [if_pos rfl, if_pos hk] at f2
      cases f2
      cases l
    · rw [if_neg q] at f2
      exact ⟨⟨j, d, f1, f2, l⟩, fun z => q (r.inj k j a e1 (by rw [← z]; exact f1))⟩
  have kp : Keep η M H η (M.set k (.fz (.list xs))) H := ⟨⟨[], (List.append_nil _).symm⟩, fun b o e n => ⟨e, fun h => n (own b h).1⟩⟩
  have hz : ¬ Z a := fun z => (r.z a z).2 ⟨k, _, e1, e2, rfl⟩
  have hv := vis_of (Z := Z) (η := η) (M := M.set k (.fz (.list xs))) e3 hz fun h => (own a h).2 rfl
  have hq : Dq K (vis Z η (M.set k (.fz (.list xs))) H) (.ref a) (.list xs) := .lst (.of hv) (DqAll.sm kp.vis d)
  refine ⟨⟨by rw [List.length_set]; exact r.len, fun j b d f1 f2 => ?_, r.inj, fun b hb => ⟨(r.z b hb).1, fun h => (r.z b hb).2 (own b h).1⟩⟩, kp, hq⟩
  rw [List.getElem?_set] at f2
  by_cases q : k = j
  · subst q
    rw [if_pos rfl, if_pos hk] at f2
    cases f2
    rw [e1] at f1
    cases f1
    exact ⟨⟨_, hv⟩, hq⟩
  · rw [if_neg q] at f2
    exact (r.ok j b d f1 f2).keep (fun u e => e) kp.vis fun _ _ e => e
/-- as data: a cell becomes data for good -/
def asD0 (y : DV) (M : Mem) (Q : PyData → Mem → Prop) : Prop :=
  match y with
  | .d x => Q x M
  | .o k => match M[k]? with
    | some (.fz x) => Q x M
    | some (.lst xs) => Q (.list xs) (M.set k (.fz (.list xs)))
    | some (.dct kvs) => Q (.dict (kvs.map fun kv => (kD kv.1, kv.2))) (M.set k (.fz (.dict (kvs.map fun kv => (kD kv.1, kv.2)))))
    | _ => False
theorem Rel.asD0 (r : Rel K Z η M H) {Q : PyData → Mem → Prop} (h : Den K Z η M H v y) (q : asD0 y M Q) : ∃ x M', Rel K Z η M' H ∧ Keep η M H η M' H ∧ Dq K (vis Z η M' H) v x ∧ Q x M' := by
  cases y with
  | d x => exact ⟨x, M, r, .refl, h, q⟩
  | o k =>
    obtain ⟨a, e1, rfl⟩ := h
    unfold Dl.asD0 at q
    cases e2 : M[k]? with
    | none => simp only [e2] at q
    | some c =>
      cases c with
      | fz x =>
        simp only [e2] at q
        exact ⟨x, M, r, .refl, (r.ok k a _ e1 e2).2, q⟩
      | lst xs =>
        simp only [e2] at q
        obtain ⟨r1, k1, d1⟩ := r.freeze e1 e2 rfl
        exact ⟨_, _, r1, k1, d1, q⟩
      | dct xs =>
        simp only [e2] at q
        obtain ⟨r1, k1, d1⟩ := r.freeze e1 e2 rfl
        exact ⟨_, _, r1, k1, d1, q⟩
      | pot => simp only [e2] at q
      | rls ks => simp only [e2] at q
      | rdc ks => simp only [e2] at q
def asKids : List Nat → Mem → (List PyData → Mem → Prop) → Prop
  | [], M, Q => Q [] M
  | j :: js, M, Q => asD0 (.o j) M fun x M1 => asKids js M1 fun xs M2 => Q (x :: xs) M2
theorem Rel.asKids : ∀ {js : List Nat} {as : List Addr} {M : Mem} {Q : List PyData → Mem → Prop} (r : Rel K Z η M H) (h : Paired (fun k b => η[k]? = some b) js as) (q : asKids js M Q), ∃ xs M', Rel K Z η M' H ∧ Keep η M H η M' H ∧ DqAll K (vis Z η M' H) (as.map V.ref) xs ∧ Q xs M'
  | [], _, M, Q, r, .nil, q => ⟨[], M, r, .refl, .nil, q⟩
  | j :: js, _, M, Q, r, .cons (b := b) h t, q => by
    obtain ⟨x, M1, r1, k1, d1, q1⟩ := r.asD0 (v := .ref b) (y := .o j) ⟨b, h, rfl⟩ q
    obtain ⟨xs, M2, r2, k2, d2, q2⟩ := Rel.asKids r1 t q1
    exact ⟨x :: xs, M2, r2, k1.trans k2, .cons (Dq.sm k2.vis d1) d2, q2⟩
def asD (y : DV) (M : Mem) (Q : PyData → Mem → Prop) : Prop :=
  match y with
  | .d x => Q x M
  | .o k => match M[k]? with
    | some (.rls ks) => asKids ks M fun xs M1 => M1[k]? = some (.rls ks) ∧ Q (.list xs) (M1.set k (.fz (.list xs)))
    | _ => asD0 (.o k) M Q
theorem Rel.asD (r : Rel K Z η M H) {Q : PyData → Mem → Prop} (h : Den K Z η M H v y) (q : asD y M Q) : ∃ x M', Rel K Z η M' H ∧ Keep η M H η M' H ∧ Dq K (vis Z η M' H) v x ∧ Q x M' := by
  cases y with
  | d x => exact ⟨x, M, r, .refl, h, q⟩
  | o k =>
    have q' := q
    unfold Dl.asD at q'
    cases e2 : M[k]? with
    | none =>
      simp only [e2] at q'
      exact r.asD0 h q'
    | some c =>
      cases c with
      | rls ks =>
        simp only [e2] at q'
        obtain ⟨a, e1, rfl⟩ := h
        obtain ⟨as, e3, pr⟩ := r.ok k a _ e1 e2
        obtain ⟨xs, M1, r1, k1, d1, e4, q1⟩ := r.asKids pr q'
        obtain ⟨r2, k2, d2⟩ := r1.freezeR e1 e4 e3 d1
        exact ⟨_, _, r2, k1.trans k2, d2, q1⟩
      | lst xs =>
        simp only [e2] at q'
        exact r.asD0 h q'
      | dct xs =>
        simp only [e2] at q'
        exact r.asD0 h q'
      | pot =>
        simp only [e2] at q'
        exact r.asD0 h q'
      | rdc xs =>
        simp only [e2] at q'
        exact r.asD0 h q'
      | fz x =>
        simp only [e2] at q'
        exact r.asD0 h q'
end
end Dl
/-! Data level, 2: judgements, expressions. -/
namespace Dl
open PySem PySem.Spec PyProof.Rows L2 Ow
def tD (n : Nat) (K : PySem.W.Frag) (de : DE) : TE := fun σ H Qv => ∃ (Z : Addr → Prop) (η : List Addr) (M : Mem) (ε : DSt) (Q : DK), Rel K Z η M H ∧ Slt n K Z η M H σ ε ∧ de ε M Q ∧
  ∀ v η' M' y H', Rel K Z η' M' H' → Keep η M H η' M' H' → Den K Z η' M' H' v y → Q y M' → Qv v H'
def tT (n : Nat) (K : PySem.W.Frag) (dt : DT) : TT := fun σ H Qv => ∃ (Z : Addr → Prop) (η : List Addr) (M : Mem) (ε : DSt) (Q : Bool → Mem → Prop), Rel K Z η M H ∧ Slt n K Z η M H σ ε ∧ dt ε M Q ∧
  ∀ b η' M' H', Rel K Z η' M' H' → Keep η M H η' M' H' → Q b M' → Qv b H'
def tA (n : Nat) (K : PySem.W.Frag) (da : DA) : TA := fun σ H Qv => ∃ (Z : Addr → Prop) (η : List Addr) (M : Mem) (ε : DSt) (Q : List DV → Mem → Prop), Rel K Z η M H ∧ Slt n K Z η M H σ ε ∧ da ε M Q ∧
  ∀ vs η' M' ys H', Rel K Z η' M' H' → Keep η M H η' M' H' → Paired (Den K Z η' M' H') vs ys → Q ys M' → Qv vs H'
def PD (K : PySem.W.Frag) (X : Cx) (e : Expr) (de : DE) : Prop := X.K = K → PE X e (tD X.N.length K de)
def PDT (K : PySem.W.Frag) (X : Cx) (e : Expr) (dt : DT) : Prop := X.K = K → PT X e (tT X.N.length K dt)
def PDW (K : PySem.W.Frag) (X : Cx) (e : Expr) (dt : DT) : Prop := X.K = K → PW X e (tT X.N.length K dt)
def PDA (K : PySem.W.Frag) (X : Cx) (es : List Expr) (da : DA) : Prop := X.K = K → PA X es (tA X.N.length K da)
theorem PE.weak {X : Cx} {e : Expr} {t t' : TE} (h : PE X e t) (w : ∀ σ H Q, t' σ H Q → t σ H Q) : PE X e t' := ⟨fun pins s σ H Q I q => h.run pins s σ H Q I (w _ _ _ q)⟩
theorem PT.weak {X : Cx} {e : Expr} {t t' : TT} (h : PT X e t) (w : ∀ σ H Q, t' σ H Q → t σ H Q) : PT X e t' := ⟨fun pins s σ H Q I q => h.run pins s σ H Q I (w _ _ _ q)⟩
theorem PW.weak {X : Cx} {e : Expr} {t t' : TT} (h : PW X e t) (w : ∀ σ H Q, t' σ H Q → t σ H Q) : PW X e t' := ⟨fun wh pins s σ H Q I q => h.run wh pins s σ H Q I (w _ _ _ q)⟩
theorem PA.weak {X : Cx} {es : List Expr} {t t' : TA} (h : PA X es t) (w : ∀ σ H Q, t' σ H Q → t σ H Q) : PA X es t' := ⟨fun pos pins s σ H Q I q => h.run pos pins s σ H Q I (w _ _ _ q)⟩
theorem PE.or {X : Cx} {e : Expr} {t t' : TE} (h : PE X e t) (h' : PE X e t') : PE X e (fun σ H Q => t σ H Q ∨ t' σ H Q) := ⟨fun pins s σ H Q I q => q.elim (h.run pins s σ H Q I) (h'.run pins s σ H Q I)⟩
theorem OpR.or {X : Cx} {f : Value → Value → Sem Value} {r r' : R2} (h : OpR X f r) (h' : OpR X f r') : OpR X f (fun x y H Q => r x y H Q ∨ r' x y H Q) :=
  fun pins s σ H x y v u Q I rx ry q => q.elim (h pins s σ H x y v u Q I rx ry) (h' pins s σ H x y v u Q I rx ry)
/-! ### what comes out of an operation -/
inductive Res where
  | v (z : PyData)
  /-- a new list -/
  | l (xs : List PyData)
  /-- a new dict -/
  | c (kvs : List (Key × PyData))
def ResOk (K : PySem.W.Frag) (Z : Addr → Prop) (η : List Addr) (M : Mem) (H : Hp) (w : V) (H' : Hp) : Res → Prop
  | .v z => Rel K Z η M H' ∧ Keep η M H η M H' ∧ Dq K (vis Z η M H') w z
  | .l xs => ∃ p vs, w = .ref p ∧ H p = none ∧ H' = upd H p (.lst vs) ∧ DqAll K (vis Z η M H) vs xs
  | .c kvs => ∃ p us, w = .ref p ∧ H p = none ∧ H' = upd H p (.dK us) ∧ us.map (·.1) = kvs.map (·.1) ∧ DqAll K (vis Z η M H) (us.map (·.2)) (kvs.map (·.2))
def dictD (kvs : List (Key × PyData)) : PyData := .dict (kvs.map fun kv => (kD kv.1, kv.2))
def born (own : Bool) (r : Res) (M : Mem) (Q : DK) : Prop :=
  match r, own with
  | .v z, _ => Q (.d z) M
  | .l xs, true => Q (.o M.length) (M ++ [.lst xs])
  | .l xs, false => Q (.d (.list xs)) M
  | .c kvs, true => Q (.o M.length) (M ++ [.dct kvs])
  | .c kvs, false => Q (.d (dictD kvs)) M
section
variable {n : Nat} {K : PySem.W.Frag} {Z : Addr → Prop} {η : List Addr} {M : Mem} {H H' : Hp} {w v u : V} {rr : Res} {own : Bool} {Q : DK}
theorem ResOk.sc (r : Rel K Z η M H) {z : PyData} (h : Dq K (vis Z η M H) w z) : ResOk K Z η M H w H (.v z) := ⟨r, .refl, h⟩
theorem ResOk.new (r : Rel K Z η M H) {p : Addr} {o : HO} {z : PyData} (hp : H p = none) (h : Dq K (vis Z η M (upd H p o)) (.ref p) z) : ResOk K Z η M H (.ref p) (upd H p o) (.v z) :=
  ⟨(r.new hp).1, (r.new hp).2, h⟩
theorem ResOk.tup (r : Rel K Z η M H) {p : Addr} {ob : Obj} {vs : List V} {xs : List PyData} (ho : ob.dict = none) (hp : H p = none) (h : DqAll K (vis Z η M H) vs xs) : ResOk K Z η M H (.ref p) (upd H p (.frz ob (.tup vs))) (.v (.tuple xs)) :=
  .new r hp (.tup ⟨ob, ho, r.new_vis hp⟩ (DqAll.sm (r.new hp).2.vis h))
theorem born_ok (r : Rel K Z η M H) (h : ResOk K Z η M H w H' rr) (q : born own rr M Q) : ∃ η' M' y, Rel K Z η' M' H' ∧ Keep η M H η' M' H' ∧ Den K Z η' M' H' w y ∧ Q y M' := by
  cases rr with
  | v z => exact ⟨η, M, .d z, h.1, h.2.1, h.2.2, by cases own <;> exact q⟩
  | l xs =>
    obtain ⟨p, vs, rfl, hp, rfl, hd⟩ := h
    cases own with
    | true =>
      obtain ⟨r1, k1⟩ := r.cell (c := .lst xs) hp rfl ⟨vs, upd_same, hd⟩
      exact ⟨_, _, .o M.length, r1, k1, ⟨p, by rw [List.getElem?_append_right (by rw [r.len]; exact Nat.le_refl _), ← r.len, Nat.sub_self]; rfl, rfl⟩, q⟩
    | false =>
      obtain ⟨r1, k1⟩ := r.new (o := .lst vs) hp
      exact ⟨_, _, .d (.list xs), r1, k1, .lst (.of (r.new_vis hp)) (DqAll.sm k1.vis hd), q⟩
  | c kvs =>
    obtain ⟨p, us, rfl, hp, rfl, hk, hd⟩ := h
    cases own with
    | true =>
      obtain ⟨r1, k1⟩ := r.cell (c := .dct kvs) hp rfl ⟨us, upd_same, hk, hd⟩
      exact ⟨_, _, .o M.length, r1, k1, ⟨p, by rw [List.getElem?_append_right (by rw [r.len]; exact Nat.le_refl _), ← r.len, Nat.sub_self]; rfl, rfl⟩, q⟩
    | false =>
      obtain ⟨r1, k1⟩ := r.new (o := .dK us) hp
      refine ⟨_, _, .d (dictD kvs), r1, k1, ?_, q⟩
      show Dq K _ _ (.dict _)
      rw [zip_kv hk]
      exact .dct (.inl (r.new_vis hp)) (DqAll.sm k1.vis hd)
end
abbrev DF1 := PyData → (Res → Prop) → Prop
abbrev DF2 := PyData → PyData → (Res → Prop) → Prop
abbrev DFn := List PyData → (Res → Prop) → Prop
def UnS (K : PySem.W.Frag) (r : V → Hp → VK → Prop) (F : DF1) : Prop := ∀ (Z : Addr → Prop) (η : List Addr) (M : Mem) (H : Hp) (v : V) (x : PyData) (Qd : Res → Prop) (Qv : VK), Rel K Z η M H → Top K (vis Z η M H) H v x → F x Qd →
  (∀ rr w H', ResOk K Z η M H w H' rr → Qd rr → Qv w H') → r v H Qv
def OpS (K : PySem.W.Frag) (r : R2) (F : DF2) : Prop := ∀ (Z : Addr → Prop) (η : List Addr) (M : Mem) (H : Hp) (v u : V) (x y : PyData) (Qd : Res → Prop) (Qv : VK), Rel K Z η M H → Top K (vis Z η M H) H v x → Top K (vis Z η M H) H u y → F x y Qd →
  (∀ rr w H', ResOk K Z η M H w H' rr → Qd rr → Qv w H') → r v u H Qv
def CallS (K : PySem.W.Frag) (r : List V → Hp → VK → Prop) (F : DFn) : Prop := ∀ (Z : Addr → Prop) (η : List Addr) (M : Mem) (H : Hp) (vs : List V) (xs : List PyData) (Qd : Res → Prop) (Qv : VK), Rel K Z η M H → Paired (fun v x => Top K (vis Z η M H) H v x) vs xs → F xs Qd →
  (∀ rr w H', ResOk K Z η M H w H' rr → Qd rr → Qv w H') → r vs H Qv
/-! ### names, constants -/
def dC (x : PyData) : DE := fun _ M Q => Q (.d x) M
def dV (i : Nat) : DE := fun ε M Q => match ε.nth i with
  | some y => Q y M
  | none => False
def lk1 {α : Type} (x : Option α) (Q : α → Prop) : Prop := match x with
  | some d => Q d
  | none => False
theorem lk1_of {α : Type} {x : Option α} {Q : α → Prop} (h : lk1 x Q) : ∃ d, x = some d ∧ Q d := by
  cases x with
  | none => exact h.elim
  | some d => exact ⟨d, rfl, h⟩
def lk (x : Option PyData) (Q : PyData → Prop) : Prop := match x with
  | some d => Q d
  | none => False
theorem lk_of {x : Option PyData} {Q : PyData → Prop} (h : lk x Q) : ∃ d, x = some d ∧ Q d := by
  cases x with
  | none => exact h.elim
  | some d => exact ⟨d, rfl, h⟩
def lks (M : Mem) : List DV → Option (List PyData)
  | [] => some []
  | y :: ys => match look M y, lks M ys with
    | some x, some xs => some (x :: xs)
    | _, _ => none
def dUn (F : DF1) (own : Bool) (da : DE) : DE := fun ε M Q => da ε M fun x M1 => lk (look M1 x) fun dx => F dx fun r => born own r M1 Q
def dBin (F : DF2) (own : Bool) (da db : DE) : DE := fun ε M Q => da ε M fun x M1 => db ε M1 fun y M2 => lk (look M2 x) fun dx => lk (look M2 y) fun dy => F dx dy fun r => born own r M2 Q
def dNil : DA := fun _ M Q => Q [] M
def dCons (da : DE) (dr : DA) : DA := fun ε M Q => da ε M fun x M1 => dr ε M1 fun xs M2 => Q (x :: xs) M2
def dCB (F : DFn) (own : Bool) (da : DA) : DE := fun ε M Q => da ε M fun ys M1 => match lks M1 ys with
  | some xs => F xs fun r => born own r M1 Q
  | none => False
section
variable {n : Nat} {K : PySem.W.Frag} {X : Cx} {a b c e : Expr} {es : List Expr} {da db dc : DE} {pos : Pos} {own : Bool}
theorem pd_c {v : V} {x : PyData} (h : PE X e (tC v)) (hx : ∀ H, Dq K H v x) : PD K X e (dC x) := fun hK => PE.weak h fun σ H Q ⟨Z, η, M, ε, Qd, r, s, q, fin⟩ => fin v η M (.d x) H r .refl (hx _) q
theorem pd_int {i j pos} : PD K X (.Constant (.int i) j pos) (dC (.int i)) := pd_c pe_int fun H => .int i
theorem pd_bl {b j pos} : PD K X (.Constant (.bool b) j pos) (dC (.bool b)) := pd_c pe_bl fun H => .bl b
theorem pd_non {j pos} : PD K X (.Constant .none j pos) (dC .none) := pd_c pe_non fun H => .non
theorem pd_str {x j pos} : PD K X (.Constant (.str x) j pos) (dC (.str x)) := pd_c pe_str fun H => .str x
theorem pd_gi {x : Str} {i : Int} {pos : Pos} (hg : Gl X x) (hm : ∃ t, X.mg x = some (.int i t)) (hd : (x == ("__debug__" : Str)) = false := by decide) : PD K X (.Name x pos) (dC (.int i)) := pd_c (Ow.pe_gi hg hm hd) fun H => .int i
theorem pd_gs {x z : Str} {pos : Pos} (hg : Gl X x) (hm : ∃ t, X.mg x = some (.str z t)) (hd : (x == ("__debug__" : Str)) = false := by decide) : PD K X (.Name x pos) (dC (.str z)) := by
  obtain ⟨t, hm⟩ := hm
  exact pd_c (pe_glob (v := .str z) hg hm ⟨t, rfl⟩ hd) fun H => .str z
theorem pd_var {i : Nat} (h : PE X e (tVar i)) : PD K X e (dV i) := fun hK => PE.weak h fun σ H Q ⟨Z, η, M, ε, Qd, r, s, q, fin⟩ => by
  unfold dV at q
  split at q
  · rename_i y e1
    obtain ⟨v, e2, d⟩ := s.at' i y e1
    exact ⟨v, e2, fin v η M y H r .refl d q⟩
  · exact q.elim
theorem dv (i : Nat) {x : Str} {pos : Pos} (hN : X.N[i]? = some x := by rfl) (hv : Vis X.env.scope x := by first | exact Or.inl rfl | exact Or.inr (Or.inl rfl) | exact Or.inr (Or.inr rfl)) (hd : (x == ("__debug__" : Str)) = false := by decide) (hcd : (x == ("__classdict__" : Str)) = false := by decide) : PD K X (.Name x pos) (dV i) := pd_var (pe_var hN hv hd hcd)
theorem pd_op {op : Operator} {r : R2} {F : DF2} (own : Bool) (ho : OpR X (binaryOp op) r) (hs : X.K = K → OpS K r F) (ha : PD K X a da) (hb : PD K X b db) : PD K X (.BinOp a op b pos) (dBin F own da db) := fun hK =>
  PE.weak (pe_op ho (ha hK) (hb hK)) fun σ H Q ⟨Z, η, M, ε, Qd, r, s, q, fin⟩ =>
    ⟨Z, η, M, ε, _, r, s, q, fun v1 η1 M1 y1 H1 r1 k1 d1 q1 => ⟨Z, η1, M1, ε, _, r1, s.keep k1, q1, fun v2 η2 M2 y2 H2 r2 k2 d2 q2 => by
      obtain ⟨x, ex, q2⟩ := lk_of q2
      obtain ⟨y, ey, q2⟩ := lk_of q2
      refine hs hK Z η2 M2 H2 v1 v2 x y _ Q r2 (r2.top (d1.keep k2) ex) (r2.top d2 ey) q2 fun rr w H' ok q3 => ?_
      obtain ⟨η', M', z, r', k', d', q'⟩ := born_ok r2 ok q3
      exact fin w η' M' z H' r' (k1.trans (k2.trans k')) d' q'⟩⟩
theorem pd_cmp {op : CmpOp} {r : R2} {F : DF2} (ho : OpR X (compareOp op) r) (hs : X.K = K → OpS K r F) (ha : PD K X a da) (hb : PD K X b db) (hm : behindInMarks op b = false) : PD K X (.Compare a [op] [b] pos) (dBin F false da db) := fun hK =>
  PE.weak (pe_cmpR ho (ha hK) (hb hK) hm) fun σ H Q ⟨Z, η, M, ε, Qd, r, s, q, fin⟩ =>
    ⟨Z, η, M, ε, _, r, s, q, fun v1 η1 M1 y1 H1 r1 k1 d1 q1 => ⟨Z, η1, M1, ε, _, r1, s.keep k1, q1, fun v2 η2 M2 y2 H2 r2 k2 d2 q2 => by
      obtain ⟨x, ex, q2⟩ := lk_of q2
      obtain ⟨y, ey, q2⟩ := lk_of q2
      refine hs hK Z η2 M2 H2 v1 v2 x y _ Q r2 (r2.top (d1.keep k2) ex) (r2.top d2 ey) q2 fun rr w H' ok q3 => ?_
      obtain ⟨η', M', z, r', k', d', q'⟩ := born_ok r2 ok q3
      exact fin w η' M' z H' r' (k1.trans (k2.trans k')) d' q'⟩⟩
theorem pd_ix {r : R2} {F : DF2} (hr : IxR X r) (hs : X.K = K → OpS K r F) (ha : PD K X a da) (hb : PD K X b db) (hp : PlainIx b) : PD K X (.Subscript a b pos) (dBin F false da db) := fun hK =>
  PE.weak (pe_ix hr (ha hK) (hb hK) hp) fun σ H Q ⟨Z, η, M, ε, Qd, r, s, q, fin⟩ =>
    ⟨Z, η, M, ε, _, r, s, q, fun v1 η1 M1 y1 H1 r1 k1 d1 q1 => ⟨Z, η1, M1, ε, _, r1, s.keep k1, q1, fun v2 η2 M2 y2 H2 r2 k2 d2 q2 => by
      obtain ⟨x, ex, q2⟩ := lk_of q2
      obtain ⟨y, ey, q2⟩ := lk_of q2
      refine hs hK Z η2 M2 H2 v1 v2 x y _ Q r2 (r2.top (d1.keep k2) ex) (r2.top d2 ey) q2 fun rr w H' ok q3 => ?_
      obtain ⟨η', M', z, r', k', d', q'⟩ := born_ok r2 ok q3
      exact fin w η' M' z H' r' (k1.trans (k2.trans k')) d' q'⟩⟩
theorem pd_un {op : UnaryOp} {r : V → Hp → VK → Prop} {F : DF1} (ho : UnR X (unaryOp op) r) (hs : X.K = K → UnS K r F) (ha : PD K X a da) : PD K X (.UnaryOp op a pos) (dUn F false da) := fun hK =>
  PE.weak (pe_un ho (ha hK)) fun σ H Q ⟨Z, η, M, ε, Qd, r, s, q, fin⟩ =>
    ⟨Z, η, M, ε, _, r, s, q, fun v1 η1 M1 y1 H1 r1 k1 d1 q1 => by
      obtain ⟨x, ex, q2⟩ := lk_of q1
      refine hs hK Z η1 M1 H1 v1 x _ Q r1 (r1.top d1 ex) q2 fun rr w H' ok q3 => ?_
      obtain ⟨η', M', z, r', k', d', q'⟩ := born_ok r1 ok q3
      exact fin w η' M' z H' r' (k1.trans k') d' q'⟩
/-! arguments -/
theorem da_nil : PDA K X [] dNil := fun hK => PA.weak pa_nil fun σ H Q ⟨Z, η, M, ε, Qd, r, s, q, fin⟩ => fin [] η M [] H r .refl .nil q
theorem Paired.mapL {α β : Type} {F G : α → β → Prop} : ∀ {l₁ : List α} {l₂ : List β}, Paired F l₁ l₂ → (∀ a b, F a b → G a b) → Paired G l₁ l₂
  | _, _, .nil, _ => .nil
  | _, _, .cons r t, f => .cons (f _ _ r) (Paired.mapL t f)
theorem da_cons {dr : DA} (ha : PD K X e da) (hr : PDA K X es dr) (hs : starEach (e :: es) X.env = (false, eval e X.env) :: starEach es X.env := by rfl) : PDA K X (e :: es) (dCons da dr) := fun hK =>
  PA.weak (pa_cons (ha hK) (hr hK) hs) fun σ H Q ⟨Z, η, M, ε, Qd, r, s, q, fin⟩ =>
    ⟨Z, η, M, ε, _, r, s, q, fun v1 η1 M1 y1 H1 r1 k1 d1 q1 => ⟨Z, η1, M1, ε, _, r1, s.keep k1, q1, fun v2 η2 M2 y2 H2 r2 k2 d2 q2 =>
      fin (v1 :: v2) η2 M2 (y1 :: y2) H2 r2 (k1.trans k2) (.cons (d1.keep k2) d2) q2⟩⟩
theorem tops {Z : Addr → Prop} {η : List Addr} {M : Mem} {H : Hp} (r : Rel K Z η M H) : ∀ {vs : List V} {ys : List DV} {xs : List PyData}, Paired (Den K Z η M H) vs ys → lks M ys = some xs → Paired (fun v x => Top K (vis Z η M H) H v x) vs xs
  | [], [], xs, .nil, e => by cases e; exact .nil
  | v :: vs, y :: ys, xs, .cons h t, e => by
    unfold lks at e
    split at e
    · rename_i x xs' e1 e2
      cases e
      exact .cons (r.top h e1) (tops r t e2)
    · cases e
theorem dCB_ok {F : DFn} {r0 : List V → Hp → VK → Prop} {dar : DA} (hs : CallS K r0 F) {σ : L2.St} {H : Hp} {Q : VK} (h : tD n K (dCB F own dar) σ H Q) : tCB r0 (tA n K dar) σ H Q := by
  obtain ⟨Z, η, M, ε, Qd, r, s, q, fin⟩ := h
  refine ⟨Z, η, M, ε, _, r, s, q, fun v1 η1 M1 y1 H1 r1 k1 d1 q1 => ?_⟩
  split at q1
  · rename_i xs ex
    refine hs Z η1 M1 H1 v1 xs _ Q r1 (tops r1 d1 ex) q1 fun rr w H' ok q3 => ?_
    obtain ⟨η', M', z, r', k', d', q'⟩ := born_ok r1 ok q3
    exact fin w η' M' z H' r' (k1.trans k') d' q'
  · exact q1.elim
theorem pd_callB {x : Str} {p : Pos} {id : String} {r : List V → Hp → VK → Prop} {F : DFn} {dar : DA} (own : Bool) (hc : CallR X (.builtin id) r) (hs : X.K = K → CallS K r F) (hg : Gl X x) (hm : X.mg x = none) (hv : bootBuiltins x = some (.builtin id)) (ha : PDA K X (e :: es) dar) (hn : x ≠ "__name__" := by decide) (hdb : (x == ("__debug__" : Str)) = false := by decide)
    (he : starEach (e :: es) X.env = (false, eval e X.env) :: starEach es X.env := by rfl) (hpl : (backTo pos (starEach es X.env)).any (·.1) = false := by rfl) : PD K X (.Call (.Name x p) (e :: es) [] pos) (dCB F own dar) := fun hK =>
  PE.weak (pe_callB hc hg hm hv (ha hK) hn hdb he hpl) fun _ _ _ h => dCB_ok (hs hK) h
theorem pd_callTy {x : Str} {p : Pos} {T : String} {r : List V → Hp → VK → Prop} {F : DFn} {dar : DA} (own : Bool) (hc : CallR X (.type T) r) (hs : X.K = K → CallS K r F) (hg : Gl X x) (hm : X.mg x = none) (hv : bootBuiltins x = some (.type T)) (ha : PDA K X (e :: es) dar) (hn : x ≠ "__name__" := by decide) (hdb : (x == ("__debug__" : Str)) = false := by decide)
    (he : starEach (e :: es) X.env = (false, eval e X.env) :: starEach es X.env := by rfl) (hpl : (backTo pos (starEach es X.env)).any (·.1) = false := by rfl) : PD K X (.Call (.Name x p) (e :: es) [] pos) (dCB F own dar) := fun hK =>
  PE.weak (pe_callTy hc hg hm hv (ha hK) hn hdb he hpl) fun _ _ _ h => dCB_ok (hs hK) h
end
/-! ### displays -/
def asDs : List DV → Mem → (List PyData → Mem → Prop) → Prop
  | [], M, Q => Q [] M
  | y :: ys, M, Q => asD y M fun x M1 => asDs ys M1 fun xs M2 => Q (x :: xs) M2
def dLst (own : Bool) (da : DA) : DE := fun ε M Q => da ε M fun ys M1 => asDs ys M1 fun xs M2 => xs.length ≤ sizeLine ∧ born own (.l xs) M2 Q
def dTup (da : DA) : DE := fun ε M Q => da ε M fun ys M1 => asDs ys M1 fun xs M2 => xs.length ≤ sizeLine ∧ Q (.d (.tuple xs)) M2
section
variable {n : Nat} {K : PySem.W.Frag} {X : Cx} {a b c e : Expr} {es : List Expr} {da db dc : DE} {pos : Pos} {own : Bool}
theorem Rel.asDs {Z : Addr → Prop} {η : List Addr} {H : Hp} : ∀ {M : Mem} {vs : List V} {ys : List DV} {Q : List PyData → Mem → Prop} (r : Rel K Z η M H) (h : Paired (Den K Z η M H) vs ys) (q : asDs ys M Q),
    ∃ xs M', Rel K Z η M' H ∧ Keep η M H η M' H ∧ DqAll K (vis Z η M' H) vs xs ∧ Q xs M'
  | M, [], [], Q, r, .nil, q => ⟨[], M, r, .refl, .nil, q⟩
  | M, v :: vs, y :: ys, Q, r, .cons h t, q => by
    obtain ⟨x, M1, r1, k1, d1, q1⟩ := r.asD h q
    obtain ⟨xs, M2, r2, k2, d2, q2⟩ := Rel.asDs r1 (Paired.mapL t fun _ _ z => z.keep k1) q1
    exact ⟨x :: xs, M2, r2, k1.trans k2, .cons (Dq.sm k2.vis d1) d2, q2⟩
theorem pd_lst {dar : DA} (own : Bool) (h : PDA K X es dar) : PD K X (.List es pos) (dLst own dar) := fun hK =>
  PE.weak (pe_lst (h hK)) fun σ H Q ⟨Z, η, M, ε, Qd, r, s, q, fin⟩ =>
    ⟨Z, η, M, ε, _, r, s, q, fun v1 η1 M1 y1 H1 r1 k1 d1 q1 => by
      obtain ⟨xs, M2, r2, k2, d2, hz, q2⟩ := r1.asDs d1 q1
      refine ⟨by rw [DqAll.length d2]; exact hz, fun p hp => ?_⟩
      obtain ⟨η', M', z, r', k', d', q'⟩ := born_ok r2 (rr := .l xs) ⟨p, v1, rfl, hp, rfl, d2⟩ q2
      exact fin _ η' M' z _ r' (k1.trans (k2.trans k')) d' q'⟩
theorem pd_tup {dar : DA} {x1} (h : PDA K X es dar) : PD K X (.Tuple es x1 pos) (dTup dar) := fun hK =>
  PE.weak (pe_tupF (h hK)) fun σ H Q ⟨Z, η, M, ε, Qd, r, s, q, fin⟩ =>
    ⟨Z, η, M, ε, _, r, s, q, fun v1 η1 M1 y1 H1 r1 k1 d1 q1 => by
      obtain ⟨xs, M2, r2, k2, d2, hz, q2⟩ := r1.asDs d1 q1
      refine ⟨by rw [DqAll.length d2]; exact hz, fun p ob ho hp => ?_⟩
      obtain ⟨r3, k3⟩ := r2.new (o := .frz ob (.tup v1)) hp
      exact fin _ η1 M2 (.d (.tuple xs)) _ r3 (k1.trans (k2.trans k3)) (.tup ⟨ob, ho, r2.new_vis hp⟩ (DqAll.sm k3.vis d2)) q2⟩
end
end Dl
/-! Data level, 3: tests, and, or, operators, built-ins, slices. -/
namespace Dl
open PySem PySem.Spec PyProof.Rows L2 Ow
/-! ### tests -/
def dTest (de : DE) : DT := fun ε M Q => de ε M fun y M1 => match y with
  | .d (.bool b) => Q b M1
  | _ => False
def dNotT (t : DT) : DT := fun ε M Q => t ε M fun c M1 => Q (!c) M1
def dAnd (t u : DT) : DT := fun ε M Q => t ε M fun c M1 => if c = true then u ε M1 Q else Q false M1
def dOr (t u : DT) : DT := fun ε M Q => t ε M fun c M1 => if c = true then Q true M1 else u ε M1 Q
def dIf (t : DT) (da db : DE) : DE := fun ε M Q => t ε M fun c M1 => if c = true then da ε M1 Q else db ε M1 Q
def dAndV (da db : DE) : DE := fun ε M Q => da ε M fun y M1 => match y with
  | .d (.bool c) => if c = true then db ε M1 Q else Q (.d (.bool false)) M1
  | _ => False
def dOrV (da db : DE) : DE := fun ε M Q => da ε M fun y M1 => match y with
  | .d (.bool c) => if c = true then Q (.d (.bool true)) M1 else db ε M1 Q
  | _ => False
def dNotV (da : DE) : DE := fun ε M Q => da ε M fun y M1 => match y with
  | .d (.bool c) => Q (.d (.bool !c)) M1
  | _ => False
def dChain (p p' : Int → Int → Bool) (da db dc : DE) : DE := fun ε M Q => da ε M fun x M1 => db ε M1 fun y M2 => match x, y with
  | .d (.int i), .d (.int j) => if p i j = true then dc ε M2 fun z M3 => (match z with
      | .d (.int k) => Q (.d (.bool (p' j k))) M3
      | _ => False) else Q (.d (.bool false)) M2
  | _, _ => False
section
variable {n : Nat} {K : PySem.W.Frag} {X : Cx} {a b c e : Expr} {es rest : List Expr} {da db dc : DE} {dt du : DT} {pos : Pos} {own : Bool}
theorem bl_of {W : Hp} {v : V} {b : Bool} (h : Dq K W v (.bool b)) : v = .bl b := by cases h; rfl
theorem int_of' {W : Hp} {v : V} {b : Int} (h : Dq K W v (.int b)) : v = .int b := by cases h; rfl
theorem str_of' {W : Hp} {v : V} {b : Str} (h : Dq K W v (.str b)) : v = .str b := by cases h; rfl
theorem non_of' {W : Hp} {v : V} (h : Dq K W v .none) : v = .non := by cases h; rfl
theorem test_ok {de : DE} {σ : L2.St} {H : Hp} {Q : Bool → Hp → Prop} (h : tT n K (dTest de) σ H Q) : tD n K de σ H fun x H1 => ∃ c, x = .bl c ∧ Q c H1 := by
  obtain ⟨Z, η, M, ε, Qd, r, s, q, fin⟩ := h
  refine ⟨Z, η, M, ε, _, r, s, q, fun v η1 M1 y H1 r1 k1 d1 q1 => ?_⟩
  cases y with
  | o k => exact q1.elim
  | d x =>
    cases x with
    | bool b => exact ⟨b, bl_of d1, fin b η1 M1 H1 r1 k1 q1⟩
    | _ => exact q1.elim
theorem dBin_ok {F : DF2} {r0 : R2} (hs : OpS K r0 F) {σ : L2.St} {H : Hp} {Q : VK} (h : tD n K (dBin F own da db) σ H Q) : tOp r0 (tD n K da) (tD n K db) σ H Q := by
  obtain ⟨Z, η, M, ε, Qd, r, s, q, fin⟩ := h
  refine ⟨Z, η, M, ε, _, r, s, q, fun v1 η1 M1 y1 H1 r1 k1 d1 q1 => ⟨Z, η1, M1, ε, _, r1, s.keep k1, q1, fun v2 η2 M2 y2 H2 r2 k2 d2 q2 => ?_⟩⟩
  obtain ⟨x, ex, q2⟩ := lk_of q2
  obtain ⟨y, ey, q2⟩ := lk_of q2
  refine hs Z η2 M2 H2 v1 v2 x y _ Q r2 (r2.top (d1.keep k2) ex) (r2.top d2 ey) q2 fun rr w H' ok q3 => ?_
  obtain ⟨η', M', z, r', k', d', q'⟩ := born_ok r2 ok q3
  exact fin w η' M' z H' r' (k1.trans (k2.trans k')) d' q'
theorem pdt_cmp {op : CmpOp} {r : R2} {F : DF2} (ho : OpR X (compareOp op) r) (hs : X.K = K → OpS K r F) (ha : PD K X a da) (hb : PD K X b db) (hm : behindInMarks op b = false) : PDT K X (.Compare a [op] [b] pos) (dTest (dBin F false da db)) := fun hK =>
  PT.weak (pt_cmpR ho (ha hK) (hb hK) hm) fun σ H Q h => dBin_ok (hs hK) (test_ok h)
theorem pdt_val {de : DE} (h : PD K X e de) (he : ∀ whole, isTrue e X.env whole = (do let v ← whole; standAt e.pos; holding [v] (truthy v)) := by intro _; rfl) : PDT K X e (dTest de) := fun hK =>
  PT.weak (pt_val (h hK) he) fun σ H Q h => test_ok h
theorem pdt_not (h : PDT K X a dt) : PDT K X (.UnaryOp .Not a pos) (dNotT dt) := fun hK =>
  PT.weak (pt_not (h hK)) fun σ H Q ⟨Z, η, M, ε, Qd, r, s, q, fin⟩ => ⟨Z, η, M, ε, _, r, s, q, fun b η1 M1 H1 r1 k1 q1 => fin _ η1 M1 H1 r1 k1 q1⟩
theorem pdw_and1 (h : PDT K X a dt) : PDW K X (.BoolOp .And [a] pos) dt := fun hK => pw_and1 (h hK)
theorem pdw_or1 (h : PDT K X a dt) : PDW K X (.BoolOp .Or [a] pos) dt := fun hK => pw_or1 (h hK)
theorem pdw_and (ha : PDT K X a dt) (hb : PDW K X (.BoolOp .And (b :: rest) pos) du) : PDW K X (.BoolOp .And (a :: b :: rest) pos) (dAnd dt du) := fun hK =>
  PW.weak (pw_and (ha hK) (hb hK)) fun σ H Q ⟨Z, η, M, ε, Qd, r, s, q, fin⟩ => ⟨Z, η, M, ε, _, r, s, q, fun b η1 M1 H1 r1 k1 q1 => by
    cases b with
    | true => exact ⟨Z, η1, M1, ε, _, r1, s.keep k1, q1, fun b2 η2 M2 H2 r2 k2 q2 => fin b2 η2 M2 H2 r2 (k1.trans k2) q2⟩
    | false => exact fin false η1 M1 H1 r1 k1 q1⟩
theorem pdw_or (ha : PDT K X a dt) (hb : PDW K X (.BoolOp .Or (b :: rest) pos) du) : PDW K X (.BoolOp .Or (a :: b :: rest) pos) (dOr dt du) := fun hK =>
  PW.weak (pw_or (ha hK) (hb hK)) fun σ H Q ⟨Z, η, M, ε, Qd, r, s, q, fin⟩ => ⟨Z, η, M, ε, _, r, s, q, fun b η1 M1 H1 r1 k1 q1 => by
    cases b with
    | false => exact ⟨Z, η1, M1, ε, _, r1, s.keep k1, q1, fun b2 η2 M2 H2 r2 k2 q2 => fin b2 η2 M2 H2 r2 (k1.trans k2) q2⟩
    | true => exact fin true η1 M1 H1 r1 k1 q1⟩
theorem pdt_w (h : PDW K X e dt) : PDT K X e dt := fun hK => PW.pt (h hK)
theorem pd_if {c : Expr} (hc : PDT K X c dt) (ha : PD K X a da) (hb : PD K X b db) : PD K X (.IfExp c a b pos) (dIf dt da db) := fun hK =>
  PE.weak (pe_ifExp (hc hK) (ha hK) (hb hK)) fun σ H Q ⟨Z, η, M, ε, Qd, r, s, q, fin⟩ => ⟨Z, η, M, ε, _, r, s, q, fun b η1 M1 H1 r1 k1 q1 => by
    cases b with
    | true => exact ⟨Z, η1, M1, ε, _, r1, s.keep k1, q1, fun v η2 M2 y H2 r2 k2 d2 q2 => fin v η2 M2 y H2 r2 (k1.trans k2) d2 q2⟩
    | false => exact ⟨Z, η1, M1, ε, _, r1, s.keep k1, q1, fun v η2 M2 y H2 r2 k2 d2 q2 => fin v η2 M2 y H2 r2 (k1.trans k2) d2 q2⟩⟩
theorem pd_one {op} (h : PD K X a da) : PD K X (.BoolOp op [a] pos) da := fun hK => pe_one (h hK)
theorem pd_and (ha : PD K X a da) (hb : PD K X (.BoolOp .And (b :: rest) pos) db) : PD K X (.BoolOp .And (a :: b :: rest) pos) (dAndV da db) := fun hK =>
  PE.weak (pe_and (ha hK) (hb hK)) fun σ H Q ⟨Z, η, M, ε, Qd, r, s, q, fin⟩ => ⟨Z, η, M, ε, _, r, s, q, fun v η1 M1 y H1 r1 k1 d1 q1 => by
    cases y with
    | o k => exact q1.elim
    | d x =>
      cases x with
      | bool b =>
        refine ⟨b, bl_of d1, ?_⟩
        cases b with
        | true => exact ⟨Z, η1, M1, ε, _, r1, s.keep k1, q1, fun v η2 M2 y H2 r2 k2 d2 q2 => fin v η2 M2 y H2 r2 (k1.trans k2) d2 q2⟩
        | false => exact fin (.bl false) η1 M1 (.d (.bool false)) H1 r1 k1 (Dq.bl false) q1
      | _ => exact q1.elim⟩
theorem pd_or (ha : PD K X a da) (hb : PD K X (.BoolOp .Or (b :: rest) pos) db) : PD K X (.BoolOp .Or (a :: b :: rest) pos) (dOrV da db) := fun hK =>
  PE.weak (pe_or (ha hK) (hb hK)) fun σ H Q ⟨Z, η, M, ε, Qd, r, s, q, fin⟩ => ⟨Z, η, M, ε, _, r, s, q, fun v η1 M1 y H1 r1 k1 d1 q1 => by
    cases y with
    | o k => exact q1.elim
    | d x =>
      cases x with
      | bool b =>
        refine ⟨b, bl_of d1, ?_⟩
        cases b with
        | false => exact ⟨Z, η1, M1, ε, _, r1, s.keep k1, q1, fun v η2 M2 y H2 r2 k2 d2 q2 => fin v η2 M2 y H2 r2 (k1.trans k2) d2 q2⟩
        | true => exact fin (.bl true) η1 M1 (.d (.bool true)) H1 r1 k1 (Dq.bl true) q1
      | _ => exact q1.elim⟩
theorem pd_not (ha : PD K X a da) : PD K X (.UnaryOp .Not a pos) (dNotV da) := fun hK =>
  PE.weak (pe_not (ha hK)) fun σ H Q ⟨Z, η, M, ε, Qd, r, s, q, fin⟩ => ⟨Z, η, M, ε, _, r, s, q, fun v η1 M1 y H1 r1 k1 d1 q1 => by
    cases y with
    | o k => exact q1.elim
    | d x =>
      cases x with
      | bool b => exact ⟨b, bl_of d1, fin _ η1 M1 (.d (.bool _)) H1 r1 k1 (Dq.bl _) q1⟩
      | _ => exact q1.elim⟩
theorem dChain_ok {p p' : Int → Int → Bool} {σ : L2.St} {H : Hp} {Q : VK} (h : tD n K (dChain p p' da db dc) σ H Q) : tChain (rI0 fun i j => .bl (p i j)) (rI0 fun i j => .bl (p' i j)) (tD n K da) (tD n K db) (tD n K dc) σ H Q := by
  obtain ⟨Z, η, M, ε, Qd, r, s, q, fin⟩ := h
  refine ⟨Z, η, M, ε, _, r, s, q, fun v1 η1 M1 y1 H1 r1 k1 d1 q1 => ⟨Z, η1, M1, ε, _, r1, s.keep k1, q1, fun v2 η2 M2 y2 H2 r2 k2 d2 q2 => ?_⟩⟩
  split at q2
  · rename_i i j
    refine ⟨i, j, int_of' (W := vis Z η1 M1 H1) d1, int_of' (W := vis Z η2 M2 H2) d2, p i j, rfl, ?_⟩
    cases c : p i j with
    | true =>
      rw [c] at q2
      refine ⟨Z, η2, M2, ε, _, r2, s.keep (k1.trans k2), q2, fun v3 η3 M3 y3 H3 r3 k3 d3 q3 => ?_⟩
      cases y3 with
      | o k => exact q3.elim
      | d x =>
        cases x with
        | int k => exact ⟨j, k, int_of' (W := vis Z η2 M2 H2) d2, int_of' (W := vis Z η3 M3 H3) d3, fin _ η3 M3 (.d (.bool _)) H3 r3 (k1.trans (k2.trans k3)) (Dq.bl _) q3⟩
        | _ => exact q3.elim
    | false =>
      rw [c] at q2
      exact fin (.bl false) η2 M2 (.d (.bool false)) H2 r2 (k1.trans k2) (Dq.bl false) q2
  · exact q2.elim
theorem pd_chain {op op' : CmpOp} {p p' : Int → Int → Bool} (ho : OpR X (compareOp op) (rI0 fun i j => .bl (p i j))) (ho' : OpR X (compareOp op') (rI0 fun i j => .bl (p' i j))) (ha : PD K X a da) (hb : PD K X b db) (hc : PD K X c dc)
    (hm : lastMarks [op, op'] [b, c] = false := by with_unfolding_all rfl) : PD K X (.Compare a [op, op'] [b, c] pos) (dChain p p' da db dc) := fun hK =>
  PE.weak (pe_chain ho ho' (ha hK) (hb hK) (hc hK) hm) fun σ H Q h => dChain_ok h
theorem pdt_chain {op op' : CmpOp} {p p' : Int → Int → Bool} (ho : OpR X (compareOp op) (rI0 fun i j => .bl (p i j))) (ho' : OpR X (compareOp op') (rI0 fun i j => .bl (p' i j))) (ha : PD K X a da) (hb : PD K X b db) (hc : PD K X c dc)
    (hm : lastMarks [op, op'] [b, c] = false := by with_unfolding_all rfl) : PDT K X (.Compare a [op, op'] [b, c] pos) (dTest (dChain p p' da db dc)) := fun hK =>
  PT.weak (pt_chain ho ho' (ha hK) (hb hK) (hc hK) hm) fun σ H Q h => dChain_ok (test_ok h)
end
/-! ### operators -/
theorem DqAll.append {K : PySem.W.Frag} {H : Hp} : ∀ {vs us : List V} {ds es : List PyData}, DqAll K H vs ds → DqAll K H us es → DqAll K H (vs ++ us) (ds ++ es)
  | _, _, _, _, .nil, q => q
  | _, _, _, _, .cons h t, q => .cons h (DqAll.append t q)
theorem DqAll.take {K : PySem.W.Frag} {H : Hp} : ∀ {vs : List V} {ds : List PyData} (n : Nat), DqAll K H vs ds → DqAll K H (vs.take n) (ds.take n)
  | _, _, 0, _ => .nil
  | _, _, _ + 1, .nil => .nil
  | _, _, n + 1, .cons h t => .cons h (DqAll.take n t)
theorem DqAll.drop {K : PySem.W.Frag} {H : Hp} : ∀ {vs : List V} {ds : List PyData} (n : Nat), DqAll K H vs ds → DqAll K H (vs.drop n) (ds.drop n)
  | _, _, 0, h => h
  | _, _, _ + 1, .nil => .nil
  | _, _, n + 1, .cons _ t => DqAll.drop n t
theorem DqAll.reverse {K : PySem.W.Frag} {H : Hp} : ∀ {vs : List V} {ds : List PyData}, DqAll K H vs ds → DqAll K H vs.reverse ds.reverse
  | _, _, .nil => .nil
  | _, _, .cons h t => by
    rw [List.reverse_cons, List.reverse_cons]
    exact DqAll.append (DqAll.reverse t) (.cons h .nil)
theorem DqAll.rep {K : PySem.W.Frag} {H : Hp} {vs : List V} {ds : List PyData} (h : DqAll K H vs ds) : ∀ n : Nat, DqAll K H (List.replicate n vs).flatten (List.replicate n ds).flatten
  | 0 => .nil
  | n + 1 => by
    rw [List.replicate_succ, List.replicate_succ, List.flatten_cons, List.flatten_cons]
    exact DqAll.append h (DqAll.rep h n)
theorem DqAll.set {K : PySem.W.Frag} {H : Hp} {v : V} {d : PyData} (q : Dq K H v d) : ∀ {vs : List V} {ds : List PyData} (i : Nat), DqAll K H vs ds → DqAll K H (vs.set i v) (ds.set i d)
  | _, _, _, .nil => .nil
  | _, _, 0, .cons _ t => .cons q t
  | _, _, n + 1, .cons h t => .cons h (DqAll.set q n t)
theorem DqAll.at' {K : PySem.W.Frag} {H : Hp} : ∀ {vs : List V} {ds : List PyData} (i : Nat) {v : V}, DqAll K H vs ds → vs[i]? = some v → ∃ d, ds[i]? = some d ∧ Dq K H v d
  | _, _, i, _, .nil, e => by simp at e
  | v :: _, _ :: _, 0, w, .cons h _, e => ⟨_, rfl, by
    have e : v = w := Option.some.inj e
    rw [← e]
    exact h⟩
  | _, _ :: _, i + 1, _, .cons _ t, e => by
    obtain ⟨v, a, b⟩ := DqAll.at' i t (by simpa using e)
    exact ⟨v, by simpa using a, b⟩
theorem DqAll.ints {K : PySem.W.Frag} {H : Hp} : ∀ {vs : List V} {ns : List Int}, DqAll K H vs (ns.map PyData.int) → vs = ns.map V.int
  | _, [], .nil => rfl
  | _, n :: ns, .cons h t => by rw [int_of' h, DqAll.ints t]; rfl
theorem DqAll.ofInts {K : PySem.W.Frag} {H : Hp} : ∀ (ns : List Int), DqAll K H (ns.map V.int) (ns.map PyData.int)
  | [] => .nil
  | n :: ns => .cons (.int n) (DqAll.ofInts ns)
theorem DqAll.bools {K : PySem.W.Frag} {H : Hp} : ∀ {vs : List V} {ns : List Bool}, DqAll K H vs (ns.map PyData.bool) → vs = ns.map V.bl
  | _, [], .nil => rfl
  | _, n :: ns, .cons h t => by rw [bl_of h, DqAll.bools t]; rfl
theorem DqAll.strs {K : PySem.W.Frag} {H : Hp} : ∀ {vs : List V} {ns : List Str}, DqAll K H vs (ns.map PyData.str) → vs = ns.map V.str
  | _, [], .nil => rfl
  | _, n :: ns, .cons h t => by rw [str_of' h, DqAll.strs t]; rfl
theorem DqAll.ofStrs {K : PySem.W.Frag} {H : Hp} : ∀ (ns : List Str), DqAll K H (ns.map V.str) (ns.map PyData.str)
  | [] => .nil
  | n :: ns => .cons (.str n) (DqAll.ofStrs ns)
section
variable {X : Cx}
/-- list + list, whatever they are -/
def rCatL (K : PySem.W.Frag) : R2 := fun x y H Q => ∃ l b xs zs, x = .ref l ∧ y = .ref b ∧ SqL K H l xs ∧ SqL K H b zs ∧ xs.length + zs.length ≤ sizeLine ∧ ∀ p, H p = none → Q (.ref p) (upd H p (.lst (xs ++ zs)))
theorem op_catL : OpR X (binaryOp .Add) (rCatL X.K) := by
  intro pins s σ H x y v u Q I rx ry h
  obtain ⟨l, b, xs, zs, rfl, rfl, hH, hB, hz, q⟩ := h
  cases rx
  cases ry
  obtain ⟨its, r, pl, z1⟩ := I.list hH
  obtain ⟨its2, r2, pl2, z2⟩ := I.list hB
  obtain ⟨⟨cls, dd, data, sl⟩, n, ho, hc, hd0, hd⟩ := pl
  obtain ⟨⟨cls2, dd2, data2, sl2⟩, n2, ho2, hc2, hd02, hd2⟩ := pl2
  simp only at hc hd hc2 hd2
  subst hc hd hc2 hd2
  have hl := r.length
  have hl2 := r2.length
  have e : its.toArray ++ its2.toArray = (its ++ its2).toArray := by simp
  refine concat_meets ⟨_, ho, rfl⟩ ⟨_, ho2, rfl⟩ noFill_list_add seq_list_add PySem.F.slot_list_add PySem.F.entry_list_add (PySem.F.args_list_add_2 _ _) (list_addW l b its.toArray its2.toArray n n2 dd dd2 sl sl2 (by rw [List.size_toArray, List.size_toArray]; omega)) ⟨ho, ho2, ?_⟩
  rw [e]
  exact ⟨.ref _, _, I.lnew (t' := s.toks) (r.append r2) (by rw [List.length_append]; omega), rfl, q _ I.fresh⟩
end
def fAdd : DF2
  | .int a, .int b, Q => Q (.v (.int (a + b)))
  | .str a, .str b, Q => a.length + b.length ≤ sizeLine ∧ Q (.v (.str (a ++ b)))
  | .list a, .list b, Q => a.length + b.length ≤ sizeLine ∧ Q (.l (a ++ b))
  | .tuple a, .tuple b, Q => a.length + b.length ≤ sizeLine ∧ Q (.v (.tuple (a ++ b)))
  | _, _, _ => False
def rAdd (K : PySem.W.Frag) : R2 := fun x y H Q => rI0 (fun i j => .int (i + j)) x y H Q ∨ (∃ i j, x = .str i ∧ y = .str j ∧ i.length + j.length ≤ sizeLine ∧ Q (.str (i ++ j)) H) ∨ rCatL K x y H Q ∨ rCatF x y H Q
theorem op_addD {X : Cx} : OpR X (binaryOp .Add) (rAdd X.K) := OpR.or op_add (OpR.or op_add_str (OpR.or op_catL op_catF))
theorem Rel.smNew {K : PySem.W.Frag} {Z : Addr → Prop} {η : List Addr} {M : Mem} {H H' : Hp} (r : Rel K Z η M H) (s : Sm H H') : Rel K Z η M H' ∧ Keep η M H η M H' := by
  have kp : Keep η M H η M H' := ⟨⟨[], (List.append_nil _).symm⟩, fun b o e n => ⟨s _ _ e, n⟩⟩
  refine ⟨⟨r.len, fun k a c e1 e2 => (r.ok k a c e1 e2).keep (fun u e => s _ _ e) kp.vis fun _ _ e => e, r.inj, fun b hb => ⟨fun e => ?_, (r.z b hb).2⟩⟩, kp⟩
  cases q : H b with
  | none => exact (r.z b hb).1 q
  | some o => rw [s _ _ q] at e; cases e
theorem opS_add {K : PySem.W.Frag} : OpS K (rAdd K) fAdd := by
  intro Z η M H v u x y Qd Qv r hx hy h fin
  cases x with
  | int a =>
    cases y with
    | int b => exact .inl ⟨a, b, int_of' hx, int_of' hy, fin _ _ H (.sc r (.int _)) h⟩
    | _ => exact h.elim
  | str a =>
    cases y with
    | str b => exact .inr (.inl ⟨a, b, str_of' hx, str_of' hy, h.1, fin _ _ H (.sc r (.str _)) h.2⟩)
    | _ => exact h.elim
  | list a =>
    cases y with
    | list b =>
      obtain ⟨l, vs, rfl, s1, d1⟩ := hx
      obtain ⟨l2, vs2, rfl, s2, d2⟩ := hy
      exact .inr (.inr (.inl ⟨l, l2, vs, vs2, rfl, rfl, s1, s2, by rw [DqAll.length d1, DqAll.length d2]; exact h.1, fun p hp => fin _ _ _ (show ResOk K Z η M H _ _ (.l (a ++ b)) from ⟨p, _, rfl, hp, rfl, DqAll.append d1 d2⟩) h.2⟩))
    | _ => exact h.elim
  | tuple a =>
    cases y with
    | tuple b =>
      obtain ⟨l, vs, rfl, s1, d1⟩ := hx
      obtain ⟨l2, vs2, rfl, s2, d2⟩ := hy
      refine .inr (.inr (.inr ⟨l, l2, vs, vs2, rfl, rfl, SqF.sm s1 vis_sub, SqF.sm s2 vis_sub, by rw [DqAll.length d1, DqAll.length d2]; exact h.1, fun e => ?_, fun _ e => ?_, fun _ _ p ob ho hp => ?_⟩))
      · subst e
        have ea : a = [] := List.eq_nil_of_length_eq_zero (DqAll.length d1).symm
        subst ea
        exact fin _ _ H (.sc r (.tup s2 d2)) h.2
      · subst e
        have eb : b = [] := List.eq_nil_of_length_eq_zero (DqAll.length d2).symm
        subst eb
        have h2 := h.2
        rw [List.append_nil] at h2
        exact fin _ _ H (.sc r (.tup s1 d1)) h2
      · exact fin _ _ _ (.tup r ho hp (DqAll.append d1 d2)) h.2
    | _ => exact h.elim
  | _ => exact h.elim
/-! numbers -/
def fInt (C : Int → Int → Prop) (g : Int → Int → PyData) : DF2
  | .int a, .int b, Q => C a b ∧ Q (.v (g a b))
  | _, _, _ => False
def fInt0 (g : Int → Int → PyData) : DF2
  | .int a, .int b, Q => Q (.v (g a b))
  | _, _, _ => False
/-- the values without heap -/
def scV : PyData → Option V
  | .none => some .non
  | .bool b => some (.bl b)
  | .int i => some (.int i)
  | .str x => some (.str x)
  | _ => none
theorem scV_dq {K : PySem.W.Frag} {H : Hp} {d : PyData} {v : V} (e : scV d = some v) : Dq K H v d := by
  cases d <;> cases e <;> constructor
theorem opS_int {K : PySem.W.Frag} {C : Int → Int → Prop} {g : Int → Int → PyData} {gv : Int → Int → V} (hg : ∀ i j, scV (g i j) = some (gv i j)) : OpS K (rI C gv) (fInt C g) := by
  intro Z η M H v u x y Qd Qv r hx hy h fin
  cases x with
  | int a =>
    cases y with
    | int b => exact ⟨a, b, int_of' hx, int_of' hy, h.1, fin _ _ H (.sc r (scV_dq (hg a b))) h.2⟩
    | _ => exact h.elim
  | _ => exact h.elim
theorem opS_int0 {K : PySem.W.Frag} {g : Int → Int → PyData} {gv : Int → Int → V} (hg : ∀ i j, scV (g i j) = some (gv i j)) : OpS K (rI0 gv) (fInt0 g) := by
  intro Z η M H v u x y Qd Qv r hx hy h fin
  cases x with
  | int a =>
    cases y with
    | int b => exact ⟨a, b, int_of' hx, int_of' hy, fin _ _ H (.sc r (scV_dq (hg a b))) h⟩
    | _ => exact h.elim
  | _ => exact h.elim
def fNeg : DF1
  | .int a, Q => Q (.v (.int (-a)))
  | _, _ => False
theorem unS_neg {K : PySem.W.Frag} : UnS K (rU fun i => .int (-i)) fNeg := by
  intro Z η M H v x Qd Qv r hx h fin
  cases x with
  | int a => exact ⟨a, int_of' hx, fin _ _ H (.sc r (.int _)) h⟩
  | _ => exact h.elim
/-! == and the like -/
def fEqB (neg : Bool) : PyData → PyData → Option (Prop × Bool)
  | _, _ => none
/-- what == says where it is plain -/
def eqP : PyData → PyData → Option Bool
  | .int a, .int b => some (decide (a = b))
  | .str a, .str b => some (decide (a = b))
  | .bool a, .bool b => some (decide (a = b))
  | .none, .none => some true
  | .none, .int _ => some false
  | .none, .str _ => some false
  | .none, .bool _ => some false
  | .int _, .none => some false
  | .str _, .none => some false
  | .bool _, .none => some false
  | .int _, .str _ => some false
  | .str _, .int _ => some false
  | .bool _, .str _ => some false
  | .str _, .bool _ => some false
  | _, _ => none
def fEq (neg : Bool) (x y : PyData) (Q : Res → Prop) : Prop := match eqP x y with
  | some b => Q (.v (.bool (if neg then !b else b)))
  | none => SeqAt.shaped x = true ∧ SeqAt.shaped y = true ∧ Q (.v (.bool (if neg then !PyData.eqv x y else PyData.eqv x y)))
def rEqA (K : PySem.W.Frag) : R2 := fun x y H Q => rEq x y H Q ∨ rEqD K x y H Q
def rNeA (K : PySem.W.Frag) : R2 := fun x y H Q => rNe x y H Q ∨ rNeD K x y H Q
theorem op_eqA {X : Cx} (hu : X.A.units + 64 < cLine) : OpR X (compareOp .Eq) (rEqA X.K) := OpR.or op_eq (op_eqD hu)
theorem op_neA {X : Cx} (hu : X.A.units + 64 < cLine) : OpR X (compareOp .NotEq) (rNeA X.K) := OpR.or op_ne (op_neD hu)
mutual
theorem dq_dp {K : PySem.W.Frag} {H : Hp} : ∀ {v : V} {d : PyData}, Dq K H v d → d.hasDict = false → Dp K H v d
  | _, _, .non, _ => .non
  | _, _, .bl b, _ => .bl b
  | _, _, .int i, _ => .int i
  | _, _, .str x, _ => .str x
  | _, _, .lst h t, e => .lst h (dqAll_dp t (by simpa only [PyData.hasDict] using e))
  | _, _, .tup h t, e => .tup h.t (dqAll_dp t (by simpa only [PyData.hasDict] using e))
  | _, _, .dct h t, e => by simp [PyData.hasDict] at e
theorem dqAll_dp {K : PySem.W.Frag} {H : Hp} : ∀ {vs : List V} {ds : List PyData}, DqAll K H vs ds → PyData.hasDictAll ds = false → DpAll K H vs ds
  | _, _, .nil, _ => .nil
  | _, _, .cons h t, e => by
    simp only [PyData.hasDictAll, Bool.or_eq_false_iff] at e
    exact .cons (dq_dp h e.1) (dqAll_dp t e.2)
end
theorem eqP_scal {K : PySem.W.Frag} {H : Hp} {v u : V} {x y : PyData} {b : Bool} (hx : Dq K H v x) (hy : Dq K H u y) (e : eqP x y = some b) : scal v u = true ∧ decide (v = u) = b := by
  cases hx <;> cases hy <;> first
    | (cases e; exact ⟨rfl, by simp⟩)
    | (cases e)
theorem no_dict {d : PyData} (h : SeqAt.shaped d = true) : d.hasDict = false := PyData.hasDict_of_canLay d (SeqAt.canLay_of_shaped h)
theorem top_dq {K : PySem.W.Frag} {Z : Addr → Prop} {η : List Addr} {M : Mem} {H : Hp} {v : V} {x : PyData} (h : Top K (vis Z η M H) H v x) : Dq K H v x := h.dq vis_sub
theorem opS_eq {K : PySem.W.Frag} : OpS K (rEqA K) (fEq false) := by
  intro Z η M H v u x y Qd Qv r hx hy h fin
  have dx := top_dq hx
  have dy := top_dq hy
  unfold fEq at h
  split at h
  · rename_i b e
    obtain ⟨s, c⟩ := eqP_scal dx dy e
    exact .inl ⟨s, by rw [c]; exact fin _ _ H (.sc r (.bl b)) h⟩
  · exact .inr ⟨x, y, dq_dp dx (no_dict h.1), dq_dp dy (no_dict h.2.1), h.1, h.2.1, fin _ _ H (.sc r (.bl _)) h.2.2⟩
theorem opS_ne {K : PySem.W.Frag} : OpS K (rNeA K) (fEq true) := by
  intro Z η M H v u x y Qd Qv r hx hy h fin
  have dx := top_dq hx
  have dy := top_dq hy
  unfold fEq at h
  split at h
  · rename_i b e
    obtain ⟨s, c⟩ := eqP_scal dx dy e
    exact .inl ⟨s, by rw [c]; exact fin _ _ H (.sc r (.bl (!b))) h⟩
  · exact .inr ⟨x, y, dq_dp dx (no_dict h.1), dq_dp dy (no_dict h.2.1), h.1, h.2.1, fin _ _ H (.sc r (.bl _)) h.2.2⟩
def isNoneD : PyData → Bool
  | .none => true
  | _ => false
def fIsN (neg : Bool) : DF2
  | x, .none, Q => Q (.v (.bool (if neg then !isNoneD x else isNoneD x)))
  | _, _, _ => False
theorem none_dec {K : PySem.W.Frag} {H : Hp} {v : V} {x : PyData} (h : Dq K H v x) : decide (v = V.non) = isNoneD x := by cases h <;> simp [isNoneD]
theorem opS_isN {K : PySem.W.Frag} : OpS K (fun x y H Q => y = .non ∧ Q (.bl (decide (x = .non))) H) (fIsN false) := by
  intro Z η M H v u x y Qd Qv r hx hy h fin
  cases y with
  | none => exact ⟨non_of' hy, by rw [none_dec (top_dq hx)]; exact fin _ _ H (.sc r (.bl _)) h⟩
  | _ => exact h.elim
theorem opS_notN {K : PySem.W.Frag} : OpS K (fun x y H Q => y = .non ∧ Q (.bl (!decide (x = .non))) H) (fIsN true) := by
  intro Z η M H v u x y Qd Qv r hx hy h fin
  cases y with
  | none => exact ⟨non_of' hy, by rw [none_dec (top_dq hx)]; exact fin _ _ H (.sc r (.bl _)) h⟩
  | _ => exact h.elim
def fIsB (neg : Bool) : DF2
  | .bool a, .bool b, Q => Q (.v (.bool (if neg then !decide (a = b) else decide (a = b))))
  | _, _, _ => False
theorem opS_isB {K : PySem.W.Frag} : OpS K rIsB (fIsB false) := by
  intro Z η M H v u x y Qd Qv r hx hy h fin
  cases x with
  | bool a =>
    cases y with
    | bool b => exact ⟨a, b, bl_of hx, bl_of hy, fin _ _ H (.sc r (.bl _)) h⟩
    | _ => exact h.elim
  | _ => exact h.elim
theorem opS_notB {K : PySem.W.Frag} : OpS K rNotB (fIsB true) := by
  intro Z η M H v u x y Qd Qv r hx hy h fin
  cases x with
  | bool a =>
    cases y with
    | bool b => exact ⟨a, b, bl_of hx, bl_of hy, fin _ _ H (.sc r (.bl _)) h⟩
    | _ => exact h.elim
  | _ => exact h.elim
/-! in -/
def flatD : PyData → Bool
  | .none => true
  | .bool _ => true
  | .int _ => true
  | .str _ => true
  | _ => false
def eqF : PyData → PyData → Bool
  | .none, .none => true
  | .bool a, .bool b => a == b
  | .bool a, .int b => (if a then 1 else 0) == b
  | .int a, .bool b => a == (if b then 1 else 0)
  | .int a, .int b => a == b
  | .str a, .str b => a == b
  | _, _ => false
def inF (x : PyData) (ys : List PyData) : Bool := ys.any fun y => eqF y x
theorem flat_of {K : PySem.W.Frag} {H : Hp} {v : V} {x : PyData} (h : Dq K H v x) (f : flatD x = true) : flatV v = true := by cases h <;> first | rfl | cases f
theorem eqF_of {K : PySem.W.Frag} {H : Hp} {v u : V} {x y : PyData} (h : Dq K H v x) (h2 : Dq K H u y) : eqV v u = eqF x y := by cases h <;> cases h2 <;> rfl
theorem flats_of {K : PySem.W.Frag} {H : Hp} : ∀ {vs : List V} {xs : List PyData}, DqAll K H vs xs → xs.all flatD = true → vs.all flatV = true
  | _, _, .nil, _ => rfl
  | _, _, .cons h t, f => by
    rw [List.all_cons, Bool.and_eq_true] at f ⊢
    exact ⟨flat_of h f.1, flats_of t f.2⟩
theorem inF_of {K : PySem.W.Frag} {H : Hp} {v : V} {x : PyData} (h : Dq K H v x) : ∀ {vs : List V} {xs : List PyData}, DqAll K H vs xs → inV v vs = inF x xs
  | _, _, .nil => rfl
  | _, _, .cons g t => by
    have := inF_of h t
    unfold inV inF at this ⊢
    rw [List.any_cons, List.any_cons, this, eqF_of g h]
def fIn (neg : Bool) : DF2
  | x, .list ys, Q => flatD x = true ∧ ys.all flatD = true ∧ Q (.v (.bool (if neg then !inF x ys else inF x ys)))
  | x, .tuple ys, Q => flatD x = true ∧ ys.all flatD = true ∧ Q (.v (.bool (if neg then !inF x ys else inF x ys)))
  | _, _, _ => False
theorem opS_in {K : PySem.W.Frag} {neg : Bool} : OpS K (rIn K neg) (fIn neg) := by
  intro Z η M H v u x y Qd Qv r hx hy h fin
  have dx := top_dq hx
  have dy := top_dq hy
  cases y with
  | list ys =>
    cases dy with
    | lst s t => exact ⟨_, _, rfl, .inl s, flat_of dx h.1, flats_of t h.2.1, by rw [inF_of dx t]; exact fin _ _ H (.sc r (.bl _)) h.2.2⟩
  | tuple ys =>
    cases dy with
    | tup s t => exact ⟨_, _, rfl, .inr s.t, flat_of dx h.1, flats_of t h.2.1, by rw [inF_of dx t]; exact fin _ _ H (.sc r (.bl _)) h.2.2⟩
  | _ => exact h.elim
/-! x[i] -/
def fIx : DF2
  | .list xs, .int i, Q => lk1 (atI xs i) fun d => Q (.v d)
  | .tuple xs, .int i, Q => lk1 (atI xs i) fun d => Q (.v d)
  | .str z, .int i, Q => z.length ≤ sizeLine ∧ lk1 (atI z.cps.toList i) fun c => Q (.v (.str ⟨#[c]⟩))
  | _, _, _ => False
theorem DqAll.atI {K : PySem.W.Frag} {H : Hp} {vs : List V} {ds : List PyData} {i : Int} {d : PyData} (h : DqAll K H vs ds) (e : atI ds i = some d) : ∃ v, L2.atI vs i = some v ∧ Dq K H v d := by
  unfold L2.atI at e ⊢
  rw [DqAll.length h]
  obtain ⟨j, e1, e2⟩ := Option.bind_eq_some_iff.mp e
  obtain ⟨v, e3, q⟩ := DqAll.at j h e2
  exact ⟨v, by rw [e1]; exact e3, q⟩
theorem opS_ix {K : PySem.W.Frag} : OpS K (rIx K) fIx := by
  intro Z η M H v u x y Qd Qv r hx hy h fin
  cases x with
  | list xs =>
    cases y with
    | int i =>
      obtain ⟨a, vs, rfl, s, t⟩ := hx
      obtain ⟨d, e, q⟩ := lk1_of h
      obtain ⟨w, e2, dw⟩ := DqAll.atI t e
      exact .inl ⟨a, vs, i, w, rfl, int_of' hy, s, e2, fin _ _ H (.sc r dw) q⟩
    | _ => exact h.elim
  | tuple xs =>
    cases y with
    | int i =>
      obtain ⟨a, vs, rfl, s, t⟩ := hx
      obtain ⟨d, e, q⟩ := lk1_of h
      obtain ⟨w, e2, dw⟩ := DqAll.atI t e
      exact .inr (.inl ⟨a, vs, i, w, rfl, int_of' hy, (SqF.sm s vis_sub).t, e2, fin _ _ H (.sc r dw) q⟩)
    | _ => exact h.elim
  | str z =>
    cases y with
    | int i =>
      obtain ⟨c, e, q⟩ := lk1_of h.2
      exact .inr (.inr ⟨z, i, c, str_of' hx, int_of' hy, h.1, e, fin _ _ H (.sc r (.str _)) q⟩)
    | _ => exact h.elim
  | _ => exact h.elim
/-! slices -/
def cutD (xs : List PyData) (lo hi : Option Int) : List PyData := (xs.drop (HT.sIx xs.length 0 lo)).take (HT.sIx xs.length xs.length hi - HT.sIx xs.length 0 lo)
theorem DqAll.cut {K : PySem.W.Frag} {H : Hp} {vs : List V} {ds : List PyData} (h : DqAll K H vs ds) (lo hi : Option Int) : DqAll K H (cutV vs lo hi) (cutD ds lo hi) := by
  unfold cutV cutD
  rw [DqAll.length h]
  exact DqAll.take _ (DqAll.drop _ h)
abbrev DO := DSt → Mem → (Option Int → Mem → Prop) → Prop
def tO (n : Nat) (K : PySem.W.Frag) (dt : DO) : TO := fun σ H Qv => ∃ (Z : Addr → Prop) (η : List Addr) (M : Mem) (ε : DSt) (Q : Option Int → Mem → Prop), Rel K Z η M H ∧ Slt n K Z η M H σ ε ∧ dt ε M Q ∧
  ∀ b η' M' H', Rel K Z η' M' H' → Keep η M H η' M' H' → Q b M' → Qv b H'
def PDO (K : PySem.W.Frag) (X : Cx) (e : Option Expr) (dt : DO) : Prop := X.K = K → PO X e (tO X.N.length K dt)
theorem PO.weak {X : Cx} {e : Option Expr} {t t' : TO} (h : PO X e t) (w : ∀ σ H Q, t' σ H Q → t σ H Q) : PO X e t' := ⟨fun pins s σ H Q I q => h.run pins s σ H Q I (w _ _ _ q)⟩
def dNoPart : DO := fun _ M Q => Q none M
def dPart (da : DE) : DO := fun ε M Q => da ε M fun y M1 => match y with
  | .d (.int i) => Q (some i) M1
  | _ => False
def fSl (own : Bool) (x : PyData) (lo hi : Option Int) (M : Mem) (Q : DK) : Prop := match x with
  | .list xs => born own (.l (cutD xs lo hi)) M Q
  | .tuple xs => Q (.d (.tuple (cutD xs lo hi))) M
  | .str z => z.length ≤ sizeLine ∧ Q (.d (.str (cutS z lo hi))) M
  | _ => False
def dSl (own : Bool) (da : DE) (dl dh : DO) : DE := fun ε M Q => da ε M fun y M1 => dl ε M1 fun l M2 => dh ε M2 fun h M3 => lk (look M3 y) fun x => fSl own x l h M3 Q
def rSlD (K : PySem.W.Frag) : V → Option Int → Option Int → Hp → VK → Prop := fun x lo hi H Q => rSlL K x lo hi H Q ∨ rSlF x lo hi H Q ∨ rSlS x lo hi H Q
theorem sl_D {X : Cx} : SlR X (rSlD X.K) := SlR.or sl_list (SlR.or sl_tupF sl_str)
section
variable {n : Nat} {K : PySem.W.Frag} {X : Cx} {a b c e : Expr} {lo hi : Option Expr} {es rest : List Expr} {da db dc : DE} {dl dh : DO} {pos p2 : Pos}
theorem pdo_none : PDO K X none dNoPart := fun hK => PO.weak po_none fun σ H Q ⟨Z, η, M, ε, Qd, r, s, q, fin⟩ => fin none η M H r .refl q
theorem pdo_some (h : PD K X e da) : PDO K X (some e) (dPart da) := fun hK => PO.weak (po_some (h hK)) fun σ H Q ⟨Z, η, M, ε, Qd, r, s, q, fin⟩ => ⟨Z, η, M, ε, _, r, s, q, fun v η1 M1 y H1 r1 k1 d1 q1 => by
  cases y with
  | o k => exact q1.elim
  | d x =>
    cases x with
    | int i => exact ⟨i, int_of' (W := vis Z η1 M1 H1) d1, fin _ η1 M1 H1 r1 k1 q1⟩
    | _ => exact q1.elim⟩
theorem pd_slice (own : Bool) (he : PD K X e da) (hl : PDO K X lo dl) (hh : PDO K X hi dh) : PD K X (.Subscript e (.Slice lo hi none p2) pos) (dSl own da dl dh) := fun hK =>
  PE.weak (pe_slice sl_D (he hK) (hl hK) (hh hK)) fun σ H Q ⟨Z, η, M, ε, Qd, r, s, q, fin⟩ =>
    ⟨Z, η, M, ε, _, r, s, q, fun v1 η1 M1 y1 H1 r1 k1 d1 q1 => ⟨Z, η1, M1, ε, _, r1, s.keep k1, q1, fun l η2 M2 H2 r2 k2 q2 => ⟨Z, η2, M2, ε, _, r2, s.keep (k1.trans k2), q2, fun h η3 M3 H3 r3 k3 q3 => by
      obtain ⟨x, ex, q3⟩ := lk_of q3
      have tp := r3.top (d1.keep (k2.trans k3)) ex
      have kk := k1.trans (k2.trans k3)
      subst hK
      cases x with
      | list xs =>
        obtain ⟨a, vs, rfl, sq, t⟩ := tp
        refine .inl ⟨a, vs, rfl, sq, fun p hp => ?_⟩
        obtain ⟨η', M', z, r', k', d', q'⟩ := born_ok r3 (rr := .l (cutD xs l h)) ⟨p, _, rfl, hp, rfl, DqAll.cut t l h⟩ q3
        exact fin _ η' M' z _ r' (kk.trans k') d' q'
      | tuple xs =>
        obtain ⟨a, vs, rfl, sq, t⟩ := tp
        refine .inr (.inl ⟨a, vs, rfl, SqF.sm sq vis_sub, fun hw => ?_, fun hw p ob ho hp => ?_⟩)
        · have ec : cutV vs l h = vs := by
            unfold cutV
            rw [hw.1, hw.2, List.drop_zero, Nat.sub_zero, List.take_length]
          have t2 := DqAll.cut t l h
          rw [ec] at t2
          exact fin _ η3 M3 (.d (.tuple (cutD xs l h))) H3 r3 kk (Dq.tup sq t2) q3
        · obtain ⟨r4, k4⟩ := r3.new (o := .frz ob (.tup (cutV vs l h))) hp
          exact fin _ η3 M3 (.d (.tuple (cutD xs l h))) _ r4 (kk.trans k4) (Dq.tup ⟨ob, ho, r3.new_vis hp⟩ (DqAll.sm k4.vis (DqAll.cut t l h))) q3
      | str z => exact .inr (.inr ⟨z, str_of' tp, q3.1, fin _ η3 M3 (.d (.str _)) H3 r3 kk (Dq.str _) q3.2⟩)
      | _ => exact q3.elim⟩⟩⟩
/-- x[::-1] of a list -/
def fRev : DF1
  | .list xs, Q => Q (.l xs.reverse)
  | _, _ => False
theorem pd_revL {k : Nat} {p1 p2 p3 pos : Pos} (own : Bool) (he : PD K X e da) : PD K X (.Subscript e (.Slice none none (some (.UnaryOp .USub (.Constant (.int 1) k p1) p2)) p3) pos) (dUn fRev own da) := fun hK =>
  PE.weak (pe_revL (he hK)) fun σ H Q ⟨Z, η, M, ε, Qd, r, s, q, fin⟩ => ⟨Z, η, M, ε, _, r, s, q, fun v1 η1 M1 y1 H1 r1 k1 d1 q1 => by
      obtain ⟨x, ex, q2⟩ := lk_of q1
      have tp := r1.top d1 ex
      subst hK
      cases x with
      | list xs =>
        obtain ⟨a, vs, rfl, sq, t⟩ := tp
        refine ⟨a, vs, rfl, sq, fun p hp => ?_⟩
        obtain ⟨η', M', z, r', k', d', q'⟩ := born_ok r1 (rr := .l xs.reverse) ⟨p, _, rfl, hp, rfl, DqAll.reverse t⟩ q2
        exact fin _ η' M' z _ r' (k1.trans k') d' q'
      | _ => exact q2.elim⟩
/-- [..] * n -/
def dRep (own : Bool) (da : DA) (dn : DE) : DE := fun ε M Q => da ε M fun ys M1 => asDs ys M1 fun xs M2 => xs.length ≤ sizeLine ∧ dn ε M2 fun y M3 => match y with
  | .d (.int k) => -(2 ^ 63) ≤ k ∧ k < 2 ^ 63 ∧ xs.length * k.toNat ≤ sizeLine ∧ born own (.l (List.replicate k.toNat xs).flatten) M3 Q
  | _ => False
theorem pd_rep {dar : DA} {dn : DE} {pl : Pos} (own : Bool) (h : PDA K X es dar) (hn : PD K X b dn) : PD K X (.BinOp (.List es pl) .Mult b pos) (dRep own dar dn) := fun hK =>
  PE.weak (pe_op op_rep (pe_lst (h hK)) (hn hK)) fun σ H Q ⟨Z, η, M, ε, Qd, r, s, q, fin⟩ => ⟨Z, η, M, ε, _, r, s, q, fun v1 η1 M1 y1 H1 r1 k1 d1 q1 => by
    obtain ⟨xs, M2, r2, k2, d2, hz, q2⟩ := r1.asDs d1 q1
    refine ⟨by rw [DqAll.length d2]; exact hz, fun p hp => ?_⟩
    obtain ⟨r3, k3⟩ := r2.new (o := .lst v1) hp
    have kk := k1.trans (k2.trans k3)
    refine ⟨Z, η1, M2, ε, _, r3, s.keep kk, q2, fun v4 η4 M4 y4 H4 r4 k4 d4 q4 => ?_⟩
    cases y4 with
    | o k => exact q4.elim
    | d x =>
      cases x with
      | int k =>
        obtain ⟨a1, a2, a3, q5⟩ := q4
        have hv := k4.vis _ _ (r2.new_vis (o := .lst v1) hp)
        have d5 := DqAll.sm (k3.trans k4).vis d2
        refine ⟨p, k, v1, rfl, int_of' (W := vis Z η4 M4 H4) d4, (of_vis hv).1, a1, a2, by rw [DqAll.length d2]; exact a3, fun p2 hp2 => ?_⟩
        obtain ⟨η', M', z, r', k', d', q'⟩ := born_ok r4 (rr := .l (List.replicate k.toNat xs).flatten) ⟨p2, _, rfl, hp2, rfl, DqAll.rep d5 k.toNat⟩ q5
        exact fin _ η' M' z _ r' (kk.trans (k4.trans k')) d' q'
      | _ => exact q4.elim⟩
end
end Dl
/-! Data level, 4: built-ins. -/
namespace Dl
open PySem PySem.Spec PyProof.Rows L2 Ow
theorem CallR.or' {X : Cx} {f : Value} {r r' : List V → Hp → VK → Prop} (h : CallR X f r) (h' : CallR X f r') : CallR X f (fun xs H Q => r xs H Q ∨ r' xs H Q) := CallR.or h h'
/-- one argument -/
def f1 (F : DF1) : DFn
  | [x], Q => F x Q
  | _, _ => False
def f2 (F : DF2) : DFn
  | [x, y], Q => F x y Q
  | _, _ => False
theorem callS_1 {K : PySem.W.Frag} {r : List V → Hp → VK → Prop} {F : DF1} (h : UnS K (fun v H Q => r [v] H Q) F) : CallS K r (f1 F) := by
  intro Z η M H vs xs Qd Qv rl hp hF fin
  cases hp with
  | nil => exact hF.elim
  | cons h1 t =>
    cases t with
    | nil => exact h Z η M H _ _ Qd Qv rl h1 hF fin
    | cons _ _ => exact hF.elim
theorem callS_2 {K : PySem.W.Frag} {r : List V → Hp → VK → Prop} {F : DF2} (h : OpS K (fun v u H Q => r [v, u] H Q) F) : CallS K r (f2 F) := by
  intro Z η M H vs xs Qd Qv rl hp hF fin
  cases hp with
  | nil => exact hF.elim
  | cons h1 t =>
    cases t with
    | nil => exact hF.elim
    | cons h2 t =>
      cases t with
      | nil => exact h Z η M H _ _ _ _ Qd Qv rl h1 h2 hF fin
      | cons _ _ => exact hF.elim
def rLenD (K : PySem.W.Frag) : List V → Hp → VK → Prop := fun xs H Q => (∃ p ys, xs = [.ref p] ∧ (SqL K H p ys ∨ SqT K H p ys) ∧ Q (.int ys.length) H) ∨ (∃ z, xs = [.str z] ∧ z.length ≤ sizeLine ∧ Q (.int z.length) H) ∨ (∃ a kvs, xs = [V.ref a] ∧ Rd H a (.dK kvs) ∧ Q (.int kvs.length) H)
def fLen : DF1
  | .list xs, Q => Q (.v (.int xs.length))
  | .tuple xs, Q => Q (.v (.int xs.length))
  | .str z, Q => z.length ≤ sizeLine ∧ Q (.v (.int z.length))
  | .dict ps, Q => Q (.v (.int ps.length))
  | _, _ => False
theorem callS_len {K : PySem.W.Frag} : CallS K (rLenD K) (f1 fLen) := callS_1 fun Z η M H v x Qd Qv r hx h fin => by
  cases x with
  | list xs =>
    obtain ⟨a, vs, rfl, s, t⟩ := hx
    refine .inl ⟨a, vs, rfl, .inl s, ?_⟩
    rw [DqAll.length t]
    exact fin _ _ H (.sc r (.int _)) h
  | tuple xs =>
    obtain ⟨a, vs, rfl, s, t⟩ := hx
    refine .inl ⟨a, vs, rfl, .inr (SqF.sm s vis_sub).t, ?_⟩
    rw [DqAll.length t]
    exact fin _ _ H (.sc r (.int _)) h
  | str z => exact .inr (.inl ⟨z, by rw [str_of' hx], h.1, fin _ _ H (.sc r (.int _)) h.2⟩)
  | dict ps =>
    obtain ⟨a, us, ds, rfl, s, t, rfl⟩ := hx
    refine .inr (.inr ⟨a, us, rfl, s, ?_⟩)
    have e : ((us.map fun kv => kD kv.1).zip ds).length = us.length := by
      have := DqAll.length t
      rw [List.length_map] at this
      rw [List.length_zip, List.length_map, ← this, Nat.min_self]
    have h : Qd (.v (.int ((us.map fun kv => kD kv.1).zip ds).length)) := h
    rw [e] at h
    exact fin _ _ H (.sc r (.int _)) h
  | _ => exact h.elim
/-- lists of one kind -/
def asInts : List PyData → Option (List Int)
  | [] => some []
  | .int i :: ds => (asInts ds).map (i :: ·)
  | _ :: _ => none
theorem asInts_of : ∀ {ds : List PyData} {ns : List Int}, asInts ds = some ns → ds = ns.map PyData.int
  | [], ns, e => by cases e; rfl
  | d :: ds, ns, e => by
    cases d with
    | int i =>
      have e : (asInts ds).map (i :: ·) = some ns := e
      obtain ⟨ms, e1, e2⟩ := Option.map_eq_some_iff.mp e
      rw [asInts_of e1, ← e2]
      rfl
    | _ => cases e
theorem asInts_map : ∀ ns : List Int, asInts (ns.map PyData.int) = some ns
  | [] => rfl
  | n :: ns => by
    show (asInts (ns.map PyData.int)).map (n :: ·) = _
    rw [asInts_map ns]
    rfl
def asBools : List PyData → Option (List Bool)
  | [] => some []
  | .bool i :: ds => (asBools ds).map (i :: ·)
  | _ :: _ => none
theorem asBools_of : ∀ {ds : List PyData} {ns : List Bool}, asBools ds = some ns → ds = ns.map PyData.bool
  | [], ns, e => by cases e; rfl
  | d :: ds, ns, e => by
    cases d with
    | bool i =>
      have e : (asBools ds).map (i :: ·) = some ns := e
      obtain ⟨ms, e1, e2⟩ := Option.map_eq_some_iff.mp e
      rw [asBools_of e1, ← e2]
      rfl
    | _ => cases e
theorem asBools_map : ∀ ns : List Bool, asBools (ns.map PyData.bool) = some ns
  | [] => rfl
  | n :: ns => by
    show (asBools (ns.map PyData.bool)).map (n :: ·) = _
    rw [asBools_map ns]
    rfl
def asStrs : List PyData → Option (List Str)
  | [] => some []
  | .str i :: ds => (asStrs ds).map (i :: ·)
  | _ :: _ => none
theorem asStrs_of : ∀ {ds : List PyData} {ns : List Str}, asStrs ds = some ns → ds = ns.map PyData.str
  | [], ns, e => by cases e; rfl
  | d :: ds, ns, e => by
    cases d with
    | str i =>
      have e : (asStrs ds).map (i :: ·) = some ns := e
      obtain ⟨ms, e1, e2⟩ := Option.map_eq_some_iff.mp e
      rw [asStrs_of e1, ← e2]
      rfl
    | _ => cases e
theorem asStrs_map : ∀ ns : List Str, asStrs (ns.map PyData.str) = some ns
  | [] => rfl
  | n :: ns => by
    show (asStrs (ns.map PyData.str)).map (n :: ·) = _
    rw [asStrs_map ns]
    rfl
def fBools (g : List Bool → Bool) : DF1
  | .list xs, Q => lk1 (asBools xs) fun bs => Q (.v (.bool (g bs)))
  | _, _ => False
theorem callS_all {K : PySem.W.Frag} : CallS K (rAll K) (f1 (fBools fun bs => bs.all id)) := callS_1 fun Z η M H v x Qd Qv r hx h fin => by
  cases x with
  | list xs =>
    obtain ⟨a, vs, rfl, s, t⟩ := hx
    obtain ⟨bs, e, q⟩ := lk1_of h
    rw [asBools_of e] at t
    rw [DqAll.bools t] at s
    exact ⟨a, bs, rfl, s, fin _ _ H (.sc r (.bl _)) q⟩
  | _ => exact h.elim
theorem callS_any {K : PySem.W.Frag} : CallS K (rAny K) (f1 (fBools fun bs => bs.any id)) := callS_1 fun Z η M H v x Qd Qv r hx h fin => by
  cases x with
  | list xs =>
    obtain ⟨a, vs, rfl, s, t⟩ := hx
    obtain ⟨bs, e, q⟩ := lk1_of h
    rw [asBools_of e] at t
    rw [DqAll.bools t] at s
    exact ⟨a, bs, rfl, s, fin _ _ H (.sc r (.bl _)) q⟩
  | _ => exact h.elim
def fSum : DF1
  | .list xs, Q => lk1 (asInts xs) fun ns => Q (.v (.int ns.sum))
  | _, _ => False
theorem callS_sum {K : PySem.W.Frag} : CallS K (rSum K) (f1 fSum) := callS_1 fun Z η M H v x Qd Qv r hx h fin => by
  cases x with
  | list xs =>
    obtain ⟨a, vs, rfl, s, t⟩ := hx
    obtain ⟨ns, e, q⟩ := lk1_of h
    rw [asInts_of e] at t
    rw [DqAll.ints t] at s
    exact ⟨a, ns, rfl, s, fin _ _ H (.sc r (.int _)) q⟩
  | _ => exact h.elim
def fMaxL : DF1
  | .list xs, Q => lk1 (asInts xs) fun ns => 0 < ns.length ∧ ∀ m, m ∈ ns → (∀ y, y ∈ ns → y ≤ m) → Q (.v (.int m))
  | _, _ => False
def fMinL : DF1
  | .list xs, Q => lk1 (asInts xs) fun ns => 0 < ns.length ∧ ∀ m, m ∈ ns → (∀ y, y ∈ ns → m ≤ y) → Q (.v (.int m))
  | _, _ => False
theorem callS_maxL {K : PySem.W.Frag} : CallS K (rMax K) (f1 fMaxL) := callS_1 fun Z η M H v x Qd Qv r hx h fin => by
  cases x with
  | list xs =>
    obtain ⟨a, vs, rfl, s, t⟩ := hx
    obtain ⟨ns, e, q⟩ := lk1_of h
    rw [asInts_of e] at t
    rw [DqAll.ints t] at s
    exact ⟨a, ns, rfl, s, q.1, fun m h1 h2 => fin _ _ H (.sc r (.int _)) (q.2 m h1 h2)⟩
  | _ => exact h.elim
theorem callS_minL {K : PySem.W.Frag} : CallS K (rMin K) (f1 fMinL) := callS_1 fun Z η M H v x Qd Qv r hx h fin => by
  cases x with
  | list xs =>
    obtain ⟨a, vs, rfl, s, t⟩ := hx
    obtain ⟨ns, e, q⟩ := lk1_of h
    rw [asInts_of e] at t
    rw [DqAll.ints t] at s
    exact ⟨a, ns, rfl, s, q.1, fun m h1 h2 => fin _ _ H (.sc r (.int _)) (q.2 m h1 h2)⟩
  | _ => exact h.elim
def fMax2 : DF2
  | .int i, .int j, Q => Q (.v (.int (if j > i then j else i)))
  | _, _, _ => False
def fMin2 : DF2
  | .int i, .int j, Q => Q (.v (.int (if j < i then j else i)))
  | _, _, _ => False
theorem callS_max2 {K : PySem.W.Frag} : CallS K (fun xs H Q => ∃ i j, xs = [.int i, .int j] ∧ Q (.int (if j > i then j else i)) H) (f2 fMax2) := callS_2 fun Z η M H v u x y Qd Qv r hx hy h fin => by
  cases x with
  | int i =>
    cases y with
    | int j => exact ⟨i, j, by rw [int_of' hx, int_of' hy], fin _ _ H (.sc r (.int _)) h⟩
    | _ => exact h.elim
  | _ => exact h.elim
theorem callS_min2 {K : PySem.W.Frag} : CallS K (fun xs H Q => ∃ i j, xs = [.int i, .int j] ∧ Q (.int (if j < i then j else i)) H) (f2 fMin2) := callS_2 fun Z η M H v u x y Qd Qv r hx hy h fin => by
  cases x with
  | int i =>
    cases y with
    | int j => exact ⟨i, j, by rw [int_of' hx, int_of' hy], fin _ _ H (.sc r (.int _)) h⟩
    | _ => exact h.elim
  | _ => exact h.elim
/-- max, min of two numbers or of a list -/
def fMax : DFn := fun xs Q => match xs with
  | [x] => fMaxL x Q
  | [x, y] => fMax2 x y Q
  | _ => False
def fMin : DFn := fun xs Q => match xs with
  | [x] => fMinL x Q
  | [x, y] => fMin2 x y Q
  | _ => False
theorem CallS.or {K : PySem.W.Frag} {r r' : List V → Hp → VK → Prop} {F F' G : DFn} (h : CallS K r F) (h' : CallS K r' F') (e : ∀ xs Q, G xs Q → F xs Q ∨ F' xs Q) : CallS K (fun xs H Q => r xs H Q ∨ r' xs H Q) G :=
  fun Z η M H vs xs Qd Qv r hp hg fin => (e xs Qd hg).elim (fun q => .inl (h Z η M H vs xs Qd Qv r hp q fin)) fun q => .inr (h' Z η M H vs xs Qd Qv r hp q fin)
def rMaxA (K : PySem.W.Frag) : List V → Hp → VK → Prop := fun xs H Q => rMax K xs H Q ∨ (∃ i j, xs = [.int i, .int j] ∧ Q (.int (if j > i then j else i)) H)
def rMinA (K : PySem.W.Frag) : List V → Hp → VK → Prop := fun xs H Q => rMin K xs H Q ∨ (∃ i j, xs = [.int i, .int j] ∧ Q (.int (if j < i then j else i)) H)
theorem cr_maxA {X : Cx} (hc : X.calm = true) : CallR X (.builtin "max") (rMaxA X.K) := CallR.or (cr_max hc) (call_max2 hc)
theorem cr_minA {X : Cx} (hc : X.calm = true) : CallR X (.builtin "min") (rMinA X.K) := CallR.or (cr_min hc) (call_min2 hc)
theorem callS_max {K : PySem.W.Frag} : CallS K (rMaxA K) fMax := CallS.or callS_maxL callS_max2 fun xs Q h => by
  match xs, h with
  | [x], h => exact .inl h
  | [x, y], h => exact .inr h
theorem callS_min {K : PySem.W.Frag} : CallS K (rMinA K) fMin := CallS.or callS_minL callS_min2 fun xs Q h => by
  match xs, h with
  | [x], h => exact .inl h
  | [x, y], h => exact .inr h
def fSortI : DF1
  | .list xs, Q => lk1 (asInts xs) fun ns => ∀ ms : List Int, ms.Perm ns → ms.Pairwise (· ≤ ·) → Q (.l (ms.map PyData.int))
  | _, _ => False
theorem callS_sortI {K : PySem.W.Frag} : CallS K (rSortedI K) (f1 fSortI) := callS_1 fun Z η M H v x Qd Qv r hx h fin => by
  cases x with
  | list xs =>
    obtain ⟨a, vs, rfl, s, t⟩ := hx
    obtain ⟨ns, e, q⟩ := lk1_of h
    rw [asInts_of e] at t
    rw [DqAll.ints t] at s
    exact ⟨a, ns, rfl, s, fun ms p h1 h2 hp => fin _ _ _ (show ResOk K Z η M H _ _ (.l (ms.map PyData.int)) from ⟨p, _, rfl, hp, rfl, DqAll.ofInts ms⟩) (q ms h1 h2)⟩
  | _ => exact h.elim
def fAbs : DF1
  | .int i, Q => Q (.v (.int (if i < 0 then -i else i)))
  | _, _ => False
theorem callS_abs {K : PySem.W.Frag} : CallS K (fun xs H Q => ∃ i, xs = [.int i] ∧ Q (.int (if i < 0 then -i else i)) H) (f1 fAbs) := callS_1 fun Z η M H v x Qd Qv r hx h fin => by
  cases x with
  | int i => exact ⟨i, by rw [int_of' hx], fin _ _ H (.sc r (.int _)) h⟩
  | _ => exact h.elim
def fIntI : DF1
  | .int i, Q => Q (.v (.int i))
  | _, _ => False
theorem callS_int {K : PySem.W.Frag} : CallS K (fun xs H Q => ∃ i, xs = [.int i] ∧ Q (.int i) H) (f1 fIntI) := callS_1 fun Z η M H v x Qd Qv r hx h fin => by
  cases x with
  | int i => exact ⟨i, by rw [int_of' hx], fin _ _ H (.sc r (.int _)) h⟩
  | _ => exact h.elim
def fStrI : DF1
  | .int i, Q => i.natAbs.log2 < 1920 ∧ Q (.v (.str (toString i)))
  | _, _ => False
theorem callS_strI {K : PySem.W.Frag} : CallS K (fun xs H Q => ∃ i, xs = [.int i] ∧ i.natAbs.log2 < 1920 ∧ Q (.str (toString i)) H) (f1 fStrI) := callS_1 fun Z η M H v x Qd Qv r hx h fin => by
  cases x with
  | int i => exact ⟨i, by rw [int_of' hx], h.1, fin _ _ H (.sc r (.str _)) h.2⟩
  | _ => exact h.elim
def fDivmod : DF2
  | .int i, .int j, Q => CDivP i j ∧ Q (.v (.tuple [.int (i / j), .int (i % j)]))
  | _, _, _ => False
theorem callS_divmod {K : PySem.W.Frag} : CallS K (fun xs H Q => ∃ i j, xs = [.int i, .int j] ∧ CDivP i j ∧ rNewF [.int (i / j), .int (i % j)] H Q) (f2 fDivmod) := callS_2 fun Z η M H v u x y Qd Qv r hx hy h fin => by
  cases x with
  | int i =>
    cases y with
    | int j => exact ⟨i, j, by rw [int_of' hx, int_of' hy], h.1, fun p ob ho hp => fin _ _ _ (.tup r ho hp (.cons (.int _) (.cons (.int _) .nil))) h.2⟩
    | _ => exact h.elim
  | _ => exact h.elim
def fList : DF1
  | .list xs, Q => Q (.l xs)
  | .tuple xs, Q => Q (.l xs)
  | _, _ => False
theorem callS_list {K : PySem.W.Frag} : CallS K (fun xs H Q => ∃ p ys, xs = [.ref p] ∧ (SqL K H p ys ∨ SqT K H p ys) ∧ ∀ l, H l = none → Q (.ref l) (upd H l (.lst ys))) (f1 fList) := callS_1 fun Z η M H v x Qd Qv r hx h fin => by
  cases x with
  | list xs =>
    obtain ⟨a, vs, rfl, s, t⟩ := hx
    exact ⟨a, vs, rfl, .inl s, fun p hp => fin _ _ _ (show ResOk K Z η M H _ _ (.l xs) from ⟨p, _, rfl, hp, rfl, t⟩) h⟩
  | tuple xs =>
    obtain ⟨a, vs, rfl, s, t⟩ := hx
    exact ⟨a, vs, rfl, .inr (SqF.sm s vis_sub).t, fun p hp => fin _ _ _ (show ResOk K Z η M H _ _ (.l xs) from ⟨p, _, rfl, hp, rfl, t⟩) h⟩
  | _ => exact h.elim
def fTuple : DF1
  | .list xs, Q => Q (.v (.tuple xs))
  | .tuple xs, Q => Q (.v (.tuple xs))
  | _, _ => False
theorem callS_tuple {K : PySem.W.Frag} : CallS K (fun xs H Q => ∃ p ys, xs = [.ref p] ∧ ((SqL K H p ys ∧ rNewF ys H Q) ∨ (SqT K H p ys ∧ Q (.ref p) H))) (f1 fTuple) := callS_1 fun Z η M H v x Qd Qv r hx h fin => by
  cases x with
  | list xs =>
    obtain ⟨a, vs, rfl, s, t⟩ := hx
    exact ⟨a, vs, rfl, .inl ⟨s, fun p ob ho hp => fin (.v (.tuple xs)) _ _ (.tup r ho hp t) h⟩⟩
  | tuple xs =>
    obtain ⟨a, vs, rfl, s, t⟩ := hx
    exact ⟨a, vs, rfl, .inr ⟨(SqF.sm s vis_sub).t, fin _ _ H (.sc r (.tup s t)) h⟩⟩
  | _ => exact h.elim
def Can (d : PyData) : Prop := d.hasDict = false ∧ d.showable = true ∧ d.depth ≤ 60 ∧ d.shown.length ≤ sizeLine
def fRepr : DF1 := fun x Q => Can x ∧ Q (.v (.str x.shown))
theorem callS_repr {K : PySem.W.Frag} : CallS K (rShow K) (f1 fRepr) := callS_1 fun Z η M H v x Qd Qv r hx h fin =>
  ⟨v, x, rfl, dq_dp (top_dq hx) h.1.1, h.1, fin _ _ H (.sc r (.str _)) h.2⟩
/-! isinstance -/
def dIsi (n : String) (da : DE) : DE := fun ε M Q => da ε M fun y M1 => lk (look M1 y) fun x => Q (.d (.bool (isK x n))) M1
def dIsi2 (m n : String) (da : DE) : DE := fun ε M Q => da ε M fun y M1 => lk (look M1 y) fun x => Q (.d (.bool (isK x m || isK x n))) M1
section
variable {n : Nat} {K : PySem.W.Frag} {X : Cx} {a b c e : Expr} {da db dc : DE} {pos p : Pos}
theorem pd_isi {n : String} (hn : n ∈ kinds) (hm : X.mg "isinstance" = none) (ha : PD K X a da) (hb : PE X b (tC (.ty n))) (hg : Gl X "isinstance" := by rfl)
    (s1 : starEach [a, b] X.env = (false, eval a X.env) :: starEach [b] X.env := by rfl) (s2 : starEach [b] X.env = (false, eval b X.env) :: starEach [] X.env := by rfl)
    (hpl : (backTo pos (starEach [b] X.env)).any (·.1) = false := by rfl) : PD K X (.Call (.Name "isinstance" p) [a, b] [] pos) (dIsi n da) := fun hK =>
  PE.weak (pe_callB call_isiD hg hm (by decide +kernel) (pa_cons (ha hK) (pa_cons hb pa_nil s2) s1) (by decide) (by decide) s1 hpl) fun σ H Q ⟨Z, η, M, ε, Qd, r, s, q, fin⟩ =>
    ⟨Z, η, M, ε, _, r, s, q, fun v1 η1 M1 y1 H1 r1 k1 d1 q1 => by
      obtain ⟨x, ex, q2⟩ := lk_of q1
      subst hK
      exact ⟨v1, x, n, rfl, hn, r1.dq d1 ex, fin _ η1 M1 (.d (.bool _)) H1 r1 k1 (Dq.bl _) q2⟩⟩
theorem pd_isi2 {m n : String} (h1 : m ∈ kinds) (h2 : n ∈ kinds) (hm : X.mg "isinstance" = none) (ha : PD K X a da) (hb : PE X b (tTup (tCons (tC (.ty m)) (tCons (tC (.ty n)) tNil)))) (hg : Gl X "isinstance" := by rfl)
    (s1 : starEach [a, b] X.env = (false, eval a X.env) :: starEach [b] X.env := by rfl) (s2 : starEach [b] X.env = (false, eval b X.env) :: starEach [] X.env := by rfl)
    (hpl : (backTo pos (starEach [b] X.env)).any (·.1) = false := by rfl) : PD K X (.Call (.Name "isinstance" p) [a, b] [] pos) (dIsi2 m n da) := fun hK =>
  PE.weak (pe_callB call_isiD2 hg hm (by decide +kernel) (pa_cons (ha hK) (pa_cons hb pa_nil s2) s1) (by decide) (by decide) s1 hpl) fun σ H Q ⟨Z, η, M, ε, Qd, r, s, q, fin⟩ =>
    ⟨Z, η, M, ε, _, r, s, q, fun v1 η1 M1 y1 H1 r1 k1 d1 q1 => by
      obtain ⟨x, ex, q2⟩ := lk_of q1
      subst hK
      refine ⟨by show 2 ≤ sizeLine; decide, fun tp hp => ?_⟩
      obtain ⟨r2, k2⟩ := r1.new (o := .tup [.ty m, .ty n]) hp
      exact ⟨v1, x, tp, m, n, rfl, upd_same, h1, h2, r2.dq (d1.keep k2) ex, fin _ η1 M1 (.d (.bool _)) _ r2 (k1.trans k2) (Dq.bl _) q2⟩⟩
end
end Dl
/-! Data level, 5: targets, statements, walks, loops, comprehensions. -/
namespace Dl
open PySem PySem.Spec PyProof.Rows L2 Ow
/-! ### targets -/
abbrev DG := DV → DSt → Mem → (DSt → Mem → Prop) → Prop
abbrev DGs := List PyData → DSt → Mem → (DSt → Mem → Prop) → Prop
def tG (n : Nat) (K : PySem.W.Frag) (dg : DG) (ix : List Nat) : TG := fun v σ H Qv => ∃ (Z : Addr → Prop) (η : List Addr) (M : Mem) (ε : DSt) (y : DV) (Q : DSt → Mem → Prop), Rel K Z η M H ∧ Slt n K Z η M H σ ε ∧ Den K Z η M H v y ∧ dg y ε M Q ∧
  ∀ σ' η' M' ε' H', Rel K Z η' M' H' → Keep η M H η' M' H' → Slt n K Z η' M' H' σ' ε' → (∀ vs : List Nat, (∀ i ∈ ix, i ∈ vs) → wipe σ' vs = wipe σ vs) → Q ε' M' → Qv σ' H'
def tGs (n : Nat) (K : PySem.W.Frag) (dg : DGs) (ix : List Nat) : TGs := fun us σ H Qv => ∃ (Z : Addr → Prop) (η : List Addr) (M : Mem) (ε : DSt) (xs : List PyData) (Q : DSt → Mem → Prop), Rel K Z η M H ∧ Slt n K Z η M H σ ε ∧ DqAll K (vis Z η M H) us xs ∧ dg xs ε M Q ∧
  ∀ σ' η' M' ε' H', Rel K Z η' M' H' → Keep η M H η' M' H' → Slt n K Z η' M' H' σ' ε' → (∀ vs : List Nat, (∀ i ∈ ix, i ∈ vs) → wipe σ' vs = wipe σ vs) → Q ε' M' → Qv σ' H'
def PDG (K : PySem.W.Frag) (X : Cx) (e : Expr) (dg : DG) (ix : List Nat) : Prop := X.K = K → PG X e (tG X.N.length K dg ix)
def PDGs (K : PySem.W.Frag) (X : Cx) (es : List Expr) (dg : DGs) (ix : List Nat) : Prop := X.K = K → PGs X es (tGs X.N.length K dg ix)
theorem PG.weak {X : Cx} {e : Expr} {t t' : TG} (h : PG X e t) (w : ∀ v σ H Q, t' v σ H Q → t v σ H Q) : PG X e t' := ⟨fun pins s σ H v u Q I r q => h.run pins s σ H v u Q I r (w _ _ _ _ q)⟩
theorem PGs.weak {X : Cx} {es : List Expr} {t t' : TGs} (h : PGs X es t) (w : ∀ v σ H Q, t' v σ H Q → t v σ H Q) : PGs X es t' := ⟨fun pins s σ H vs us Q I r q => h.run pins s σ H vs us Q I r (w _ _ _ _ q)⟩
theorem idx_lt {α : Type} {l : List α} {i : Nat} {x : α} (h : l[i]? = some x) : i < l.length := (List.getElem?_eq_some_iff.mp h).1
theorem wipe_set {σ : L2.St} {i : Nat} {o : Option V} : ∀ {vs : List Nat}, i ∈ vs → wipe (σ.set i o) vs = wipe σ vs
  | v :: vs, h => by
    unfold wipe
    by_cases e : i = v
    · subst e
      by_cases h2 : i ∈ vs
      · rw [wipe_set h2]
      · have key : ∀ ws : List Nat, i ∉ ws → wipe (σ.set i o) ws = (wipe σ ws).set i o := by
          intro ws
          induction ws with
          | nil => intro _; rfl
          | cons w ws ih =>
            intro hn
            unfold wipe
            rw [ih (fun z => hn (List.mem_cons_of_mem _ z)), List.set_comm _ _ (fun z => hn (by rw [z]; exact List.mem_cons_self))]
        rw [key vs h2, List.set_set]
    · rw [wipe_set ((List.mem_cons.mp h).resolve_left e)]
def gD (i : Nat) : DG := fun y ε M Q => Q (.put ε i y) M
def gsN : DGs := fun xs ε M Q => match xs with
  | [] => Q ε M
  | _ => False
def gsC (g : DG) (gs : DGs) : DGs := fun xs ε M Q => match xs with
  | x :: r => g (.d x) ε M fun ε' M' => gs r ε' M' Q
  | [] => False
def gTp (n : Nat) (gs : DGs) : DG := fun y ε M Q => match y with
  | .d (.tuple xs) => xs.length = n ∧ gs xs ε M Q
  | _ => False
def gSubD (da db : DE) : DG := fun y ε M Q => da ε M fun o M1 => db ε M1 fun i M2 => asD y M2 fun z M3 => match o, i with
  | .o k, .d (.int j) => (match M3[k]? with
    | some (.lst xs) => lk1 (ixN xs.length j) fun m => Q ε (M3.set k (.lst (xs.set m z)))
    | _ => False)
  | _, _ => False
section
variable {n : Nat} {K : PySem.W.Frag} {X : Cx} {pos : Pos} {e : Expr} {es : List Expr}
theorem pdg_name {i : Nat} {x : Str} (hN : X.N.Nodup) (hi : X.N[i]? = some x) (hx : Loc X.env.scope x) (hf : X.fn x = true ∨ X.env.scope.names.lookup x = some .local := by first | exact .inl rfl | exact .inr rfl | assumption) : PDG K X (.Name x pos) (gD i) [i] := fun hK =>
  PG.weak (pg_name hN hi hx hf) fun v σ H Q ⟨Z, η, M, ε, y, Qd, r, s, d, q, fin⟩ => fin _ η M _ H r .refl (s.set d i (idx_lt hi)) (fun vs hv => wipe_set (hv i List.mem_cons_self)) q
theorem pdgs_nil : PDGs K X [] gsN [] := fun hK => PGs.weak pgs_nil fun vs σ H Q ⟨Z, η, M, ε, xs, Qd, r, s, d, q, fin⟩ => by
  cases d with
  | nil => exact ⟨rfl, fin σ η M ε H r .refl s (fun _ _ => rfl) q⟩
  | cons _ _ => exact q.elim
theorem pdgs_cons {g : DG} {gs : DGs} {ix jx : List Nat} (h1 : PDG K X e g ix) (h2 : PDGs K X es gs jx)
    (hs : (assignEach (e :: es) X.env).map (·.2) = assign e X.env :: (assignEach es X.env).map (·.2) := by rfl) : PDGs K X (e :: es) (gsC g gs) (ix ++ jx) := fun hK =>
  PGs.weak (pgs_cons (h1 hK) (h2 hK) hs) fun vs σ H Q ⟨Z, η, M, ε, xs, Qd, r, s, d, q, fin⟩ => by
    cases d with
    | nil => exact q.elim
    | cons d1 dr =>
      refine ⟨_, _, rfl, Z, η, M, ε, .d _, _, r, s, d1, q, fun σ1 η1 M1 ε1 H1 r1 k1 s1 w1 q1 => ?_⟩
      exact ⟨Z, η1, M1, ε1, _, _, r1, s1, DqAll.sm k1.vis dr, q1, fun σ2 η2 M2 ε2 H2 r2 k2 s2 w2 q2 => fin σ2 η2 M2 ε2 H2 r2 (k1.trans k2) s2 (fun vs hv =>
        (w2 vs fun i hi => hv i (List.mem_append_right _ hi)).trans (w1 vs fun i hi => hv i (List.mem_append_left _ hi))) q2⟩
theorem pdg_tup {es : List Expr} {k : Nat} {gs : DGs} {n : Nat} {ix : List Nat} (hc : X.calm = true) (h : PDGs K X es gs ix)
    (hn : (assignEach es X.env).length = n := by rfl) (hst : (assignEach es X.env).findIdx? (·.1) = none := by rfl) : PDG K X (.Tuple es k pos) (gTp n gs) ix := fun hK =>
  PG.weak (pg_tup hc (h hK) hn hst) fun v σ H Q ⟨Z, η, M, ε, y, Qd, r, s, d, q, fin⟩ => by
    cases y with
    | o k => exact q.elim
    | d x =>
      cases x with
      | tuple xs =>
        have d : Dq K (vis Z η M H) v (.tuple xs) := d
        subst hK
        cases d with
        | tup hs t => exact ⟨_, _, rfl, (SqF.sm hs vis_sub).t, by rw [DqAll.length t]; exact q.1, Z, η, M, ε, xs, Qd, r, s, t, q.2, fin⟩
      | _ => exact q.elim
theorem pdg_sub {o i : Expr} {da db : DE} (ho : PD K X o da) (hi : PD K X i db)
    (ha : ∀ v, assign (.Subscript o i pos) X.env v = (do
      let ov ← holding [v] (eval o X.env)
      let iv ← holding [v, ov] (eval i X.env)
      standAt pos
      holding [v, ov, iv] (setItem ov iv v)
      release [v, ov, iv] []) := by intro _; rfl) : PDG K X (.Subscript o i pos) (gSubD da db) [] := fun hK =>
  PG.weak (pg_sub (ho hK) (hi hK) set_list ha) fun v σ H Q ⟨Z, η, M, ε, y, Qd, r, s, d, q, fin⟩ =>
    ⟨Z, η, M, ε, _, r, s, q, fun v1 η1 M1 y1 H1 r1 k1 d1 q1 => ⟨Z, η1, M1, ε, _, r1, s.keep k1, q1, fun v2 η2 M2 y2 H2 r2 k2 d2 q2 => by
      obtain ⟨z, M3, r3, k3, d3, q3⟩ := r2.asD (d.keep (k1.trans k2)) q2
      have d1 := d1.keep (k2.trans k3)
      cases y1 with
      | d _ => exact q3.elim
      | o k =>
        cases y2 with
        | o _ => exact q3.elim
        | d w =>
          cases w with
          | int j =>
            obtain ⟨a, e1, rfl⟩ := d1
            have q3 : match M3[k]? with
              | some (.lst xs) => lk1 (ixN xs.length j) fun m => Qd ε (M3.set k (.lst (xs.set m z)))
              | _ => False := q3
            cases e2 : M3[k]? with
            | none => rw [e2] at q3; exact q3.elim
            | some c =>
              rw [e2] at q3
              cases c with
              | lst xs =>
                obtain ⟨m, em, q4⟩ := lk1_of q3
                obtain ⟨vs, eh, dq⟩ := r3.ok k a _ e1 e2
                obtain ⟨r4, k4⟩ := r3.put (c' := .lst (xs.set m z)) (o := .lst (vs.set m v)) e1 e2 rfl rfl ⟨_, upd_same, DqAll.set d3 m dq⟩
                have kk := (k1.trans k2).trans (k3.trans k4)
                exact ⟨a, vs, j, m, rfl, int_of' (W := vis Z η2 M2 H2) d2, eh, by rw [DqAll.length dq]; exact em, fin σ η2 _ ε _ r4 kk (s.keep kk) (fun _ _ => rfl) q4⟩
              | _ => exact q3.elim
          | _ => exact q3.elim⟩⟩
end
/-! ### statements -/
structure DEnds where
  nx : DSt → Mem → Prop
  rt : DK
  bk : DSt → Mem → Prop := fun _ _ => False
  ct : DSt → Mem → Prop := fun _ _ => False
  /-- an exception, by its class's name, with its value -/
  xc : Str → Option PyData → DSt → Mem → Prop := fun _ _ _ _ => False
/-- what is wished of an exception, by its class's name -/
abbrev WN := Str → Option Addr → L2.St → Hp → Prop
def wN (mg : Str → Option Value) (W : WX) : WN := fun nm d σ H => ∀ cls, mg nm = some cls → W cls d σ H
def w0 : WX := fun _ _ _ _ => False
theorem takes0 {X : Cx} : Takes X w0 := fun _ _ ⟨_, _, _, _, _, _, _, _, _, _, _, _, _, _, _, _, w⟩ => w.elim
/-- the value that an exception holds -/
def XAt (K : PySem.W.Frag) (V H : Hp) (d : Option Addr) : Option PyData → Prop
  | none => d = none
  | some v => ∃ a u, d = some a ∧ H a = some (.xd [("value", u)]) ∧ Dq K V u v
abbrev DS := DEnds → DSt → Mem → Prop
structure Fin (n : Nat) (K : PySem.W.Frag) (Z : Addr → Prop) (η : List Addr) (M : Mem) (H : Hp) (Wn : WN) (De : DEnds) (D : Ends) : Prop where
  nx : ∀ σ' η' M' ε' H', Rel K Z η' M' H' → Keep η M H η' M' H' → Slt n K Z η' M' H' σ' ε' → De.nx ε' M' → D.nx σ' H'
  rt : ∀ v η' M' y H', Rel K Z η' M' H' → Keep η M H η' M' H' → Den K Z η' M' H' v y → De.rt y M' → D.rt v H'
  bk : ∀ σ' η' M' ε' H', Rel K Z η' M' H' → Keep η M H η' M' H' → Slt n K Z η' M' H' σ' ε' → De.bk ε' M' → D.bk σ' H'
  ct : ∀ σ' η' M' ε' H', Rel K Z η' M' H' → Keep η M H η' M' H' → Slt n K Z η' M' H' σ' ε' → De.ct ε' M' → D.ct σ' H'
  xc : ∀ nm d x σ' η' M' ε' H', Rel K Z η' M' H' → Keep η M H η' M' H' → Slt n K Z η' M' H' σ' ε' → XAt K (vis Z η' M' H') H' d x → De.xc nm x ε' M' → Wn nm d σ' H'
theorem Fin.keep {n : Nat} {K : PySem.W.Frag} {Z : Addr → Prop} {η η1 : List Addr} {M M1 : Mem} {H H1 : Hp} {Wn : WN} {De : DEnds} {D : Ends} (f : Fin n K Z η M H Wn De D) (k : Keep η M H η1 M1 H1) : Fin n K Z η1 M1 H1 Wn De D :=
  ⟨fun σ' η' M' ε' H' r kk => f.nx σ' η' M' ε' H' r (k.trans kk), fun v η' M' y H' r kk => f.rt v η' M' y H' r (k.trans kk), fun σ' η' M' ε' H' r kk => f.bk σ' η' M' ε' H' r (k.trans kk), fun σ' η' M' ε' H' r kk => f.ct σ' η' M' ε' H' r (k.trans kk), fun nm d x σ' η' M' ε' H' r kk => f.xc nm d x σ' η' M' ε' H' r (k.trans kk)⟩
def tS (n : Nat) (K : PySem.W.Frag) (Wn : WN) (ds : DS) : TS := fun D σ H => ∃ (Z : Addr → Prop) (η : List Addr) (M : Mem) (ε : DSt) (De : DEnds), Rel K Z η M H ∧ Slt n K Z η M H σ ε ∧ ds De ε M ∧ Fin n K Z η M H Wn De D
def PDS (K : PySem.W.Frag) (X : Cx) (st : Stmt) (ds : DS) : Prop := X.K = K → ∀ W, Takes X W → PS X st (tS X.N.length K (wN X.mg W) ds)
def PDSs (K : PySem.W.Frag) (X : Cx) (st : List Stmt) (ds : DS) : Prop := X.K = K → ∀ W, Takes X W → PSs X st (tS X.N.length K (wN X.mg W) ds)
theorem PS.weak {X : Cx} {st : Stmt} {t t' : TS} (h : PS X st t) (w : ∀ D σ H, t' D σ H → t D σ H) : PS X st t' := ⟨fun pins s σ H D I q => h.run pins s σ H D I (w _ _ _ q)⟩
theorem PSs.weak {X : Cx} {st : List Stmt} {t t' : TS} (h : PSs X st t) (w : ∀ D σ H, t' D σ H → t D σ H) : PSs X st t' := ⟨fun pins s σ H D I q => h.run pins s σ H D I (w _ _ _ q)⟩
def dNext : DS := fun De ε M => De.nx ε M
def dSeq (a b : DS) : DS := fun De ε M => a { De with nx := b De } ε M
def dCut (m : Nat) (a b : DS) : DS := fun De ε M => ∃ P : DSt → Mem → Prop, a { De with nx := fun ε' M' => P (norm m ε') M' } ε M ∧ ∀ ε' M', P ε' M' → b De ε' M'
def dBreak : DS := fun De ε M => De.bk ε M
def dCont : DS := fun De ε M => De.ct ε M
def dNever : DS := fun _ _ _ => False
def dDrop (da : DE) : DS := fun De ε M => da ε M fun _ M1 => De.nx ε M1
def dRet (da : DE) : DS := fun De ε M => da ε M De.rt
def dRetN : DS := fun De _ M => De.rt (.d .none) M
def dIfS (t : DT) (a b : DS) : DS := fun De ε M => t ε M fun c M1 => if c = true then a De ε M1 else b De ε M1
def dAsg (da : DE) (g : DG) : DS := fun De ε M => da ε M fun y M1 => g y ε M1 De.nx
def dPar (i j : Nat) (da : DA) : DS := fun De ε M => da ε M fun ys M1 => match ys with
  | [x, y] => De.nx (.put (.put ε i x) j y) M1
  | _ => False
def dPar3 (i j l : Nat) (da : DA) : DS := fun De ε M => da ε M fun ys M1 => match ys with
  | [x, y, z] => De.nx (.put (.put (.put ε i x) j y) l z) M1
  | _ => False
def dWhile (k : Nat) (t : DT) (b : DS) : DS := fun De ε M => ∃ W : Nat → DSt → Mem → Prop, (∃ m, W m (norm k ε) M) ∧ ∀ m ε' M', W m ε' M' → t ε' M' fun c M1 => if c = true then
  b { De with nx := fun ε2 M2 => ∃ m', m' < m ∧ W m' (norm k ε2) M2, ct := fun ε2 M2 => ∃ m', m' < m ∧ W m' (norm k ε2) M2, bk := De.nx } ε' M1 else De.nx ε' M1
section
variable {n : Nat} {K : PySem.W.Frag} {X : Cx} {st : Stmt} {rest : List Stmt} {ds du : DS} {e : Expr} {da : DE} {dt : DT} {pos : Pos}
theorem pdss_nil : PDSs K X [] dNext := fun hK Wx tk => PSs.weak pss_nil fun D σ H ⟨Z, η, M, ε, De, r, s, q, f⟩ => f.nx σ η M ε H r .refl s q
theorem pdss_cons (h1 : PDS K X st ds) (h2 : PDSs K X rest du) : PDSs K X (st :: rest) (dSeq ds du) := fun hK Wx tk =>
  PSs.weak (pss_cons (h1 hK Wx tk) (h2 hK Wx tk)) fun D σ H ⟨Z, η, M, ε, De, r, s, q, f⟩ => ⟨Z, η, M, ε, { De with nx := du De }, r, s, q, fun σ' η' M' ε' H' r' k' s' q' => ⟨Z, η', M', ε', De, r', s', q', f.keep k'⟩, f.rt, f.bk, f.ct, f.xc⟩
theorem pdss_cut (m : Nat) (h1 : PDS K X st ds) (h2 : PDSs K X rest du) : PDSs K X (st :: rest) (dCut m ds du) := fun hK Wx tk =>
  PSs.weak (pss_cons (h1 hK Wx tk) (h2 hK Wx tk)) fun D σ H ⟨Z, η, M, ε, De, r, s, ⟨P, q, qp⟩, f⟩ => ⟨Z, η, M, ε, { De with nx := fun ε' M' => P (norm m ε') M' }, r, s, q, fun σ' η' M' ε' H' r' k' s' q' => ⟨Z, η', M', norm m ε', De, r', s'.norm, qp _ _ q', f.keep k'⟩, f.rt, f.bk, f.ct, f.xc⟩
theorem pdss_one (h1 : PDS K X st ds) : PDSs K X [st] ds := fun hK Wx tk => pss_one (h1 hK Wx tk)
theorem pds_pass : PDS K X (.Pass pos) dNext := fun hK Wx tk => PS.weak ps_pass fun D σ H ⟨Z, η, M, ε, De, r, s, q, f⟩ => f.nx σ η M ε H r .refl s q
theorem pds_break : PDS K X (.Break pos) dBreak := fun hK Wx tk => PS.weak ps_break fun D σ H ⟨Z, η, M, ε, De, r, s, q, f⟩ => f.bk σ η M ε H r .refl s q
theorem pds_continue : PDS K X (.Continue pos) dCont := fun hK Wx tk => PS.weak ps_continue fun D σ H ⟨Z, η, M, ε, De, r, s, q, f⟩ => f.ct σ η M ε H r .refl s q
theorem pds_doc {x j pos pos'} : PDS K X (.Expr (.Constant (.str x) j pos) pos') dNext := fun hK Wx tk => PS.weak ps_doc fun D σ H ⟨Z, η, M, ε, De, r, s, q, f⟩ => f.nx σ η M ε H r .refl s q
theorem pds_never : PDS K X st dNever := fun hK Wx tk => PS.weak ps_never fun D σ H ⟨Z, η, M, ε, De, r, s, q, f⟩ => q.elim
theorem pds_expr (he : PD K X e da) (hs : swapsWith e none pos.line X.env = pure false := by rfl) : PDS K X (.Expr e pos) (dDrop da) := fun hK Wx tk =>
  PS.weak (ps_expr (he hK) hs) fun D σ H ⟨Z, η, M, ε, De, r, s, q, f⟩ => ⟨Z, η, M, ε, _, r, s, q, fun v η1 M1 y H1 r1 k1 d1 q1 => f.nx σ η1 M1 ε H1 r1 k1 (s.keep k1) q1⟩
theorem pds_ret (he : PD K X e da) : PDS K X (.Return (some e) pos) (dRet da) := fun hK Wx tk =>
  PS.weak (ps_ret (he hK)) fun D σ H ⟨Z, η, M, ε, De, r, s, q, f⟩ => ⟨Z, η, M, ε, _, r, s, q, f.rt⟩
theorem pds_retN : PDS K X (.Return none pos) dRetN := fun hK Wx tk => PS.weak ps_retN fun D σ H ⟨Z, η, M, ε, De, r, s, q, f⟩ => f.rt .non η M (.d .none) H r .refl Dq.non q
theorem pds_if {c : Expr} {a b : List Stmt} (hc : PDT K X c dt) (ha : PDSs K X a ds) (hb : PDSs K X b du) : PDS K X (.If c a b pos) (dIfS dt ds du) := fun hK Wx tk =>
  PS.weak (ps_if (hc hK) (ha hK Wx tk) (hb hK Wx tk)) fun D σ H ⟨Z, η, M, ε, De, r, s, q, f⟩ => ⟨Z, η, M, ε, _, r, s, q, fun b η1 M1 H1 r1 k1 q1 => by
    cases b with
    | true => exact ⟨Z, η1, M1, ε, De, r1, s.keep k1, q1, f.keep k1⟩
    | false => exact ⟨Z, η1, M1, ε, De, r1, s.keep k1, q1, f.keep k1⟩⟩
theorem asg_ok {dg : DG} {ix : List Nat} {Wn : WN} {D : Ends} {σ : L2.St} {H : Hp} (h : tS n K Wn (dAsg da dg) D σ H) : tAsg (tD n K da) (tG n K dg ix) D σ H := by
  obtain ⟨Z, η, M, ε, De, r, s, q, f⟩ := h
  exact ⟨Z, η, M, ε, _, r, s, q, fun v η1 M1 y H1 r1 k1 d1 q1 => ⟨Z, η1, M1, ε, y, _, r1, s.keep k1, d1, q1, fun σ' η' M' ε' H' r' k' s' _ q' => f.nx σ' η' M' ε' H' r' (k1.trans k') s' q'⟩⟩
theorem set_ok {i : Nat} (hi : i < n) {Wn : WN} {D : Ends} {σ : L2.St} {H : Hp} (h : tS n K Wn (dAsg da (gD i)) D σ H) : tAsg (tD n K da) (gName i) D σ H := by
  obtain ⟨Z, η, M, ε, De, r, s, q, f⟩ := h
  exact ⟨Z, η, M, ε, _, r, s, q, fun v η1 M1 y H1 r1 k1 d1 q1 => f.nx _ η1 M1 _ H1 r1 k1 ((s.keep k1).set d1 i hi) q1⟩
theorem pds_asg {tg : Expr} {dg : DG} {ix : List Nat} (he : PD K X e da) (hg : PDG K X tg dg ix) (hs : swapsWithSole [tg] e pos.line X.env = pure false := by rfl) (hw : swappedStores [tg] e X.env = pure none := by rfl)
    (h1 : (assignEach [tg] X.env).map (·.2) = [assign tg X.env] := by rfl) : PDS K X (.Assign [tg] e pos) (dAsg da dg) := fun hK Wx tk => PS.weak (ps_asg (he hK) (hg hK) hs hw h1) fun D σ H h => asg_ok h
theorem pds_set {i : Nat} {x : Str} {pos' : Pos} (hN : X.N.Nodup) (hi : X.N[i]? = some x) (hx : Loc X.env.scope x) (he : PD K X e da) (hs : swapsWith e (some (.Name x pos')) pos.line X.env = pure false := by rfl) (hf : X.fn x = true ∨ X.env.scope.names.lookup x = some .local := by first | exact .inl rfl | exact .inr rfl | assumption) :
    PDS K X (.Assign [.Name x pos'] e pos) (dAsg da (gD i)) := fun hK Wx tk => PS.weak (ps_set hN hi hx (he hK) hs hf) fun D σ H h => set_ok (idx_lt hi) h
theorem pds_par {i j : Nat} {x y : Str} {a b : Expr} {dar : DA} {px py pt : Pos} {kt k2 pt2} (hc : X.calm = true) (hN : X.N.Nodup) (hi : X.N[i]? = some x) (hj : X.N[j]? = some y) (hij : i ≠ j)
    (hx : X.env.scope.names.lookup x = some .local) (hy : X.env.scope.names.lookup y = some .local) (ha : PDA K X [a, b] dar)
    (hw : swappedStores [.Tuple [.Name x px, .Name y py] kt pt] (.Tuple [a, b] k2 pt2) X.env = pure (some [x, y]))
    (hs : swapsWithSole [.Tuple [.Name x px, .Name y py] kt pt] (.Tuple [a, b] k2 pt2) pos.line X.env = pure false := by rfl) :
    PDS K X (.Assign [.Tuple [.Name x px, .Name y py] kt pt] (.Tuple [a, b] k2 pt2) pos) (dPar i j dar) := fun hK Wx tk =>
  PS.weak (ps_par hc hN hi hj hij hx hy (ha hK) hw hs) fun D σ H ⟨Z, η, M, ε, De, r, s, q, f⟩ => ⟨Z, η, M, ε, _, r, s, q, fun vs η1 M1 ys H1 r1 k1 d1 q1 => by
    split at q1
    · cases d1 with
      | cons d1 t =>
        cases t with
        | cons d2 t =>
          cases t
          exact ⟨_, _, rfl, f.nx _ η1 M1 _ H1 r1 k1 (((s.keep k1).set d1 i (idx_lt hi)).set d2 j (idx_lt hj)) q1⟩
    · exact q1.elim⟩
theorem pds_par3 {i j l : Nat} {x y z : Str} {a b c : Expr} {dar : DA} {px py pz pt pos : Pos} {kt k2 pt2} (hc : X.calm = true) (hN : X.N.Nodup) (hi : X.N[i]? = some x) (hj : X.N[j]? = some y) (hl : X.N[l]? = some z) (hij : i ≠ j) (hil : i ≠ l) (hjl : j ≠ l)
    (hx : X.env.scope.names.lookup x = some .local) (hy : X.env.scope.names.lookup y = some .local) (hz : X.env.scope.names.lookup z = some .local) (ha : PDA K X [a, b, c] dar)
    (hw : swappedStores [.Tuple [.Name x px, .Name y py, .Name z pz] kt pt] (.Tuple [a, b, c] k2 pt2) X.env = pure (some [x, y, z]))
    (hs : swapsWithSole [.Tuple [.Name x px, .Name y py, .Name z pz] kt pt] (.Tuple [a, b, c] k2 pt2) pos.line X.env = pure false := by rfl) :
    PDS K X (.Assign [.Tuple [.Name x px, .Name y py, .Name z pz] kt pt] (.Tuple [a, b, c] k2 pt2) pos) (dPar3 i j l dar) := fun hK Wx tk =>
  PS.weak (ps_par3 hc hN hi hj hl hij hil hjl hx hy hz (ha hK) hw hs) fun D σ H ⟨Z, η, M, ε, De, r, s, q, f⟩ => ⟨Z, η, M, ε, _, r, s, q, fun vs η1 M1 ys H1 r1 k1 d1 q1 => by
    split at q1
    · cases d1 with
      | cons d1 t =>
        cases t with
        | cons d2 t =>
          cases t with
          | cons d3 t =>
            cases t
            exact ⟨_, _, _, rfl, f.nx _ η1 M1 _ H1 r1 k1 ((((s.keep k1).set d1 i (idx_lt hi)).set d2 j (idx_lt hj)).set d3 l (idx_lt hl)) q1⟩
    · exact q1.elim⟩
theorem pds_while {c : Expr} {body : List Stmt} (k : Nat) (hp : PassesOwn (model X.prog X.w) X.A X.env X.xe) (hc : PDT K X c dt) (hb : PDSs K X body ds) : PDS K X (.While c body [] pos) (dWhile k dt ds) := fun hK Wx tk =>
  PS.weak (ps_while hp (hc hK) (hb hK Wx tk)) fun D σ H ⟨Z, η, M, ε, De, r, s, ⟨W, ⟨m0, w0⟩, step⟩, f⟩ => by
    refine ⟨fun m σ' H' => ∃ η' M' ε', Rel K Z η' M' H' ∧ Keep η M H η' M' H' ∧ Slt X.N.length K Z η' M' H' σ' ε' ∧ W m ε' M', ⟨m0, η, M, norm k ε, r, .refl, s.norm, w0⟩, ?_⟩
    rintro m σ' H' ⟨η', M', ε', r', k', s', w'⟩
    refine ⟨Z, η', M', ε', _, r', s', step m ε' M' w', fun b η1 M1 H1 r1 k1 q1 => ?_⟩
    cases b with
    | false => exact f.nx σ' η1 M1 ε' H1 r1 (k'.trans k1) (s'.keep k1) q1
    | true =>
      refine ⟨fun σ2 H2 => ∃ m', m' < m ∧ ∃ η2 M2 ε2, Rel K Z η2 M2 H2 ∧ Keep η M H η2 M2 H2 ∧ Slt X.N.length K Z η2 M2 H2 σ2 ε2 ∧ W m' ε2 M2, fun σ2 H2 z => z, ?_⟩
      have kk := k'.trans k1
      refine ⟨Z, η1, M1, ε', _, r1, s'.keep k1, q1, ?_, (f.keep kk).rt, fun σ2 η2 M2 ε2 H2 r2 k2 s2 q2 => f.nx σ2 η2 M2 ε2 H2 r2 (kk.trans k2) s2 q2, ?_, (f.keep kk).xc⟩
      · rintro σ2 η2 M2 ε2 H2 r2 k2 s2 ⟨m', hm, w2⟩
        exact ⟨m', hm, η2, M2, norm k ε2, r2, kk.trans k2, s2.norm, w2⟩
      · rintro σ2 η2 M2 ε2 H2 r2 k2 s2 ⟨m', hm, w2⟩
        exact ⟨m', hm, η2, M2, norm k ε2, r2, kk.trans k2, s2.norm, w2⟩
end
end Dl
/-! Data level, 6: walks, for, comprehensions. -/
namespace Dl
open PySem PySem.Spec PyProof.Rows L2 Ow
abbrev DW := DSt → Mem → (List PyData → Mem → Prop) → Prop
/-- J walks the items, whose data stand in W -/
structure Walks (K : PySem.W.Frag) (W : Hp) (J : It) (items : List PyData) : Prop where
  goes : ∀ i H, i < items.length → Sm W H → J.go i H
  stops : ∀ H, Sm W H → J.stop items.length H
  yields : ∀ (i : Nat) (Z : Addr → Prop) (η : List Addr) (M : Mem) (H : Hp) (v : V) (H' : Hp), i < items.length → Rel K Z η M H → Sm W (vis Z η M H) → J.yld i H v H' → ∃ x, items[i]? = some x ∧ Rel K Z η M H' ∧ Keep η M H η M H' ∧ Dq K (vis Z η M H') v x
def tI (n : Nat) (K : PySem.W.Frag) (dw : DW) : TI := fun σ H R => ∃ (Z : Addr → Prop) (η : List Addr) (M : Mem) (ε : DSt) (Q : List PyData → Mem → Prop), Rel K Z η M H ∧ Slt n K Z η M H σ ε ∧ dw ε M Q ∧
  ∀ items η' M' H' J, Rel K Z η' M' H' → Keep η M H η' M' H' → Q items M' → Walks K (vis Z η' M' H') J items → R J H'
def PDI (K : PySem.W.Frag) (X : Cx) (tg iter : Expr) (dw : DW) : Prop := X.K = K → PI X tg iter (tI X.N.length K dw)
theorem PI.weak {X : Cx} {tg iter : Expr} {t t' : TI} (h : PI X tg iter t) (w : ∀ σ H R, t' σ H R → t σ H R) : PI X tg iter t' := ⟨fun pins s σ H R I q => h.run pins s σ H R I (w _ _ _ q)⟩
def wSeq (da : DE) : DW := fun ε M Q => da ε M fun y M1 => asD y M1 fun x M2 => match x with
  | .list xs => Q xs M2
  | .tuple xs => Q xs M2
  | .str z => Q (z.cps.toList.map fun c => PyData.str ⟨#[c]⟩) M2
  | _ => False
def wStr (da : DE) : DW := fun ε M Q => da ε M fun y M1 => match y with
  | .d (.str z) => Q (z.cps.toList.map fun c => PyData.str ⟨#[c]⟩) M1
  | _ => False
def rangeD (lo : Int) (n : Nat) : List PyData := (List.range n).map fun (i : Nat) => PyData.int (lo + (i : Int))
def wRg1 (da : DA) : DW := fun ε M Q => da ε M fun ys M1 => match ys with
  | [.d (.int j)] => (-(2 ^ 62) ≤ j ∧ j < 2 ^ 62) ∧ Q (rangeD 0 j.toNat) M1
  | _ => False
def wRg2 (da : DA) : DW := fun ε M Q => da ε M fun ys M1 => match ys with
  | [.d (.int i), .d (.int j)] => (-(2 ^ 62) ≤ i ∧ i < 2 ^ 62 ∧ -(2 ^ 62) ≤ j ∧ j < 2 ^ 62) ∧ Q (rangeD i (j - i).toNat) M1
  | _ => False
def zipD (xs ys : List PyData) : List PyData := (xs.zip ys).map fun p => PyData.tuple [p.1, p.2]
def wZip (da : DA) : DW := fun ε M Q => da ε M fun ys M1 => asDs ys M1 fun ds M2 => match ds with
  | [.list a, .list b] => Q (zipD a b) M2
  | [.tuple a, .tuple b] => Q (zipD a b) M2
  | [.list a, .tuple b] => Q (zipD a b) M2
  | [.tuple a, .list b] => Q (zipD a b) M2
  | _ => False
def enumD (xs : List PyData) : List PyData := xs.zipIdx.map fun p => PyData.tuple [.int (p.2 : Int), p.1]
def wEnum (da : DA) : DW := fun ε M Q => da ε M fun ys M1 => asDs ys M1 fun ds M2 => match ds with
  | [.list a] => Q (enumD a) M2
  | [.tuple a] => Q (enumD a) M2
  | _ => False
section
variable {n : Nat} {K : PySem.W.Frag} {X : Cx} {pos p : Pos} {tg e e2 : Expr} {es : List Expr} {da : DE} {dar : DA}
theorem rangeD_len (lo : Int) (n : Nat) : (rangeD lo n).length = n := by unfold rangeD; rw [List.length_map, List.length_range]
theorem rangeD_at {lo : Int} {n i : Nat} (h : i < n) : (rangeD lo n)[i]? = some (.int (lo + (i : Int))) := by
  unfold rangeD
  rw [List.getElem?_map, List.getElem?_range h]
  rfl
theorem walks_at {W : Hp} {J : It} {G : Hp → Prop} {us : List V} {ds : List PyData} (w : Walk J us.length G (YAt us)) (hn : ds.length = us.length) (hG : ∀ H, Sm W H → G H) (hd : DqAll K W us ds) : Walks K W J ds := by
  refine ⟨fun i H hi s => w.goes i H (by omega) (hG H s), fun H s => by rw [hn]; exact w.stops H (hG H s), fun i Z η M H v H' hi r s y => ?_⟩
  obtain ⟨rfl, hv⟩ := w.yields i H v H' (by omega) (hG H fun b o e => vis_sub b o (s b o e)) y
  obtain ⟨x, ex, dx⟩ := DqAll.at' i hd hv
  exact ⟨x, ex, r, .refl, Dq.sm s dx⟩
theorem walks_list {W : Hp} {a : Addr} {us : List V} {ds : List PyData} (s : SqL K W a us) (hd : DqAll K W us ds) : Walks K W (Itl K a) ds :=
  walks_at walk_list (DqAll.length hd).symm (fun H sm => SqL.sm s sm) hd
theorem walks_tup {W : Hp} {a : Addr} {us : List V} {ds : List PyData} (s : SqF W a us) (hd : DqAll K W us ds) : Walks K W (Itt K a) ds :=
  walks_at walk_tup (DqAll.length hd).symm (fun H sm => (SqF.sm s sm).t) hd
theorem walks_range {W : Hp} {lo : Int} {n : Nat} : Walks K W (Itr lo n) (rangeD lo n) := by
  refine ⟨fun i H hi s => ?_, fun H s => ?_, fun i Z η M H v H' hi r s y => ?_⟩
  · rw [rangeD_len] at hi
    exact hi
  · rw [rangeD_len]
    exact Nat.le_refl _
  · rw [rangeD_len] at hi
    obtain ⟨rfl, rfl⟩ := y
    exact ⟨_, rangeD_at hi, r, .refl, Dq.int _⟩
theorem walks_pair {W : Hp} {J : It} {n : Nat} {G : Hp → Prop} {fx fy : Nat → Option V} {ds : List PyData} (w : Walk J n G (YPairF fx fy)) (hn : ds.length = n) (hG : ∀ H, Sm W H → G H)
    (hd : ∀ i x y, i < n → fx i = some x → fy i = some y → ∃ a b, ds[i]? = some (.tuple [a, b]) ∧ Dq K W x a ∧ Dq K W y b) : Walks K W J ds := by
  refine ⟨fun i H hi s => w.goes i H (by omega) (hG H s), fun H s => by rw [hn]; exact w.stops H (hG H s), fun i Z η M H v H' hi r s y => ?_⟩
  obtain ⟨T, ob, x, z, rfl, hT, ho, rfl, h1, h2⟩ := w.yields i H v H' (by omega) (hG H fun b o e => vis_sub b o (s b o e)) y
  obtain ⟨a, b, ex, d1, d2⟩ := hd i x z (by omega) h1 h2
  obtain ⟨r1, k1⟩ := r.new (o := .frz ob (.tup [x, z])) hT
  exact ⟨_, ex, r1, k1, .tup ⟨ob, ho, r.new_vis hT⟩ (DqAll.sm (fun b o e => k1.vis b o (s b o e)) (.cons d1 (.cons d2 .nil)))⟩
theorem zipD_len (xs ys : List PyData) : (zipD xs ys).length = min xs.length ys.length := by unfold zipD; rw [List.length_map, List.length_zip]
theorem zipD_at {xs ys : List PyData} {i : Nat} {a b : PyData} (h1 : xs[i]? = some a) (h2 : ys[i]? = some b) : (zipD xs ys)[i]? = some (.tuple [a, b]) := by
  unfold zipD
  rw [List.getElem?_map]
  have : (xs.zip ys)[i]? = some (a, b) := by
    rw [List.getElem?_zip_eq_some]
    exact ⟨h1, h2⟩
  rw [this]
  rfl
theorem enumD_len (xs : List PyData) : (enumD xs).length = xs.length := by unfold enumD; rw [List.length_map, List.length_zipIdx]
theorem enumD_at {xs : List PyData} {i : Nat} {a : PyData} (h1 : xs[i]? = some a) : (enumD xs)[i]? = some (.tuple [.int (i : Int), a]) := by
  unfold enumD
  rw [List.getElem?_map, List.getElem?_zipIdx, h1]
  simp
theorem rangeStr_at {z : Str} {i c : Nat} (h : z.cps[i]? = some c) : (z.cps.toList.map fun c => PyData.str ⟨#[c]⟩)[i]? = some (.str ⟨#[c]⟩) := by
  rw [List.getElem?_map, Array.getElem?_toList, h]
  rfl
theorem walks_str {W : Hp} {z : Str} : Walks K W (Its z) (z.cps.toList.map fun c => PyData.str ⟨#[c]⟩) := by
  have e : (z.cps.toList.map fun c => PyData.str ⟨#[c]⟩).length = z.cps.size := by rw [List.length_map, Array.length_toList]
  refine ⟨fun i H hi s => ?_, fun H s => ?_, fun i Z η M H v H' hi r s y => ?_⟩
  · rw [e] at hi
    exact hi
  · rw [e]
    exact Nat.le_refl _
  · obtain ⟨rfl, c, hc, rfl⟩ := y
    exact ⟨_, rangeStr_at hc, r, .refl, Dq.str _⟩
/-- a list, a tuple or a text is walked -/
def iSeq (K : PySem.W.Frag) (tl : TE) : TI := fun σ H R => tl σ H fun x H1 => (∃ a, x = .ref a ∧ ((∃ xs, SqL K H1 a xs) ∧ R (Itl K a) H1 ∨ (∃ xs, SqT K H1 a xs) ∧ R (Itt K a) H1)) ∨ ∃ z, x = .str z ∧ R (Its z) H1
theorem pi_seq {l : Expr} {tl : TE} (hl : PE X l tl) : PI X tg l (iSeq X.K tl) := by
  refine ⟨fun pins s σ H R I h => ?_⟩
  refine thn (hl.run pins s σ H _ I h) fun v s1 ⟨x, H1, I1, r1, q1⟩ => ?_
  rcases q1 with ⟨a, e, ⟨⟨xs, hq⟩, q⟩ | ⟨⟨xs, hq⟩, q⟩⟩ | ⟨z, e, q⟩
  · subst e
    cases r1
    obtain ⟨its, rv, p, hz⟩ := I1.list hq
    refine wpAny_pyIter_list p.isList ?_
    refine ⟨s1.heap.objs.size, [s1.heap.objs.size], _, _, H1, rfl, I1.kept (t' := s1.toks) fun b o e => Heap.get?_push_of_some _ e, turn_list a _, ⟨_, Heap.get?_push_size _ rfl, rfl, rfl⟩, fun b hb => ?_, q⟩
    have e : b = s1.heap.objs.size := by simpa using hb
    subst e
    exact I1.fpOk (Nat.le_refl _) (I1.hok.fresh (Nat.le_refl _))
  · subst e
    cases r1
    obtain ⟨its, rv, p, hz⟩ := I1.tuple hq
    refine wpAny_pyIter_tuple (show s1.heap.IsTuple a its.toArray from p) ?_
    refine ⟨s1.heap.objs.size, [s1.heap.objs.size], _, _, H1, rfl, I1.kept (t' := s1.toks) fun b o e => Heap.get?_push_of_some _ e, turn_tuple a _, ⟨_, Heap.get?_push_size _ rfl, rfl, rfl⟩, fun b hb => ?_, q⟩
    have e : b = s1.heap.objs.size := by simpa using hb
    subst e
    exact I1.fpOk (Nat.le_refl _) (I1.hok.fresh (Nat.le_refl _))
  · subst e
    obtain ⟨t, rfl⟩ := r1
    cases ha : z.cps.all (· < 128)
    · exact wpAny_pyIter_wide ha (pi_one (tk := s1.toks) I1 _ (turn_str _ z t "str_iterator" (.inr rfl)) ⟨_, Heap.get?_push_size _ rfl, rfl, rfl⟩ q)
    · exact wpAny_pyIter_ascii ha (pi_one (tk := s1.toks) I1 _ (turn_str _ z t "str_ascii_iterator" (.inl rfl)) ⟨_, Heap.get?_push_size _ rfl, rfl, rfl⟩ q)
theorem pdi_seq (h : PD K X e da) : PDI K X tg e (wSeq da) := fun hK => PI.weak (pi_seq (h hK)) fun σ H R ⟨Z, η, M, ε, Q, r, s, q, fin⟩ => by
  refine ⟨Z, η, M, ε, _, r, s, q, fun v η1 M1 y H1 r1 k1 d1 q1 => ?_⟩
  obtain ⟨x, M2, r2, k2, d2, q2⟩ := r1.asD d1 q1
  subst hK
  cases x with
  | list xs =>
    cases d2 with
    | lst sq t => exact .inl ⟨_, rfl, .inl ⟨⟨_, SqL.sm sq vis_sub⟩, fin xs η1 M2 H1 _ r2 (k1.trans k2) q2 (walks_list sq t)⟩⟩
  | tuple xs =>
    cases d2 with
    | tup sq t => exact .inl ⟨_, rfl, .inr ⟨⟨_, (SqF.sm sq vis_sub).t⟩, fin xs η1 M2 H1 _ r2 (k1.trans k2) q2 (walks_tup sq t)⟩⟩
  | str z => exact .inr ⟨z, str_of' d2, fin _ η1 M2 H1 _ r2 (k1.trans k2) q2 walks_str⟩
  | _ => exact q2.elim
theorem pdi_range1 {a : Expr} (hm : X.mg "range" = none) (ha : PDA K X [a] dar) (hg : Gl X "range" := by rfl) (hs : starEach [a] X.env = [(false, eval a X.env)] := by rfl) : PDI K X tg (.Call (.Name "range" p) [a] [] pos) (wRg1 dar) := fun hK =>
  PI.weak (pi_range1 hg hm (ha hK) hs) fun σ H R ⟨Z, η, M, ε, Q, r, s, q, fin⟩ => ⟨Z, η, M, ε, _, r, s, q, fun vs η1 M1 ys H1 r1 k1 d1 q1 => by
    split at q1
    · rename_i j
      cases d1 with
      | cons d1 t =>
        cases t
        exact ⟨j, by rw [int_of' (W := vis Z η1 M1 H1) d1], q1.1.1, q1.1.2, fin _ η1 M1 H1 _ r1 k1 q1.2 walks_range⟩
    · exact q1.elim⟩
theorem pdi_range2 {a b : Expr} (hm : X.mg "range" = none) (ha : PDA K X [a, b] dar) (hg : Gl X "range" := by rfl) (hs : starEach [a, b] X.env = [(false, eval a X.env), (false, eval b X.env)] := by rfl) (hs2 : starEach [b] X.env = [(false, eval b X.env)] := by rfl) :
    PDI K X tg (.Call (.Name "range" p) [a, b] [] pos) (wRg2 dar) := fun hK =>
  PI.weak (pi_range2 hg hm (ha hK) hs hs2) fun σ H R ⟨Z, η, M, ε, Q, r, s, q, fin⟩ => ⟨Z, η, M, ε, _, r, s, q, fun vs η1 M1 ys H1 r1 k1 d1 q1 => by
    split at q1
    · rename_i i j
      cases d1 with
      | cons d1 t =>
        cases t with
        | cons d2 t =>
          cases t
          exact ⟨i, j, by rw [int_of' (W := vis Z η1 M1 H1) d1, int_of' (W := vis Z η1 M1 H1) d2], q1.1, fin _ η1 M1 H1 _ r1 k1 q1.2 walks_range⟩
    · exact q1.elim⟩
theorem src_of {W : Hp} {v : V} {x : PyData} {xs : List PyData} (e : x = .list xs ∨ x = .tuple xs) (h : Dq K W v x) : ∃ (src : Src) (vs : List V), v = .ref src.ad ∧ SrcAt K W src vs ∧ DqAll K W vs xs := by
  rcases e with rfl | rfl
  · cases h with
    | lst s t => exact ⟨.l _, _, rfl, s, t⟩
  · cases h with
    | tup s t => exact ⟨.t _, _, rfl, s.t, t⟩
theorem walks_zip {W : Hp} {s1 s2 : Src} {us vs : List V} {a b : List PyData} (h1 : SrcAt K W s1 us) (h2 : SrcAt K W s2 vs) (t1 : DqAll K W us a) (t2 : DqAll K W vs b) : Walks K W (ItZ K s1 s2) (zipD a b) := by
  refine walks_pair (walk_zipF rfl) (by rw [zipD_len, DqAll.length t1, DqAll.length t2]) (fun H sm => ⟨h1.sm sm, h2.sm sm⟩) fun i x y _ hx hy => ?_
  obtain ⟨a', ea, da'⟩ := DqAll.at' i t1 hx
  obtain ⟨b', eb, db'⟩ := DqAll.at' i t2 hy
  exact ⟨a', b', zipD_at ea eb, da', db'⟩
theorem walks_enum {W : Hp} {src : Src} {us : List V} {a : List PyData} (h : SrcAt K W src us) (t : DqAll K W us a) : Walks K W (ItE K src) (enumD a) := by
  refine walks_pair walk_enumF (by rw [enumD_len, DqAll.length t]) (fun H sm => h.sm sm) fun i x y _ hx hy => ?_
  cases hx
  obtain ⟨b', eb, db'⟩ := DqAll.at' i t hy
  exact ⟨_, b', enumD_at eb, .int _, db'⟩
theorem pdi_zip {elts : List Expr} {kk : Nat} {tpos : Pos} (hm : X.mg "zip" = none) (ha : PDA K X [e, e2] dar) (hg : Gl X "zip" := by rfl)
    (hs : starEach [e, e2] X.env = (false, eval e X.env) :: starEach [e2] X.env := by rfl) (hpl : (backTo pos (starEach [e2] X.env)).any (·.1) = false := by rfl) :
    PDI K X (.Tuple elts kk tpos) (.Call (.Name "zip" p) [e, e2] [] pos) (wZip dar) := fun hK =>
  PI.weak (pi_zipF hg hm (ha hK) hs hpl) fun σ H R ⟨Z, η, M, ε, Q, r, s, q, fin⟩ => ⟨Z, η, M, ε, _, r, s, q, fun vs η1 M1 ys H1 r1 k1 d1 q1 => by
    obtain ⟨ds, M2, r2, k2, d2, q2⟩ := r1.asDs d1 q1
    subst hK
    have key : ∀ (x y : PyData) (a b : List PyData), ds = [x, y] → (x = .list a ∨ x = .tuple a) → (y = .list b ∨ y = .tuple b) → Q (zipD a b) M2 → iZipF X.K (fun _ H1' Q' => Q' vs H1') σ H1 R := fun x y a b e1 ex ey q => by
      subst e1
      cases d2 with
      | cons d2 t =>
        cases t with
        | cons d3 t =>
          cases t
          obtain ⟨s1, us, rfl, h1, t1⟩ := src_of ex d2
          obtain ⟨s2, ws, rfl, h2, t2⟩ := src_of ey d3
          exact ⟨s1, s2, us, ws, rfl, h1.sm vis_sub, h2.sm vis_sub, fin _ η1 M2 H1 _ r2 (k1.trans k2) q (walks_zip h1 h2 t1 t2)⟩
    split at q2
    · exact key _ _ _ _ rfl (.inl rfl) (.inl rfl) q2
    · exact key _ _ _ _ rfl (.inr rfl) (.inr rfl) q2
    · exact key _ _ _ _ rfl (.inl rfl) (.inr rfl) q2
    · exact key _ _ _ _ rfl (.inr rfl) (.inl rfl) q2
    · exact q2.elim⟩
theorem pdi_enum {elts : List Expr} {kk : Nat} {tpos : Pos} (hm : X.mg "enumerate" = none) (ha : PDA K X [e] dar) (hg : Gl X "enumerate" := by rfl) (hs : starEach [e] X.env = [(false, eval e X.env)] := by rfl) :
    PDI K X (.Tuple elts kk tpos) (.Call (.Name "enumerate" p) [e] [] pos) (wEnum dar) := fun hK =>
  PI.weak (pi_enumF hg hm (ha hK) hs) fun σ H R ⟨Z, η, M, ε, Q, r, s, q, fin⟩ => ⟨Z, η, M, ε, _, r, s, q, fun vs η1 M1 ys H1 r1 k1 d1 q1 => by
    obtain ⟨ds, M2, r2, k2, d2, q2⟩ := r1.asDs d1 q1
    subst hK
    have key : ∀ (x : PyData) (a : List PyData), ds = [x] → (x = .list a ∨ x = .tuple a) → Q (enumD a) M2 → iEnumF X.K (fun _ H1' Q' => Q' vs H1') σ H1 R := fun x a e1 ex q => by
      subst e1
      cases d2 with
      | cons d2 t =>
        cases t
        obtain ⟨s1, us, rfl, h1, t1⟩ := src_of ex d2
        exact ⟨s1, us, rfl, h1.sm vis_sub, fin _ η1 M2 H1 _ r2 (k1.trans k2) q (walks_enum h1 t1)⟩
    split at q2
    · exact key _ _ rfl (.inl rfl) q2
    · exact key _ _ rfl (.inr rfl) q2
    · exact q2.elim⟩
end
/-! ### for -/
def dFor (k : Nat) (dw : DW) (g : DG) (b : DS) : DS := fun De ε M => dw ε M fun items M1 => ∃ I : Nat → DSt → Mem → Prop, I 0 (norm k ε) M1 ∧
  (∀ i x ε' M', items[i]? = some x → I i ε' M' → g (.d x) ε' M' fun ε2 M2 => b { De with nx := fun ε3 M3 => I (i + 1) (norm k ε3) M3, ct := fun ε3 M3 => I (i + 1) (norm k ε3) M3, bk := De.nx } ε2 M2) ∧ ∀ ε' M', I items.length ε' M' → De.nx ε' M'
section
variable {n : Nat} {K : PySem.W.Frag} {X : Cx} {pos : Pos} {tg iter : Expr} {dw : DW} {g : DG} {ds : DS} {ix : List Nat}
theorem pds_for {body : List Stmt} (k : Nat) (hp : PassesOwn (model X.prog X.w) X.A X.env X.xe) (hc : X.calm = true) (hi : PDI K X tg iter dw) (hg : PDG K X tg g ix) (hb : PDSs K X body ds)
    (hs : ∀ x, foldedSetIterable iter X.env x = pure x := by intro _; rfl) : PDS K X (.For tg iter body [] pos) (dFor k dw g ds) := fun hK Wx tk =>
  PS.weak (ps_for hp hc (hi hK) (hg hK) (hb hK Wx tk) hs) fun D σ H ⟨Z, η, M, ε, De, r, s, q, f⟩ => ⟨Z, η, M, ε, _, r, s, q, fun items η1 M1 H1 J r1 k1 q1 wk => by
    obtain ⟨I, i0, step, done⟩ := q1
    refine ⟨fun i m σ' H' => m = items.length - i ∧ i ≤ items.length ∧ ∃ η' M' ε', Rel K Z η' M' H' ∧ Keep η1 M1 H1 η' M' H' ∧ Slt X.N.length K Z η' M' H' σ' ε' ∧ I i ε' M', ⟨items.length, by simp, Nat.zero_le _, η1, M1, norm k ε, r1, .refl, (s.keep k1).norm, i0⟩, ?_⟩
    rintro i m σ' H' ⟨rfl, hi, η', M', ε', r', k', s', w'⟩
    have sm := k'.vis (Z := Z)
    have sm' : Sm (vis Z η1 M1 H1) H' := fun b o e => vis_sub b o (sm b o e)
    by_cases hlt : i < items.length
    · refine .inr ⟨wk.goes i H' hlt sm', fun σ2 H2 => ∃ m', m' < items.length - i ∧ m' = items.length - (i + 1) ∧ i + 1 ≤ items.length ∧ ∃ η2 M2 ε2, Rel K Z η2 M2 H2 ∧ Keep η1 M1 H1 η2 M2 H2 ∧ Slt X.N.length K Z η2 M2 H2 σ2 ε2 ∧ I (i + 1) ε2 M2, fun σ2 H2 ⟨m', a, b⟩ => ⟨m', a, b⟩, fun v H2 y => ?_⟩
      obtain ⟨x, ex, r2, k2, d2⟩ := wk.yields i Z η' M' H' v H2 hlt r' sm y
      have kk := k'.trans k2
      refine ⟨Z, η', M', ε', .d x, _, r2, s'.keep k2, d2, step i x ε' M' ex w', fun σ3 η3 M3 ε3 H3 r3 k3 s3 _ q3 => ?_⟩
      have k13 := kk.trans k3
      refine ⟨Z, η3, M3, ε3, _, r3, s3, q3, ?_, (f.keep (k1.trans k13)).rt, fun σ4 η4 M4 ε4 H4 r4 k4 s4 q4 => f.nx σ4 η4 M4 ε4 H4 r4 ((k1.trans k13).trans k4) s4 q4, ?_, (f.keep (k1.trans k13)).xc⟩
      · intro σ4 η4 M4 ε4 H4 r4 k4 s4 q4
        exact ⟨_, by omega, rfl, hlt, η4, M4, norm k ε4, r4, k13.trans k4, s4.norm, q4⟩
      · intro σ4 η4 M4 ε4 H4 r4 k4 s4 q4
        exact ⟨_, by omega, rfl, hlt, η4, M4, norm k ε4, r4, k13.trans k4, s4.norm, q4⟩
    · have e : i = items.length := by omega
      subst e
      exact .inl ⟨wk.stops H' sm', f.nx σ' η' M' ε' H' r' (k1.trans k') s' (done ε' M' w')⟩⟩
end
end Dl
/-! Data level, 7: comprehensions, methods of lists, calls, defs. -/
namespace Dl
open PySem PySem.Spec PyProof.Rows L2 Ow
/-- the heap without D -/
def hid' (D : Addr) (H : Hp) : Hp := fun b => if b = D then none else H b
def memN : Nat → List Nat → Bool
  | _, [] => false
  | k, v :: vs => k == v || memN k vs
def wipeL (ε : DSt) (vs : List Nat) : Nat → Nat → List (Option DV)
  | _, 0 => []
  | k, m + 1 => cond (memN k vs) none (ε.nth k) :: wipeL ε vs (k + 1) m
/-- the first m slots written out, but those of vs -/
def wipeD (m : Nat) (ε : DSt) (vs : List Nat) : DSt := .lit (wipeL ε vs 0 m)
theorem memN_of {k : Nat} : ∀ {vs : List Nat}, memN k vs = false → k ∉ vs
  | [], _ => fun h => nomatch h
  | v :: vs, h => fun hm => by
    unfold memN at h
    rw [Bool.or_eq_false_iff, beq_eq_false_iff_ne] at h
    rcases List.mem_cons.mp hm with e | e
    · exact h.1 e
    · exact memN_of h.2 e
theorem wipeL_nth {ε : DSt} {vs : List Nat} : ∀ {m k i : Nat} {y : DV}, getO (wipeL ε vs k m) i = some y → ε.nth (k + i) = some y ∧ k + i ∉ vs
  | 0, k, i, y, h => by cases h
  | m + 1, k, 0, y, h => by
    have h : cond (memN k vs) none (ε.nth k) = some y := h
    cases e : memN k vs with
    | true => rw [e] at h; cases h
    | false => rw [e] at h; exact ⟨h, memN_of e⟩
  | m + 1, k, i + 1, y, h => by
    have := wipeL_nth (ε := ε) (vs := vs) (m := m) (k := k + 1) (i := i) h
    have e : k + (i + 1) = k + 1 + i := by omega
    rw [e]
    exact this
theorem Slt.wipe {n m : Nat} {K : PySem.W.Frag} {Z : Addr → Prop} {η : List Addr} {M : Mem} {H : Hp} {σ : L2.St} {ε : DSt} (s : Slt n K Z η M H σ ε) (vs : List Nat) : Slt n K Z η M H (L2.wipe σ vs) (wipeD m ε vs) := by
  refine ⟨by rw [L2.wipe_length, s.len], fun i y e => ?_⟩
  obtain ⟨h1, h2⟩ := wipeL_nth (k := 0) (show getO (wipeL ε vs 0 m) i = some y from e)
  rw [Nat.zero_add] at h1 h2
  obtain ⟨v, e1, q⟩ := s.at' i y h1
  exact ⟨v, by rw [L2.wipe_out h2]; exact e1, q⟩
/-- one more hidden thing -/
theorem Rel.hide {K : PySem.W.Frag} {Z : Addr → Prop} {η : List Addr} {M : Mem} {G : Hp} {D : Addr} {o : HO} (r : Rel K Z η M G) (hD : G D = none) :
    Rel K (fun b => Z b ∨ b = D) η M (upd G D o) ∧ vis (fun b => Z b ∨ b = D) η M (upd G D o) = vis Z η M G := by
  have hn : ¬ Own η M D := fun h => r.owned h hD
  have ev : vis (fun b => Z b ∨ b = D) η M (upd G D o) = vis Z η M G := by
    funext b
    unfold vis
    by_cases c : b = D
    · subst c
      rw [if_pos (.inl (.inr rfl))]
      split
      · rfl
      · exact hD.symm
    · by_cases z : Z b ∨ Own η M b
      · rw [if_pos z, if_pos (z.elim (fun q => .inl (.inl q)) .inr)]
      · rw [if_neg z, if_neg (fun q => z (q.elim (fun q => q.elim .inl fun e => absurd e c) .inr)), upd_ne c]
  refine ⟨⟨r.len, fun k a c e1 e2 => ?_, r.inj, fun b hb => ?_⟩, ev⟩
  · rw [ev]
    exact (r.ok k a c e1 e2).keep (fun u e => by rw [upd_ne (ne_of_none e hD)]; exact e) (fun _ _ e => e) fun _ _ e => e
  · by_cases c : b = D
    · subst c
      exact ⟨by rw [upd_same]; exact Option.some_ne_none _, hn⟩
    · have hz := hb.resolve_right c
      exact ⟨by rw [upd_ne c]; exact (r.z b hz).1, (r.z b hz).2⟩
theorem Rel.unhide {K : PySem.W.Frag} {Z : Addr → Prop} {η : List Addr} {M : Mem} {H : Hp} {D : Addr} (r : Rel K (fun b => Z b ∨ b = D) η M H) (hz : ¬ Z D) :
    Rel K Z η M (hid' D H) ∧ vis Z η M (hid' D H) = vis (fun b => Z b ∨ b = D) η M H := by
  have ev : vis Z η M (hid' D H) = vis (fun b => Z b ∨ b = D) η M H := by
    funext b
    unfold vis hid'
    by_cases c : b = D
    · subst c
      simp
    · rw [if_neg c]
      by_cases z : Z b ∨ Own η M b
      · rw [if_pos z, if_pos (z.elim (fun q => .inl (.inl q)) .inr)]
      · rw [if_neg z, if_neg (fun q => z (q.elim (fun q => q.elim .inl fun e => absurd e c) .inr))]
  refine ⟨⟨r.len, fun k a c e1 e2 => ?_, r.inj, fun b hb => ?_⟩, ev⟩
  · rw [ev]
    have q := r.ok k a c e1 e2
    by_cases l : live c = true
    · have hne : a ≠ D := fun e => (r.z D (.inr rfl)).2 (e ▸ ⟨k, c, e1, e2, l⟩)
      exact q.keep (fun u e => by unfold hid'; rw [if_neg hne]; exact e) (fun _ _ e => e) fun _ _ e => e
    · cases c with
      | fz x => exact q
      | _ => exact absurd rfl l
  · have c : b ≠ D := fun e => hz (e ▸ hb)
    exact ⟨by unfold hid'; rw [if_neg c]; exact (r.z b (.inl hb)).1, (r.z b (.inl hb)).2⟩
section
variable {n : Nat} {K : PySem.W.Frag} {Z : Addr → Prop} {η η1 m : List Addr} {M M0 M1 : Mem} {H H1 : Hp} {v : V}
/-- the cells that a cell speaks of -/
def kidsOf : Cell → List Nat
  | .rls ks => ks
  | .rdc kvs => kvs.map (·.2)
  | _ => []
theorem CellOk.kids {K : PySem.W.Frag} {η : List Addr} {W H : Hp} {a : Addr} : ∀ {c : Cell}, CellOk K η W H a c → ∀ j ∈ kidsOf c, j < η.length
  | .rls ks, q, j, hj => by
    obtain ⟨as, _, pr⟩ := q
    have key : ∀ {ks : List Nat} {as : List Addr}, Paired (fun k b => η[k]? = some b) ks as → ∀ j ∈ ks, j < η.length := by
      intro ks as h
      induction h with
      | nil => intro j hj; cases hj
      | cons r _ ih => intro j hj; exact (List.mem_cons.mp hj).elim (fun e => e ▸ (List.getElem?_eq_some_iff.mp r).1) (ih j)
    exact key pr j hj
  | .rdc kvs, q, j, hj => by
    obtain ⟨us, _, pr⟩ := q
    have key : ∀ {kvs : List (Key × Nat)} {us : List (Key × Addr)}, Paired (fun (kv : Key × Nat) (q : Key × Addr) => kv.1 = q.1 ∧ η[kv.2]? = some q.2) kvs us → ∀ kv ∈ kvs, kv.2 < η.length := by
      intro ks as h
      induction h with
      | nil => intro j hj; cases hj
      | cons r _ ih => intro j hj; exact (List.mem_cons.mp hj).elim (fun e => by rw [e]; exact (List.getElem?_eq_some_iff.mp r.2).1) (ih j)
    obtain ⟨kv, h1, h2⟩ := List.mem_map.mp hj
    rw [← h2]
    exact key pr kv h1
  | .lst _, _, _, h => nomatch h
  | .dct _, _, _, h => nomatch h
  | .pot, _, _, h => nomatch h
  | .fz _, _, _, h => nomatch h
theorem paired_lt {η : List Addr} : ∀ {ks : List Nat} {as : List Addr}, Paired (fun k b => η[k]? = some b) ks as → ∀ j ∈ ks, j < η.length
  | _, _, .nil, _, h => nomatch h
  | _, _, .cons r t, j, h => (List.mem_cons.mp h).elim (fun e => e ▸ (List.getElem?_eq_some_iff.mp r).1) (paired_lt t j)
/-- the cells behind are cells no more -/
theorem Rel.drop (r : Rel K Z (η ++ m) M1 H1) (h0 : M0.length = η.length) (hM : ∀ (k : Nat) c, M0[k]? = some c → M1[k]? = some c) (hK : ∀ (k : Nat) c, M0[k]? = some c → ∀ j ∈ kidsOf c, j < η.length) :
    Rel K Z η M0 H1 ∧ Sm (vis Z (η ++ m) M1 H1) (vis Z η M0 H1) ∧ ∀ b, Own η M0 b → Own (η ++ m) M1 b := by
  have own : ∀ b, Own η M0 b → Own (η ++ m) M1 b := fun b ⟨k, c, e1, e2, l⟩ => ⟨k, c, by rw [List.getElem?_append_left (List.getElem?_eq_some_iff.mp e1).1]; exact e1, hM k c e2, l⟩
  have sm : Sm (vis Z (η ++ m) M1 H1) (vis Z η M0 H1) := fun b o e => by
    obtain ⟨e1, e2, e3⟩ := of_vis e
    exact vis_of e1 e2 fun q => e3 (own b q)
  refine ⟨⟨h0.symm, fun k a c e1 e2 => ?_, fun i j a e1 e2 => ?_, fun b hb => ⟨(r.z b hb).1, fun q => (r.z b hb).2 (own b q)⟩⟩, sm, own⟩
  · have q := r.ok k a c (by rw [List.getElem?_append_left (List.getElem?_eq_some_iff.mp e1).1]; exact e1) (hM k c e2)
    cases c with
    | rls ks =>
      obtain ⟨as, e3, pr⟩ := q
      exact ⟨as, e3, paired_in pr fun j hj b e => by rw [List.getElem?_append_left (hK k _ e2 j hj)] at e; exact e⟩
    | rdc kvs =>
      obtain ⟨us, e3, pr⟩ := q
      exact ⟨us, e3, paired_in pr fun kv hj b e => by rw [List.getElem?_append_left (hK k _ e2 kv.2 (List.mem_map.mpr ⟨kv, hj, rfl⟩))] at e; exact e⟩
    | lst xs => obtain ⟨vs, e, t⟩ := q; exact ⟨vs, e, DqAll.sm sm t⟩
    | dct kvs => obtain ⟨vs, e, t, t2⟩ := q; exact ⟨vs, e, t, DqAll.sm sm t2⟩
    | pot => exact q
    | fz x => obtain ⟨⟨u, e⟩, t⟩ := q; exact ⟨⟨u, sm _ _ e⟩, Dq.sm sm t⟩
  · exact r.inj i j a (by rw [List.getElem?_append_left (List.getElem?_eq_some_iff.mp e1).1]; exact e1) (by rw [List.getElem?_append_left (List.getElem?_eq_some_iff.mp e2).1]; exact e2)
end
abbrev PDTs (K : PySem.W.Frag) (X : Cx) (ifs : List Expr) (dt : DT) : Prop := X.K = K → PTs X ifs (tT X.N.length K dt)
theorem PTs.weak {X : Cx} {es : List Expr} {t t' : TT} (h : PTs X es t) (w : ∀ σ H Q, t' σ H Q → t σ H Q) : PTs X es t' := ⟨fun pins s σ H Q I q => h.run pins s σ H Q I (w _ _ _ q)⟩
def dYes : DT := fun _ M Q => Q true M
theorem pdts_nil {K : PySem.W.Frag} {X : Cx} : PDTs K X [] dYes := fun hK => PTs.weak pts_nil fun σ H Q ⟨Z, η, M, ε, Qd, r, s, q, fin⟩ => fin true η M H r .refl q
theorem pdts_one {K : PySem.W.Frag} {X : Cx} {c : Expr} {t : DT} (h : PDT K X c t) : PDTs K X [c] t := fun hK => pts_one (h hK)
/-- what is asked of a comprehension: R tells what comes of each item (none: left out) -/
structure LcAll (own : Bool) (items : List PyData) (M : Mem) (Q : DK) (P : Nat → PyData → (Option PyData → Prop) → Prop) : Prop where
  ex : items.length ≤ sizeLine ∧ ∃ R : Nat → PyData → Option PyData → Prop, (∀ i x, items[i]? = some x → P i x (R i x)) ∧
    ∀ zs : List (Option PyData), zs.length = items.length → (∀ i x z, items[i]? = some x → zs[i]? = some z → R i x z) → born own (.l (zs.filterMap id)) M Q
/-- a comprehension -/
def dLc (m : Nat) (own : Bool) (dw : DW) (g : DG) (dt : DT) (de : DE) (vs : List Nat) : DE := fun ε M Q => dw ε M fun items M1 => LcAll own items M1 Q fun i x R =>
  g (.d x) (wipeD m ε vs) M1 fun ε2 M2 => dt ε2 M2 fun b M3 => if b = true then de ε2 M3 fun y M4 => (match y with
    | .d z => M4.take M1.length = M1 ∧ R (some z)
    | .o _ => False) else M3.take M1.length = M1 ∧ R none
theorem lc_ok {n m0 : Nat} {K : PySem.W.Frag} {own : Bool} {dw : DW} {g : DG} {dt : DT} {de : DE} {vs ix : List Nat} (hix : ∀ i ∈ ix, i ∈ vs) {σ : L2.St} {H : Hp} {Q : VK} (h : tD n K (dLc m0 own dw g dt de vs) σ H Q) : tLc (tI n K dw) (tG n K g ix) (tT n K dt) (tD n K de) vs σ H Q := by
  obtain ⟨Z, η, M, ε, Qd, r, s, q, fin⟩ := h
  refine ⟨Z, η, M, ε, _, r, s, q, fun items η1 M1 H1 J r1 k1 ⟨⟨hsz, R, step, done⟩⟩ wk D hD => ?_⟩
  have hzD : ¬ Z D := fun z => (r1.z D z).1 hD
  have hW : ∀ {G : Hp} {o : HO}, Keep η1 M1 H1 η1 M1 G → G D = none → Sm (vis Z η1 M1 H1) (vis (fun b => Z b ∨ b = D) η1 M1 (upd G D o)) := fun {G o} k hG => by
    intro b u e
    obtain ⟨e1, e2, e3⟩ := of_vis e
    obtain ⟨h1, h2⟩ := k.kp b u e1 e3
    have c : b ≠ D := ne_of_none h1 hG
    exact vis_of (by rw [upd_ne c]; exact h1) (fun z => z.elim e2 c) h2
  refine ⟨fun i m H2 => m = items.length - i ∧ i ≤ items.length ∧ ∃ (G : Hp) (us : List V) (zs : List (Option PyData)), Rel K Z η1 M1 G ∧ Keep η1 M1 H1 η1 M1 G ∧ G D = none ∧ H2 = upd G D (.lst us) ∧ DqAll K (vis Z η1 M1 G) us (zs.filterMap id) ∧ zs.length = i ∧
    ∀ j x z, items[j]? = some x → zs[j]? = some z → R j x z, ⟨items.length, by simp, Nat.zero_le _, H1, [], [], r1, .refl, hD, rfl, .nil, rfl, fun j x z _ e => by simp at e⟩, ?_⟩
  rintro i m H2 ⟨rfl, hi, G, us, zs, rG, kG, hG, rfl, dG, lz, hR⟩
  have sm := hW (o := .lst us) kG hG
  have sm' : Sm (vis Z η1 M1 H1) (upd G D (.lst us)) := fun b o e => vis_sub b o (sm b o e)
  by_cases hlt : i < items.length
  · refine .inr ⟨wk.goes i _ hlt sm', fun H3 => ∃ m', m' < items.length - i ∧ m' = items.length - (i + 1) ∧ i + 1 ≤ items.length ∧ ∃ (G : Hp) (us : List V) (zs : List (Option PyData)), Rel K Z η1 M1 G ∧ Keep η1 M1 H1 η1 M1 G ∧ G D = none ∧ H3 = upd G D (.lst us) ∧ DqAll K (vis Z η1 M1 G) us (zs.filterMap id) ∧ zs.length = i + 1 ∧
      ∀ j x z, items[j]? = some x → zs[j]? = some z → R j x z, fun H3 ⟨m', a, b⟩ => ⟨m', a, b⟩, fun v H3 y => ?_⟩
    obtain ⟨rh, ev⟩ := rG.hide (o := .lst us) hG
    obtain ⟨x, ex, r3, k3, d3⟩ := wk.yields i _ η1 M1 _ v H3 hlt rh sm y
    have sl : Slt n K (fun b => Z b ∨ b = D) η1 M1 (upd G D (.lst us)) σ ε := by
      have s1 := (s.keep k1).keep kG
      refine ⟨s1.len, fun j w e => ?_⟩
      obtain ⟨u, e1, d1⟩ := s1.at' j w e
      refine ⟨u, e1, ?_⟩
      cases w with
      | o k => exact d1
      | d z =>
        show Dq K (vis _ η1 M1 _) u z
        rw [ev]
        exact d1
    have grow : ∀ (η4 : List Addr) (M4 : Mem) (H4 : Hp), Rel K (fun b => Z b ∨ b = D) η4 M4 H4 → Keep η1 M1 (upd G D (.lst us)) η4 M4 H4 → M4.take M1.length = M1 → Sm (vis (fun b => Z b ∨ b = D) η4 M4 H4) (vis Z η1 M1 (hid' D H4)) ∧ H4 D = some (.lst us) ∧ Rel K Z η1 M1 (hid' D H4) ∧ Keep η1 M1 H1 η1 M1 (hid' D H4) ∧ hid' D H4 D = none ∧ DqAll K (vis Z η1 M1 (hid' D H4)) us (zs.filterMap id) := by
      intro η4 M4 H4 r4 k4 hM
      obtain ⟨mm, e⟩ := k4.more
      subst e
      obtain ⟨rd, smd, ow⟩ := Rel.drop (M0 := M1) r4 r1.len.symm (fun k c e => by
        rw [← hM] at e
        have hk := (List.getElem?_eq_some_iff.mp e).1
        rw [List.getElem?_take] at e
        split at e
        · exact e
        · cases e) (fun k ks e j hj => by
          have hk : k < η1.length := by rw [r1.len]; exact (List.getElem?_eq_some_iff.mp e).1
          exact (r1.ok k _ _ (List.getElem?_eq_getElem hk) e).kids j hj)
      obtain ⟨r5, ev5⟩ := rd.unhide hzD
      have hd4 : H4 D = some (.lst us) := (k4.kp D _ upd_same (rh.z D (.inr rfl)).2).1
      refine ⟨by rw [ev5]; exact smd, hd4, r5, ⟨⟨[], (List.append_nil _).symm⟩, fun b o e n => ?_⟩, by unfold hid'; rw [if_pos rfl], ?_⟩
      · obtain ⟨h1, h2⟩ := kG.kp b o e n
        have c : b ≠ D := ne_of_none h1 hG
        obtain ⟨h3, h4⟩ := k4.kp b o (by rw [upd_ne c]; exact h1) h2
        exact ⟨by unfold hid'; rw [if_neg c]; exact h3, fun q => h4 (ow b q)⟩
      · rw [ev5]
        exact DqAll.sm (K := K) (H := vis Z η1 M1 G) (by rw [← ev]; exact fun b o e => smd b o (k4.vis b o e)) dG
    have hupd : ∀ {H4 : Hp} {o : HO}, upd H4 D o = upd (hid' D H4) D o := fun {H4 o} => by
      funext b
      by_cases c : b = D
      · subst c
        rw [upd_same, upd_same]
      · rw [upd_ne c, upd_ne c]
        unfold hid'
        rw [if_neg c]
    have hself : ∀ {H4 : Hp}, H4 D = some (.lst us) → H4 = upd (hid' D H4) D (.lst us) := fun {H4} h => by
      funext b
      by_cases c : b = D
      · subst c
        rw [upd_same]
        exact h
      · rw [upd_ne c]
        unfold hid'
        rw [if_neg c]
    have ll : us.length = (zs.filterMap id).length := DqAll.length dG
    have lu : us.length ≤ i := by
      have := List.length_filterMap_le id zs
      omega
    refine ⟨_, η1, M1, wipeD m0 ε vs, .d x, _, r3, (sl.keep k3).wipe vs, d3, step i x ex, fun σ4 η4 M4 ε4 H4 r4 k4 s4 w4 q4 => ⟨?_, ?_⟩⟩
    · have a := w4 vs hix
      have b : L2.wipe (L2.wipe σ vs) vs = L2.wipe σ vs := by
        have key : ∀ ws : List Nat, (∀ i ∈ ws, i ∈ vs) → L2.wipe (L2.wipe σ vs) ws = L2.wipe σ vs := by
          have nn : ∀ {i : Nat}, i ∈ vs → (L2.wipe σ vs).set i none = L2.wipe σ vs := by
            have : ∀ (ws : List Nat) {i : Nat}, i ∈ ws → (L2.wipe σ ws).set i none = L2.wipe σ ws := by
              intro ws
              induction ws with
              | nil => intro i hi; cases hi
              | cons w ws ih =>
                intro i hi
                show (((L2.wipe σ ws).set w none).set i none) = (L2.wipe σ ws).set w none
                by_cases c : i = w
                · subst c
                  rw [List.set_set]
                · rw [List.set_comm _ _ (fun z => c z.symm), ih ((List.mem_cons.mp hi).resolve_left c)]
            exact fun {i} hi => this vs hi
          intro ws
          induction ws with
          | nil => intro _; rfl
          | cons w ws ih =>
            intro hw
            show (L2.wipe (L2.wipe σ vs) ws).set w none = _
            rw [ih fun i hi => hw i (List.mem_cons_of_mem _ hi)]
            exact nn (hw w List.mem_cons_self)
        exact key vs fun i hi => hi
      rw [a, b]
    · refine ⟨_, η4, M4, ε4, _, r4, s4, q4, fun b η5 M5 H5 r5 k5 q5 => ?_⟩
      cases b with
      | false =>
        obtain ⟨hM5, hR5⟩ := q5
        obtain ⟨_, hd5, rr, kk, hn, dd⟩ := grow η5 M5 H5 r5 (k3.trans (k4.trans k5)) hM5
        refine ⟨_, by omega, rfl, hlt, hid' D H5, us, zs ++ [none], rr, kk, hn, hself hd5, ?_, by rw [List.length_append, lz]; rfl, fun j x' z e1 e2 => ?_⟩
        · rw [List.filterMap_append]
          simpa using dd
        · rcases getElem?_app_cases e2 with ⟨_, e2⟩ | ⟨e3, e4⟩
          · exact hR j x' z e1 e2
          · rw [e3, lz] at e1 ⊢
            rw [ex] at e1
            cases e1
            rw [e4]
            exact hR5
      | true =>
        refine ⟨_, η5, M5, ε4, _, r5, s4.keep k5, q5, fun w η6 M6 y6 H6 r6 k6 d6 q6 => ?_⟩
        cases y6 with
        | o k => exact q6.elim
        | d z6 =>
          obtain ⟨hM6, hR6⟩ := q6
          obtain ⟨evv, hd5, rr, kk, hn, dd⟩ := grow η6 M6 H6 r6 (k3.trans (k4.trans (k5.trans k6))) hM6
          refine ⟨us, hd5, by omega, _, by omega, rfl, hlt, hid' D H6, us ++ [w], zs ++ [some z6], rr, kk, hn, hupd, ?_, by rw [List.length_append, lz]; rfl, fun j x' z e1 e2 => ?_⟩
          · rw [List.filterMap_append]
            exact DqAll.append dd (.cons (Dq.sm evv d6) .nil)
          · rcases getElem?_app_cases e2 with ⟨_, e2⟩ | ⟨e3, e4⟩
            · exact hR j x' z e1 e2
            · rw [e3, lz] at e1 ⊢
              rw [ex] at e1
              cases e1
              rw [e4]
              exact hR6
  · have e : i = items.length := by omega
    subst e
    refine .inl ⟨wk.stops _ sm', ?_⟩
    have q2 := done zs lz hR
    obtain ⟨η', M', y, r', k', d', q'⟩ := born_ok rG (rr := .l (zs.filterMap id)) ⟨D, us, rfl, hG, rfl, dG⟩ q2
    exact fin _ η' M' y _ r' (k1.trans (kG.trans k')) d' q'
section
variable {n : Nat} {K : PySem.W.Frag} {X : Cx} {pos : Pos} {tg iter elt : Expr} {ifs : List Expr} {dw : DW} {g : DG} {dt : DT} {de : DE} {ix : List Nat}
theorem pd_lc {scope : Scope} {own : List (Str × Nat)} (m : Nat) (b : Bool) (hc : X.calm = true) (hN : X.N.Nodup) (hi : PDI K X tg iter dw) (ok : BlkOk X.N X.env.scope scope own)
    (hg : ∀ (s : Shared) (H : Hp) (C : Addr) (cl : List (Str × Addr)) (fp : List Addr), PDG K (X.blk s H scope (compEnvC scope cl C X.env) fp) tg g ix) (ht : ∀ (s : Shared) (H : Hp) (C : Addr) (cl : List (Str × Addr)) (fp : List Addr), PDTs K (X.blk s H scope (compEnvC scope cl C X.env) fp) ifs dt)
    (he : ∀ (s : Shared) (H : Hp) (C : Addr) (cl : List (Str × Addr)) (fp : List Addr), PD K (X.blk s H scope (compEnvC scope cl C X.env) fp) elt de) (hix : ∀ i ∈ ix, i ∈ own.map (·.2)) (hs : ∀ x, foldedSetIterable iter X.env x = pure x := by intro _; rfl) :
    PD K X (.ListComp elt [⟨tg, iter, ifs, 0⟩] scope pos) (dLc m b dw g dt de (own.map (·.2))) := fun hK =>
  PE.weak (pe_lc (wi := tI X.N.length K dw) (g := tG X.N.length K g ix) (tt := tT X.N.length K dt) (te := tD X.N.length K de) hc hN (hi hK) ok (fun s H C cl fp => hg s H C cl fp hK) (fun s H C cl fp => ht s H C cl fp hK) (fun s H C cl fp => he s H C cl fp hK) hs) fun σ H Q h => lc_ok hix h
theorem pds_setLc {i : Nat} {y : Str} {py : Pos} {scope : Scope} {own : List (Str × Nat)} {spos : Pos} (m : Nat) (b : Bool) (hc : X.calm = true) (hN : X.N.Nodup) (hy : X.N[i]? = some y) (hyl : X.env.scope.names.lookup y = some .local)
    (hsw : swapsWith (.ListComp elt [⟨tg, iter, ifs, 0⟩] scope pos) (some (.Name y py)) spos.line X.env = pure true) (hi : PDI K X tg iter dw) (ok : BlkOk X.N X.env.scope scope own)
    (hg : ∀ (s : Shared) (H : Hp) (C : Addr) (cl : List (Str × Addr)) (fp : List Addr), PDG K (X.blk s H scope (compEnvC scope cl C X.env) fp) tg g ix) (ht : ∀ (s : Shared) (H : Hp) (C : Addr) (cl : List (Str × Addr)) (fp : List Addr), PDTs K (X.blk s H scope (compEnvC scope cl C X.env) fp) ifs dt)
    (he : ∀ (s : Shared) (H : Hp) (C : Addr) (cl : List (Str × Addr)) (fp : List Addr), PD K (X.blk s H scope (compEnvC scope cl C X.env) fp) elt de) (hix : ∀ i ∈ ix, i ∈ own.map (·.2)) (hs : ∀ x, foldedSetIterable iter X.env x = pure x := by intro _; rfl) :
    PDS K X (.Assign [.Name y py] (.ListComp elt [⟨tg, iter, ifs, 0⟩] scope pos) spos) (dAsg (dLc m b dw g dt de (own.map (·.2))) (gD i)) := fun hK Wx tk =>
  PS.weak (ps_setLc (wi := tI X.N.length K dw) (g := tG X.N.length K g ix) (tt := tT X.N.length K dt) (te := tD X.N.length K de) hc hN hy hyl hsw (hi hK) ok (fun s H C cl fp => hg s H C cl fp hK) (fun s H C cl fp => ht s H C cl fp hK) (fun s H C cl fp => he s H C cl fp hK) hs) fun D σ H h => lc_ok hix (set_ok (idx_lt hy) h)
end
/-- every item gives one thing -/
theorem lc_map {own : Bool} {items : List PyData} {M : Mem} {Q : DK} {P : Nat → PyData → (Option PyData → Prop) → Prop} (f : PyData → PyData) (hsz : items.length ≤ sizeLine)
    (h : ∀ i x, items[i]? = some x → ∀ R : Option PyData → Prop, R (some (f x)) → P i x R) (q : born own (.l (items.map f)) M Q) :
    LcAll own items M Q P := by
  refine ⟨hsz, fun _ x z => z = some (f x), fun i x e => h i x e _ rfl, fun zs hl hz => ?_⟩
  have : zs = items.map fun x => some (f x) := by
    refine List.ext_getElem (by rw [List.length_map, hl]) fun i h1 h2 => ?_
    rw [List.getElem_map]
    exact hz i _ _ (List.getElem?_eq_getElem (by omega)) (List.getElem?_eq_getElem h1)
  rw [this]
  have e : (items.map fun x => some (f x)).filterMap id = items.map f := by
    have key : ∀ l : List PyData, (l.map fun x => some (f x)).filterMap id = l.map f := by
      intro l
      induction l with
      | nil => rfl
      | cons a l ih =>
        rw [List.map_cons, List.map_cons, List.filterMap_cons]
        show f a :: List.filterMap id (l.map fun x => some (f x)) = _
        rw [ih]
    exact key items
  rw [e]
  exact q
/-! ### methods of lists -/
/-- the k-th cell, a list -/
def cellL (M : Mem) (o : DV) (P : Nat → List PyData → Prop) : Prop := match o with
  | .o k => (match M[k]? with
    | some (.lst xs) => P k xs
    | _ => False)
  | _ => False
theorem cellL_of {M : Mem} {o : DV} {P : Nat → List PyData → Prop} (h : cellL M o P) : ∃ k xs, o = .o k ∧ M[k]? = some (.lst xs) ∧ P k xs := by
  cases o with
  | d x => exact h.elim
  | o k =>
    have h : match M[k]? with
      | some (.lst xs) => P k xs
      | _ => False := h
    split at h
    · exact ⟨k, _, rfl, by assumption, h⟩
    · exact h.elim
def mAppend (da de : DE) : DE := fun ε M Q => da ε M fun o M1 => cellL M1 o fun _ _ => de ε M1 fun y M2 => asD y M2 fun z M3 => cellL M3 o fun k xs => xs.length < sizeLine ∧ Q (.d .none) (M3.set k (.lst (xs ++ [z])))
def mExtend (da de : DE) : DE := fun ε M Q => da ε M fun o M1 => cellL M1 o fun _ _ => de ε M1 fun y M2 => asD y M2 fun z M3 => cellL M3 o fun k xs => match z with
  | .list zs => xs.length + zs.length ≤ sizeLine ∧ Q (.d .none) (M3.set k (.lst (xs ++ zs)))
  | _ => False
def mPop (da : DE) : DE := fun ε M Q => da ε M fun o M1 => cellL M1 o fun k xs => lk1 (xs[xs.length - 1]?) fun y => Q (.d y) (M1.set k (.lst xs.dropLast))
theorem DqAll.dropLast {K : PySem.W.Frag} {H : Hp} {vs : List V} {ds : List PyData} (h : DqAll K H vs ds) : DqAll K H vs.dropLast ds.dropLast := by
  rw [List.dropLast_eq_take, List.dropLast_eq_take, DqAll.length h]
  exact DqAll.take _ h
theorem list_extendW (l : Addr) (items : Array Value) (n : Nat) (b : Addr) (items2 : Array Value) (n2 : Nat) (sl : Array (Option Value)) (hc0 : ¬(!items.isEmpty && Builtin.List.listTooLong (items.size + items2.size)) = true) (hc1 : items.size ≤ sizeLine) (hs2 : items.size + items2.size ≤ sizeLine + 1) :
    Meets (Builtin.«list.extend» ⟨[.ref l, .ref b], []⟩) (fun _ R s => s.heap.get? l = some { cls := .type "list", dict := none, data := .seq items n, slots := #[] } ∧ s.heap.get? b = some { cls := .type "list", dict := none, data := .seq items2 n2, slots := sl } ∧ R (.ok (.ret Value.none)) { s with heap := s.heap.update l (Obj.mapSeq fun x => x ++ items2), toks := s.toks }) :=
  .of_wp fun prog w A R s h => by
    obtain ⟨hp, g, d, tk, os⟩ := s; obtain ⟨hl, hb, h⟩ := h; have f1 := AutoSeq1.idx_int; have f2 := AutoSeq1.sub_tuple_tuple; have f3 := AutoSeq1.sub_list_list; have f4 := AutoSeq1.sub_tuple_list; have f5 := AutoSeq1.sub_list_tuple;
    have hz' : (items ++ items2).size ≤ sizeLine + 1 := by rw [Array.size_append]; exact hs2
    wp_walk using (wpAny_updateSeq hl rfl (hz := hc1) (_hz' := hz')), wpAny_loadPart' hl, wpAny_loadPart' hb; exact ⟨_, rfl, h⟩
section
variable {X : Cx}
/-- xs.extend(ys), ys any list -/
def rExtendL (K : PySem.W.Frag) : V → List V → Hp → VK → Prop := fun x vs H Q => ∃ l b xs zs, x = .ref l ∧ vs = [.ref b] ∧ H l = some (.lst xs) ∧ SqL K H b zs ∧ xs.length + zs.length ≤ sizeLine ∧ Q .non (upd H l (.lst (xs ++ zs)))
theorem mt_extendL : MtM X "list.extend" (rExtendL X.K) := by
  intro pins s σ H x vs v us Q I rx rv h
  obtain ⟨l, b, xs, zs, rfl, rfl, hH, hB, hz, q⟩ := h
  cases rx
  obtain ⟨u, rfl, ru⟩ := rv.one
  cases ru
  obtain ⟨z, its, n, r, hl, e⟩ := I.lstM hH
  obtain ⟨its2, r2, pl2, z2⟩ := I.list hB
  have hl2 := r2.length
  obtain ⟨⟨cls2, dd2, data2, sl2⟩, n2, ho2, hc2, hd02, hd2⟩ := pl2
  simp only at hc2 hd02 hd2
  subst hc2 hd02 hd2
  have hsz : its.toArray.size + its2.toArray.size ≤ sizeLine := by rw [List.size_toArray, List.size_toArray]; omega
  have hlong : ¬ (!its.toArray.isEmpty && Builtin.List.listTooLong (its.toArray.size + its2.toArray.size)) = true := by
    rw [notLongL hsz, Bool.and_false]
    exact Bool.false_ne_true
  refine call_meets F.slot_list_extend ⟨_, e, rfl⟩ F.entry_list_extend (F.args_list_extend_2 _ _)
    (list_extendW l its.toArray n b its2.toArray n2 sl2 hlong (by rw [List.size_toArray]; omega) (by omega)) ⟨e, ho2, ?_⟩
  refine ⟨.non, _, I.lset (its' := its ++ its2) hH e (by simp) (r.append r2) ?_, rfl, q⟩
  rw [List.length_append]
  omega
end
section
variable {n : Nat} {K : PySem.W.Frag} {X : Cx} {o e : Expr} {da de : DE} {apos pos : Pos}
theorem app_ok {σ : L2.St} {H : Hp} {Q : VK} (h : tD n K (mAppend da de) σ H Q) : tBM K "list" rAppend (tD n K da) (tCons (tD n K de) tNil) σ H Q := by
  obtain ⟨Z, η, M, ε, Qd, r, s, q, fin⟩ := h
  refine ⟨Z, η, M, ε, _, r, s, q, fun v1 η1 M1 y1 H1 r1 k1 d1 q1 => ?_⟩
  obtain ⟨k, xs, rfl, em, q1⟩ := cellL_of q1
  obtain ⟨a, ea, rfl⟩ := d1
  obtain ⟨vs, eh, _⟩ := r1.ok k a _ ea em
  refine ⟨.inl ⟨rfl, _, .of eh⟩, Z, η1, M1, ε, _, r1, s.keep k1, q1, fun v2 η2 M2 y2 H2 r2 k2 d2 q2 => ?_⟩
  obtain ⟨z, M3, r3, k3, d3, q3⟩ := r2.asD d2 q2
  obtain ⟨k', ys, e', em3, hz, q4⟩ := cellL_of q3
  cases e'
  have ea3 : η2[k]? = some a := by
    obtain ⟨m, e⟩ := k2.more
    rw [e, List.getElem?_append_left (List.getElem?_eq_some_iff.mp ea).1]
    exact ea
  obtain ⟨us, eh3, dq3⟩ := r3.ok k a _ ea3 em3
  obtain ⟨r4, k4⟩ := r3.put (c' := .lst (ys ++ [z])) (o := .lst (us ++ [v2])) ea3 em3 rfl rfl ⟨_, upd_same, DqAll.append dq3 (.cons d3 .nil)⟩
  exact ⟨a, us, v2, rfl, rfl, eh3, by rw [DqAll.length dq3]; exact hz, fin .non η2 _ (.d .none) _ r4 ((k1.trans k2).trans (k3.trans k4)) Dq.non q4⟩
theorem ext_ok {σ : L2.St} {H : Hp} {Q : VK} (h : tD n K (mExtend da de) σ H Q) : tBM K "list" (rExtendL K) (tD n K da) (tCons (tD n K de) tNil) σ H Q := by
  obtain ⟨Z, η, M, ε, Qd, r, s, q, fin⟩ := h
  refine ⟨Z, η, M, ε, _, r, s, q, fun v1 η1 M1 y1 H1 r1 k1 d1 q1 => ?_⟩
  obtain ⟨k, xs, rfl, em, q1⟩ := cellL_of q1
  obtain ⟨a, ea, rfl⟩ := d1
  obtain ⟨vs, eh, _⟩ := r1.ok k a _ ea em
  refine ⟨.inl ⟨rfl, _, .of eh⟩, Z, η1, M1, ε, _, r1, s.keep k1, q1, fun v2 η2 M2 y2 H2 r2 k2 d2 q2 => ?_⟩
  obtain ⟨z, M3, r3, k3, d3, q3⟩ := r2.asD d2 q2
  obtain ⟨k', ys, e', em3, q4⟩ := cellL_of q3
  cases e'
  have ea3 : η2[k]? = some a := by
    obtain ⟨m, e⟩ := k2.more
    rw [e, List.getElem?_append_left (List.getElem?_eq_some_iff.mp ea).1]
    exact ea
  obtain ⟨us, eh3, dq3⟩ := r3.ok k a _ ea3 em3
  cases z with
  | list zs =>
    cases d3 with
    | lst sq t =>
      obtain ⟨r4, k4⟩ := r3.put (c' := .lst (ys ++ zs)) (o := .lst (us ++ _)) ea3 em3 rfl rfl ⟨_, upd_same, DqAll.append dq3 t⟩
      exact ⟨a, _, us, _, rfl, rfl, eh3, SqL.sm sq vis_sub, by rw [DqAll.length dq3, DqAll.length t]; exact q4.1, fin .non η2 _ (.d .none) _ r4 ((k1.trans k2).trans (k3.trans k4)) Dq.non q4.2⟩
  | _ => exact q4.elim
theorem pop_ok {σ : L2.St} {H : Hp} {Q : VK} (h : tD n K (mPop da) σ H Q) : tBM0 K "list" rPop (tD n K da) σ H Q := by
  obtain ⟨Z, η, M, ε, Qd, r, s, q, fin⟩ := h
  refine ⟨Z, η, M, ε, _, r, s, q, fun v1 η1 M1 y1 H1 r1 k1 d1 q1 => ?_⟩
  obtain ⟨k, xs, rfl, em, q1⟩ := cellL_of q1
  obtain ⟨a, ea, rfl⟩ := d1
  obtain ⟨vs, eh, dq⟩ := r1.ok k a _ ea em
  obtain ⟨y, ey, q2⟩ := lk1_of q1
  obtain ⟨w, ew, dw⟩ := DqAll.at _ dq ey
  obtain ⟨r4, k4⟩ := r1.put (c' := .lst xs.dropLast) (o := .lst vs.dropLast) ea em rfl rfl ⟨_, upd_same, DqAll.dropLast dq⟩
  exact ⟨.inl ⟨rfl, _, .of eh⟩, a, vs, w, rfl, rfl, eh, by rw [DqAll.length dq]; exact ew, fin w η1 _ (.d y) _ r4 (k1.trans k4) (Dq.sm k4.vis dw) q2⟩
theorem pd_append (ho : PD K X o da) (he : PD K X e de) (hbase : attributeBase o "append" X.env (eval o X.env) = eval o X.env := by rfl)
    (hfew : ((backTo pos (starEach [e] X.env)).all (fun x => !x.1) && (backToKw pos (keywordEach [] X.env)).all (fun x => x.1.isSome)
      && decide ([e].length + ([] : List Keyword).length + (if ([] : List Keyword).isEmpty then 0 else 1) < 30)) = true := by rfl)
    (hline : (apos.endLine == pos.line) = true := by rfl) (hs : starEach [e] X.env = (false, eval e X.env) :: starEach [] X.env := by rfl) (hplain : (backTo pos (starEach [] X.env)).any (·.1) = false := by rfl) :
    PD K X (.Call (.Attribute o "append" apos) [e] [] pos) (mAppend da de) := fun hK =>
  PE.weak (pe_bm PySem.F.plainAttrs_list PySem.F.slot_list_append PySem.F.type_list_append mt_append (ho hK) (pa_cons (he hK) pa_nil hs) hbase hfew hline hs hplain) fun σ H Q h => by
    subst hK
    exact app_ok h
theorem pd_extend (ho : PD K X o da) (he : PD K X e de) (hbase : attributeBase o "extend" X.env (eval o X.env) = eval o X.env := by rfl)
    (hfew : ((backTo pos (starEach [e] X.env)).all (fun x => !x.1) && (backToKw pos (keywordEach [] X.env)).all (fun x => x.1.isSome)
      && decide ([e].length + ([] : List Keyword).length + (if ([] : List Keyword).isEmpty then 0 else 1) < 30)) = true := by rfl)
    (hline : (apos.endLine == pos.line) = true := by rfl) (hs : starEach [e] X.env = (false, eval e X.env) :: starEach [] X.env := by rfl) (hplain : (backTo pos (starEach [] X.env)).any (·.1) = false := by rfl) :
    PD K X (.Call (.Attribute o "extend" apos) [e] [] pos) (mExtend da de) := fun hK =>
  PE.weak (pe_bm PySem.F.plainAttrs_list PySem.F.slot_list_extend PySem.F.type_list_extend mt_extendL (ho hK) (pa_cons (he hK) pa_nil hs) hbase hfew hline hs hplain) fun σ H Q h => by
    subst hK
    exact ext_ok h
theorem pd_pop (ho : PD K X o da) (hbase : attributeBase o "pop" X.env (eval o X.env) = eval o X.env := by rfl) (hline : (apos.endLine == pos.line) = true := by rfl) : PD K X (.Call (.Attribute o "pop" apos) [] [] pos) (mPop da) := fun hK =>
  PE.weak (pe_bm0 PySem.F.plainAttrs_list PySem.F.slot_list_pop PySem.F.type_list_pop mt_pop (ho hK) hbase hline) fun σ H Q h => by
    subst hK
    exact pop_ok h
end
/-! ### calls -/
/-- what is asked of the arguments, and what comes -/
abbrev DC := List DV → Mem → DK → Prop
/-- data in, data out -/
abbrev DF := List PyData → (PyData → Prop) → Prop
def cP (F : DF) : DC := fun ys M Q => asDs ys M fun ds M2 => F ds fun r => Q (.d r) M2
/-- the arguments stay what they are; what comes is no list -/
def isSc : PyData → Bool
  | .none => true
  | .bool _ => true
  | .int _ => true
  | .str _ => true
  | _ => false
def cB (F : DF) : DC := fun ys M Q => match lks M ys with
  | some ds => F ds fun r => isSc r = true ∧ Q (.d r) M
  | none => False
/-- the pot ahead -/
def cT (F : DF) : DC := fun ys M Q => match ys with
  | .o k :: rest => asDs rest M fun ds M2 => M2[k]? = some .pot ∧ F ds fun r => Q (.d r) M2
  | _ => False
/-- a call of such a def -/
def COk (K : PySem.W.Frag) (c : DC) (sp : Sp) : Prop := ∀ (Z : Addr → Prop) (η : List Addr) (M : Mem) (H : Hp) (vs : List V) (ys : List DV) (Q : DK) (Qv : VK) (E : XK), Rel K Z η M H → Paired (Den K Z η M H) vs ys → c ys M Q →
  (∀ v η' M' y H', Rel K Z η' M' H' → Keep η M H η' M' H' → Den K Z η' M' H' v y → Q y M' → Qv v H') → sp vs H Qv E
/-- the promise of a def: data in, data out -/
def spP (K : PySem.W.Frag) (F : DF) : Sp := fun vs H Q _ => ∃ (Z : Addr → Prop) (ds : List PyData) (Qd : PyData → Prop), Rel K Z [] [] H ∧ DqAll K (vis Z [] [] H) vs ds ∧ F ds Qd ∧
  ∀ v r H', Rel K Z [] [] H' → Keep [] [] H [] [] H' → Dq K (vis Z [] [] H') v r → Qd r → Q v H'
/-- .. with the pot ahead -/
def spT (K : PySem.W.Frag) (F : DF) : Sp := fun vs H Q _ => ∃ (Z : Addr → Prop) (a : Addr) (us : List V) (ds : List PyData) (Qd : PyData → Prop), vs = .ref a :: us ∧ Rel K Z [a] [.pot] H ∧ DqAll K (vis Z [a] [.pot] H) us ds ∧ F ds Qd ∧
  ∀ v r H', Rel K Z [a] [.pot] H' → Keep [a] [.pot] H [a] [.pot] H' → Dq K (vis Z [a] [.pot] H') v r → Qd r → Q v H'
section
variable {n : Nat} {K : PySem.W.Frag} {Z : Addr → Prop} {η η1 : List Addr} {M M1 : Mem} {H H1 : Hp} {v : V}
theorem own_nil {b : Addr} : ¬ Own [] [] b := fun ⟨_, _, e, _⟩ => by simp at e
/-- nothing is a cell any more, what was is hidden -/
theorem Rel.in0 (r : Rel K Z η M H) : Rel K (fun b => Z b ∨ Own η M b) [] [] H ∧ vis (fun b => Z b ∨ Own η M b) [] [] H = vis Z η M H := by
  refine ⟨⟨rfl, fun k a c e => by simp at e, fun j k a e => by simp at e, fun b hb => ⟨hb.elim (fun z => (r.z b z).1) r.owned, own_nil⟩⟩, ?_⟩
  funext b
  unfold vis
  by_cases z : Z b ∨ Own η M b
  · rw [if_pos z, if_pos (.inl z)]
  · rw [if_neg z, if_neg (fun q => q.elim z own_nil)]
theorem Keep.sm0 (k : Keep [] [] H [] [] H1) : Sm H H1 := fun b o e => (k.kp b o e own_nil).1
theorem cP_ok {F : DF} : COk K (cP F) (spP K F) := by
  intro Z η M H vs ys Q Qv E r hp hc fin
  obtain ⟨ds, M2, r2, k2, d2, q2⟩ := r.asDs hp hc
  obtain ⟨r0, e0⟩ := r2.in0
  refine ⟨_, ds, _, r0, by rw [e0]; exact d2, q2, fun v x H' r' k' d' q' => ?_⟩
  obtain ⟨r3, k3⟩ := r2.smNew k'.sm0
  refine fin v η M2 (.d x) H' r3 (k2.trans k3) ?_ q'
  obtain ⟨_, e3⟩ := r3.in0
  show Dq K _ v x
  rw [← e3]
  exact d'
theorem sc_dq {W W' : Hp} {v : V} {x : PyData} (h : Dq K W v x) (hs : isSc x = true) : Dq K W' v x := by
  cases h <;> first | (cases hs; done) | constructor
theorem freezeAll : ∀ {vs : List V} {ys : List DV} {ds : List PyData} (M1 : Mem), Rel K Z η M1 H → Keep η M H η M1 H → (∀ y, look M1 y = look M y) → Paired (Den K Z η M H) vs ys → lks M ys = some ds → ∃ M2, Rel K Z η M2 H ∧ Keep η M1 H η M2 H ∧ DqAll K (vis Z η M2 H) vs ds
  | [], [], ds, M1, r1, k1, hlk, .nil, hl => by
    cases hl
    exact ⟨M1, r1, .refl, .nil⟩
  | w :: vs, y :: ys, ds, M1, r1, k1, hlk, .cons h t, hl => by
    unfold lks at hl
    split at hl
    · rename_i x xs e1 e2
      cases hl
      cases y with
      | d z =>
        cases e1
        obtain ⟨M2, r2, k2, d2⟩ := freezeAll M1 r1 k1 hlk t e2
        exact ⟨M2, r2, k2, .cons (h.keep (k1.trans k2)) d2⟩
      | o k =>
        obtain ⟨a, ea, rfl⟩ := h
        have e1' : (M1[k]?).bind cellD = some x := (hlk (.o k)).trans e1
        obtain ⟨c, ec, ed⟩ := Option.bind_eq_some_iff.mp e1'
        obtain ⟨r2, k2, d2⟩ := r1.freeze ea ec ed
        have hk := (List.getElem?_eq_some_iff.mp ec).1
        obtain ⟨M3, r3, k3, d3⟩ := freezeAll (M1.set k (.fz x)) r2 (k1.trans k2) (fun y' => by
          cases y' with
          | d z => rfl
          | o j =>
            show ((M1.set k (.fz x))[j]?).bind cellD = _
            rw [List.getElem?_set]
            by_cases c' : k = j
            · subst c'
              rw [if_pos rfl, if_pos hk]
              exact e1.symm
            · rw [if_neg c']
              exact hlk (.o j)) t e2
        exact ⟨M3, r3, k2.trans k3, .cons (Dq.sm k3.vis d2) d3⟩
    · cases hl
theorem cB_ok {F : DF} : COk K (cB F) (spP K F) := by
  intro Z η M H vs ys Q Qv E r hp hc fin
  unfold cB at hc
  split at hc
  · rename_i ds e
    obtain ⟨M2, r2, k2, d2⟩ := freezeAll M r .refl (fun _ => rfl) hp e
    obtain ⟨r0, e0⟩ := r2.in0
    refine ⟨_, ds, _, r0, by rw [e0]; exact d2, hc, fun v x H' r' k' d' q' => ?_⟩
    obtain ⟨r3, k3⟩ := r.smNew k'.sm0
    exact fin v η M (.d x) H' r3 k3 (sc_dq d' q'.1) q'.2
  · exact hc.elim
theorem pot_one {a b : Addr} : Own [a] [.pot] b ↔ b = a := by
  constructor
  · rintro ⟨k, c, e1, e2, l⟩
    cases k with
    | zero => exact (Option.some.inj e1).symm
    | succ k => simp at e1
  · rintro rfl
    exact ⟨0, .pot, rfl, rfl, rfl⟩
theorem cT_ok {F : DF} : COk K (cT F) (spT K F) := by
  intro Z η M H vs ys Q Qv E r hp hc fin
  cases hp with
  | nil => exact hc.elim
  | cons h t =>
    rename_i w y vs rest
    cases y with
    | d x => exact hc.elim
    | o k =>
      obtain ⟨a, ea, rfl⟩ := h
      have hc : asDs rest M fun ds M2 => M2[k]? = some .pot ∧ F ds fun r => Q (.d r) M2 := hc
      obtain ⟨ds, M2, r2, k2, d2, ep, q2⟩ := r.asDs t hc
      have ha : Own η M2 a := ⟨k, .pot, ea, ep, rfl⟩
      have pa := r2.ok k a _ ea ep
      let Z' : Addr → Prop := fun b => Z b ∨ (Own η M2 b ∧ b ≠ a)
      have ev : ∀ G : Hp, vis Z' [a] [.pot] G = vis Z η M2 G := fun G => by
        funext b
        unfold vis
        by_cases z : Z b ∨ Own η M2 b
        · rw [if_pos z]
          by_cases c : b = a
          · rw [if_pos (.inr (pot_one.mpr c))]
          · rw [if_pos (.inl (z.elim .inl fun o => .inr ⟨o, c⟩))]
        · rw [if_neg z, if_neg]
          rintro ((q | q) | q)
          · exact z (.inl q)
          · exact z (.inr q.1)
          · exact z (.inr (by rw [pot_one.mp q]; exact ha))
      have r0 : Rel K Z' [a] [.pot] H := by
        refine ⟨rfl, fun j b c e1 e2 => ?_, fun i j b e1 e2 => ?_, fun b hb => ?_⟩
        · cases j with
          | zero =>
            cases e1
            cases e2
            exact pa
          | succ j => simp at e1
        · cases i <;> cases j <;> simp_all
        · rcases hb with z | ⟨o, c⟩
          · exact ⟨(r2.z b z).1, fun o => (r2.z b z).2 (by rw [pot_one.mp o]; exact ha)⟩
          · exact ⟨r2.owned o, fun o => c (pot_one.mp o)⟩
      refine ⟨Z', a, vs, ds, _, rfl, r0, by rw [ev]; exact d2, q2, fun v x H' r' k' d' q' => ?_⟩
      have kk : ∀ b o, H b = some o → b ≠ a → H' b = some o := fun b o e n => (k'.kp b o e fun q => n (pot_one.mp q)).1
      have pa' : PotA H' a := r'.ok 0 a .pot rfl rfl
      have kp : Keep η M2 H η M2 H' := ⟨⟨[], (List.append_nil _).symm⟩, fun b o e n => ⟨kk b o e fun c => n (by rw [c]; exact ha), n⟩⟩
      have r3 : Rel K Z η M2 H' := by
        refine ⟨r2.len, fun j b c e1 e2 => ?_, r2.inj, fun b hb => ⟨fun e => ?_, (r2.z b hb).2⟩⟩
        · by_cases q : b = a
          · subst q
            have : j = k := r2.inj j k b e1 ea
            subst this
            rw [ep] at e2
            cases e2
            exact pa'
          · exact (r2.ok j b c e1 e2).keep (fun u e => kk b u e q) kp.vis fun _ _ e => e
        · have hn := (r2.z b hb).1
          cases q : H b with
          | none => exact hn q
          | some o =>
            rw [kk b o q fun c => (r2.z b hb).2 (by rw [c]; exact ha)] at e
            cases e
      refine fin v η M2 (.d x) H' r3 (k2.trans kp) ?_ q'
      show Dq K _ v x
      rw [← ev]
      exact d'
end
end Dl
/-! Data level, 8: calls of defs, defs by their bodies. -/
namespace Dl
open PySem PySem.Spec PyProof.Rows L2 Ow
/-- the arguments in the parameters' order -/
def dCall (c : DC) (da : DA) : DE := fun ε M Q => da ε M fun ys M1 => c ys M1 Q
def dCallK (c : DC) (n m : Nat) (ix : List Nat) (da dk : DA) : DE := fun ε M Q => da ε M fun ys M1 => dk ε M1 fun zs M2 => ys.length = n ∧ zs.length = m ∧ c (putIn (.d .none) ix ys zs) M2 Q
def PDK (K : PySem.W.Frag) (X : Cx) (kws : List Keyword) (da : DA) : Prop := X.K = K → PK X kws (tA X.N.length K da)
theorem PK.weak {X : Cx} {es : List Keyword} {t t' : TA} (h : PK X es t) (w : ∀ σ H Q, t' σ H Q → t σ H Q) : PK X es t' := ⟨fun pos pins s σ H Q I q => h.run pos pins s σ H Q I (w _ _ _ q)⟩
theorem Paired.len {α β : Type} {F : α → β → Prop} : ∀ {l₁ : List α} {l₂ : List β}, Paired F l₁ l₂ → l₁.length = l₂.length
  | _, _, .nil => rfl
  | _, _, .cons _ t => congrArg (· + 1) (Paired.len t)
theorem Paired.app {α β : Type} {F : α → β → Prop} : ∀ {l₁ m₁ : List α} {l₂ m₂ : List β}, Paired F l₁ l₂ → Paired F m₁ m₂ → Paired F (l₁ ++ m₁) (l₂ ++ m₂)
  | _, _, _, _, .nil, q => q
  | _, _, _, _, .cons r t, q => .cons r (Paired.app t q)
theorem Paired.nth {α β : Type} {F : α → β → Prop} {a : α} {b : β} (h0 : F a b) : ∀ {l₁ : List α} {l₂ : List β} (i : Nat), Paired F l₁ l₂ → F (l₁.getD i a) (l₂.getD i b)
  | _, _, _, .nil => h0
  | _, _, 0, .cons r _ => r
  | _, _, i + 1, .cons _ t => by
    simp only [List.getD_cons_succ]
    exact Paired.nth h0 i t
theorem Paired.putIn {α β : Type} {F : α → β → Prop} {a : α} {b : β} (h0 : F a b) {l₁ m₁ : List α} {l₂ m₂ : List β} (h1 : Paired F l₁ l₂) (h2 : Paired F m₁ m₂) : ∀ ix : List Nat, Paired F (putIn a ix l₁ m₁) (putIn b ix l₂ m₂)
  | [] => .nil
  | i :: ix => .cons (Paired.nth h0 i (Paired.app h1 h2)) (Paired.putIn h0 h1 h2 ix)
section
variable {n : Nat} {K : PySem.W.Frag} {X : Cx} {k j : Nat} {ps ks : List Str} {sp : Sp} {E : XK} {y x : Str} {st : Stmt} {p pos kpos : Pos} {e : Expr} {es : List Expr} {kws : List Keyword} {da dk : DA} {de : DE} {c : DC} {CX : CXT} {nm : Option Str}
theorem pdk_nil : PDK K X [] dNil := fun hK => PK.weak pk_nil fun σ H Q ⟨Z, η, M, ε, Qd, r, s, q, fin⟩ => fin [] η M [] H r .refl .nil q
theorem pdk_cons (ha : PD K X e de) (hr : PDK K X kws dk) : PDK K X (⟨nm, e, kpos⟩ :: kws) (dCons de dk) := fun hK =>
  PK.weak (pk_cons (ha hK) (hr hK)) fun σ H Q ⟨Z, η, M, ε, Qd, r, s, q, fin⟩ =>
    ⟨Z, η, M, ε, _, r, s, q, fun v1 η1 M1 y1 H1 r1 k1 d1 q1 => ⟨Z, η1, M1, ε, _, r1, s.keep k1, q1, fun v2 η2 M2 y2 H2 r2 k2 d2 q2 =>
      fin (v1 :: v2) η2 M2 (y1 :: y2) H2 r2 (k1.trans k2) (.cons (d1.keep k2) d2) q2⟩⟩
theorem call_ok (hc : COk K c sp) {σ : L2.St} {H : Hp} {Q : VK} (h : tD n K (dCall c da) σ H Q) : tCall sp [] E (tA n K da) σ H Q := by
  obtain ⟨Z, η, M, ε, Qd, r, s, q, fin⟩ := h
  refine ⟨Z, η, M, ε, _, r, s, q, fun vs η1 M1 ys H1 r1 k1 d1 q1 => ?_⟩
  show sp (vs ++ []) H1 Q E
  rw [List.append_nil]
  exact hc Z η1 M1 H1 vs ys Qd Q E r1 d1 q1 fun v η' M' y H' r' k' d' q' => fin v η' M' y H' r' (k1.trans k') d' q'
theorem pd_d (D : DfA X.prog X.w X.K X.mg X.base CX k y x st ps sp) (hc : COk K c sp) (hr : Room j X.A) (hk : k ≤ j) (hg : X.A.guards = some []) (hx : Passes CX X E)
    (gl : Gl X y) (ha : PDA K X (e :: es) da) (hdb : (y == ("__debug__" : Str)) = false := by decide) (he : starEach (e :: es) X.env = (false, eval e X.env) :: starEach es X.env := by rfl)
    (hpl : (backTo pos (starEach es X.env)).any (·.1) = false := by rfl) : PD K X (.Call (.Name y p) (e :: es) [] pos) (dCall c da) := fun hK =>
  PE.weak (Ow.pe_d D hr hk hg hx gl (ha hK) hdb he hpl) fun σ H Q h => call_ok hc h
theorem pd_d0 (D : DfA X.prog X.w X.K X.mg X.base CX k y x st ps sp) (hc : COk K c sp) (hr : Room j X.A) (hk : k ≤ j) (hg : X.A.guards = some []) (hx : Passes CX X E)
    (gl : Gl X y) (hdb : (y == ("__debug__" : Str)) = false := by decide) : PD K X (.Call (.Name y p) [] [] pos) (dCall c dNil) := fun hK =>
  PE.weak (Ow.pe_d0 D hr hk hg hx gl hdb) fun σ H Q ⟨Z, η, M, ε, Qd, r, s, q, fin⟩ => hc Z η M H [] [] Qd Q E r .nil q fun v η' M' y H' r' k' d' q' => fin v η' M' y H' r' k' d' q'
theorem callK_ok {a m : Nat} {ix : List Nat} (hc : COk K c sp) {σ : L2.St} {H : Hp} {Q : VK} (h : tD n K (dCallK c a m ix da dk) σ H Q) : tCallKw a m sp ix E (tA n K da) (tA n K dk) σ H Q := by
  obtain ⟨Z, η, M, ε, Qd, r, s, q, fin⟩ := h
  refine ⟨Z, η, M, ε, _, r, s, q, fun vs η1 M1 ys H1 r1 k1 d1 q1 => ⟨Z, η1, M1, ε, _, r1, s.keep k1, q1, fun zs η2 M2 ws H2 r2 k2 d2 q2 => ?_⟩⟩
  have d1' := Paired.mapL d1 fun _ _ z => z.keep k2
  refine ⟨by rw [Paired.len d1]; exact q2.1, by rw [Paired.len d2]; exact q2.2.1, ?_⟩
  refine hc Z η2 M2 H2 _ _ Qd Q E r2 (Paired.putIn (a := V.non) (b := DV.d .none) Dq.non d1' d2 ix) q2.2.2 fun v η' M' y H' r' k' d' q' => fin v η' M' y H' r' (k1.trans (k2.trans k')) d' q'
theorem pd_dk {n : Nat} {ix : List Nat} (D : DfA X.prog X.w X.K X.mg X.base CX k y x st ps sp) (hc : COk K c sp) (hr : Room j X.A) (hk : k ≤ j) (hg : X.A.guards = some []) (hx : Passes CX X E) (wy : Way x st ps n ks ix)
    (gl : Gl X y) (ha : PDA K X (e :: es) da) (hkw : PDK K X kws dk) (hall : (backToKw pos (keywordEach kws X.env)).all (·.1.isSome) = true := by rfl) (hks : (backToKw pos (keywordEach kws X.env)).filterMap (·.1) = ks := by rfl)
    (hdb : (y == ("__debug__" : Str)) = false := by decide) (he : starEach (e :: es) X.env = (false, eval e X.env) :: starEach es X.env := by rfl)
    (hpl : ((backTo pos (starEach (e :: es) X.env)).any (·.1) || (backToKw pos (keywordEach kws X.env)).any (·.1.isNone)) = false := by rfl) :
    PD K X (.Call (.Name y p) (e :: es) kws pos) (dCallK c n ks.length ix da dk) := fun hK =>
  PE.weak (Ow.pe_dk D hr hk hg hx wy gl (ha hK) (hkw hK) hall hks hdb he hpl) fun σ H Q h => callK_ok hc h
theorem pd_dk0 {ix : List Nat} (D : DfA X.prog X.w X.K X.mg X.base CX k y x st ps sp) (hc : COk K c sp) (hr : Room j X.A) (hk : k ≤ j) (hg : X.A.guards = some []) (hx : Passes CX X E) (wy : Way x st ps 0 ks ix)
    (gl : Gl X y) (hkw : PDK K X kws dk) (hall : (backToKw pos (keywordEach kws X.env)).all (·.1.isSome) = true := by rfl) (hks : (backToKw pos (keywordEach kws X.env)).filterMap (·.1) = ks := by rfl)
    (hdb : (y == ("__debug__" : Str)) = false := by decide)
    (hpl : ((backTo pos (starEach [] X.env)).any (·.1) || (backToKw pos (keywordEach kws X.env)).any (·.1.isNone)) = false := by rfl) :
    PD K X (.Call (.Name y p) [] kws pos) (dCallK c 0 ks.length ix dNil dk) := fun hK =>
  PE.weak (Ow.pe_dk0 D hr hk hg hx wy gl (hkw hK) hall hks hdb hpl) fun σ H Q ⟨Z, η, M, ε, Qd, r, s, q, fin⟩ => by
    refine ⟨Z, η, M, ε, _, r, s, q, fun zs η2 M2 ws H2 r2 k2 d2 q2 => ?_⟩
    refine ⟨rfl, by rw [Paired.len d2]; exact q2.2.1, ?_⟩
    exact hc Z η2 M2 H2 _ _ Qd Q E r2 (Paired.putIn (a := V.non) (b := DV.d .none) Dq.non .nil d2 ix) q2.2.2 fun v η' M' y H' r' k' d' q' => fin v η' M' y H' r' (k2.trans k') d' q'
end
/-! ### defs -/
theorem few_of {N ps : List Str} {sc : Scope} (S : FnScope N ps sc) : ps.length ≤ N.length := by
  have := congrArg List.length S.pre
  rw [List.length_take] at this
  omega
def startD (ys : List DV) : DSt := .lit (ys.map some)
theorem getO_map {ys : List DV} : ∀ {l : List DV} {i : Nat} {y : DV}, getO (l.map some) i = some y → l[i]? = some y
  | [], i, y, h => by cases h
  | x :: l, 0, y, h => h
  | x :: l, i + 1, y, h => by
    have := getO_map (ys := ys) (l := l) (i := i) (y := y) h
    simpa using this
theorem slt_start {K : PySem.W.Frag} {Z : Addr → Prop} {η : List Addr} {M : Mem} {H : Hp} {N : List Str} {vs : List V} {ys : List DV} (h : Paired (Den K Z η M H) vs ys) (hN : vs.length ≤ N.length) : Slt N.length K Z η M H (L2.start N vs) (startD ys) := by
  refine ⟨by unfold L2.start; rw [List.length_append, List.length_map, List.length_replicate]; omega, fun i y e => ?_⟩
  have key : ∀ {vs : List V} {ys : List DV}, Paired (Den K Z η M H) vs ys → ∀ (i : Nat) y, ys[i]? = some y → ∃ v, vs[i]? = some v ∧ Den K Z η M H v y := by
    intro vs ys h
    induction h with
    | nil => intro i y e; simp at e
    | cons r _ ih =>
      intro i y e
      cases i with
      | zero => simp at e; subst e; exact ⟨_, rfl, r⟩
      | succ i => simpa using ih i y (by simpa using e)
  obtain ⟨v, e3, d⟩ := key h i y (getO_map (ys := ys) e)
  refine ⟨v, ?_, d⟩
  unfold L2.start
  rw [List.getElem?_append_left (by rw [List.length_map]; exact idx_lt e3), List.getElem?_map, e3]
  rfl
section
variable {n : Nat} {K : PySem.W.Frag} {Z : Addr → Prop} {η η1 m : List Addr} {M M0 M1 : Mem} {H H1 : Hp} {v : V}
theorem Rel.val (r : Rel K Z η M H) {y : DV} {x : PyData} (h : Den K Z η M H v y) (e : look M y = some x) : ∃ M', Rel K Z η M' H ∧ Keep η M H η M' H ∧ Dq K (vis Z η M' H) v x ∧ ∀ j : Nat, M[j]? = some .pot → M'[j]? = some .pot := by
  cases y with
  | d z =>
    cases e
    exact ⟨M, r, .refl, h, fun _ e => e⟩
  | o k =>
    obtain ⟨a, ea, rfl⟩ := h
    have e : (M[k]?).bind cellD = some x := e
    obtain ⟨c, ec, ed⟩ := Option.bind_eq_some_iff.mp e
    obtain ⟨r2, k2, d2⟩ := r.freeze ea ec ed
    refine ⟨_, r2, k2, d2, fun j ej => ?_⟩
    rw [List.getElem?_set]
    by_cases q : k = j
    · subst q
      rw [ec] at ej
      cases ej
      cases ed
    · rw [if_neg q]
      exact ej
end
section
variable {P : Program} {w : World} {K : PySem.W.Frag} {mg : Str → Option Value} {base : Heap}
theorem dqs_den {Z : Addr → Prop} {η : List Addr} {M : Mem} {H : Hp} : ∀ {vs : List V} {ds : List PyData}, DqAll K (vis Z η M H) vs ds → Paired (Den K Z η M H) vs (ds.map DV.d)
  | _, _, .nil => .nil
  | _, _, .cons h t => .cons h (dqs_den t)
/-- a def that takes data and tells data -/
theorem df_P {y x : Str} {st : Stmt} {N ps : List Str} {k : Nat} {F : DF} (T : StandsA K mg y x st) (S : FnScope N ps (defScope st)) (bd : Bind x st ps)
    (len : ∀ ds Q, F ds Q → ds.length = ps.length)
    (hbody : ∀ (cdv : Value) (A : Around) (outer : List Env) (s : Shared) (H : Hp) (E : XK) (f : Addr), A.guards = some [] →
      Room k (A.deeper (envOfC x (defScope st) s.heap.objs.size f cdv)) →
      ∃ dt, PDSs K (cxOf CX0 P w K mg base N x (defScope st) f cdv A outer s H E).nox (defBody st) dt ∧ ∀ ds Q, F ds Q → dt { nx := fun _ _ => Q .none, rt := fun y M => lk (look M y) Q } (startD (ds.map DV.d)) []) :
    DfA P w K mg base CX0 (k + 1) y x st ps (spP K F) := by
  refine df_of T S bd (fun vs H Q E h => ?_) (fun cdv A outer s H vs Q E f hG hR h => ?_)
  · obtain ⟨Z, ds, Qd, r, d, q, _⟩ := h
    rw [DqAll.length d]
    exact len _ _ q
  · obtain ⟨dt, h1, h2⟩ := hbody cdv A outer s H E f hG hR
    obtain ⟨Z, ds, Qd, r, d, q, fin⟩ := h
    refine ⟨_, h1 rfl w0 takes0, Z, [], [], _, _, r, slt_start (dqs_den d) (by rw [DqAll.length d, len _ _ q]; exact few_of S), h2 ds Qd q, ?_⟩
    have out : ∀ {η' : List Addr} {M' : Mem} {H' : Hp}, Rel K Z η' M' H' → Keep [] [] H η' M' H' → Rel K Z [] [] H' ∧ Keep [] [] H [] [] H' ∧ Sm (vis Z η' M' H') (vis Z [] [] H') := fun {η' M' H'} r' k' => by
      obtain ⟨r0, sm, _⟩ := Rel.drop (η := []) (m := η') (M0 := []) r' rfl (fun k c e => by simp at e) fun k ks e => by simp at e
      exact ⟨r0, ⟨⟨[], rfl⟩, fun b o e n => ⟨(k'.kp b o e n).1, own_nil⟩⟩, sm⟩
    refine ⟨?_, ?_, fun _ _ _ _ _ _ _ _ z => z.elim, fun _ _ _ _ _ _ _ _ z => z.elim, fun _ _ _ _ _ _ _ _ _ _ _ _ z => z.elim⟩
    · intro σ' η' M' ε' H' r' k' s' q'
      obtain ⟨r0, k0, _⟩ := out r' k'
      exact fin .non .none H' r0 k0 .non q'
    · intro v η' M' y H' r' k' d' q'
      obtain ⟨x', ex, qx⟩ := lk_of q'
      obtain ⟨M2, r2, k2, d2, _⟩ := r'.val d' ex
      obtain ⟨r0, k0, sm⟩ := out r2 (k'.trans k2)
      exact fin v x' H' r0 k0 (Dq.sm sm d2) qx
/-- .. with the pot ahead -/
theorem df_T {y x : Str} {st : Stmt} {N ps : List Str} {k : Nat} {F : DF} (T : StandsA K mg y x st) (S : FnScope N ps (defScope st)) (bd : Bind x st ps)
    (len : ∀ ds Q, F ds Q → ds.length + 1 = ps.length)
    (hbody : ∀ (cdv : Value) (A : Around) (outer : List Env) (s : Shared) (H : Hp) (E : XK) (f : Addr), A.guards = some [] →
      Room k (A.deeper (envOfC x (defScope st) s.heap.objs.size f cdv)) →
      ∃ dt, PDSs K (cxOf CX0 P w K mg base N x (defScope st) f cdv A outer s H E).nox (defBody st) dt ∧ ∀ ds Q, F ds Q → dt { nx := fun _ M => M[0]? = some .pot ∧ Q .none, rt := fun y M => M[0]? = some .pot ∧ lk (look M y) Q } (startD (.o 0 :: ds.map DV.d)) [.pot]) :
    DfA P w K mg base CX0 (k + 1) y x st ps (spT K F) := by
  refine df_of T S bd (fun vs H Q E h => ?_) (fun cdv A outer s H vs Q E f hG hR h => ?_)
  · obtain ⟨Z, a, us, ds, Qd, rfl, r, d, q, _⟩ := h
    rw [List.length_cons, DqAll.length d]
    exact len _ _ q
  · obtain ⟨dt, h1, h2⟩ := hbody cdv A outer s H E f hG hR
    obtain ⟨Z, a, us, ds, Qd, rfl, r, d, q, fin⟩ := h
    refine ⟨_, h1 rfl w0 takes0, Z, [a], [.pot], _, _, r, slt_start (.cons (show Den K Z [a] [.pot] H (.ref a) (.o 0) from ⟨a, rfl, rfl⟩) (dqs_den d)) (by rw [List.length_cons, DqAll.length d, len _ _ q]; exact few_of S), h2 ds Qd q, ?_⟩
    have out : ∀ {η' : List Addr} {M' : Mem} {H' : Hp}, Rel K Z η' M' H' → Keep [a] [.pot] H η' M' H' → M'[0]? = some .pot → Rel K Z [a] [.pot] H' ∧ Keep [a] [.pot] H [a] [.pot] H' ∧ Sm (vis Z η' M' H') (vis Z [a] [.pot] H') := fun {η' M' H'} r' k' e0 => by
      obtain ⟨m, em⟩ := k'.more
      subst em
      obtain ⟨r0, sm, ow⟩ := Rel.drop (η := [a]) (m := m) (M0 := [.pot]) r' rfl (fun k c e => by
        cases k with
        | zero => cases e; exact e0
        | succ k => simp at e) fun k ks e j hj => by
        cases k with
        | zero => cases e; cases hj
        | succ k => simp at e
      exact ⟨r0, ⟨⟨[], rfl⟩, fun b o e n => ⟨(k'.kp b o e n).1, fun q => n (pot_one.mpr (pot_one.mp q))⟩⟩, sm⟩
    refine ⟨?_, ?_, fun _ _ _ _ _ _ _ _ z => z.elim, fun _ _ _ _ _ _ _ _ z => z.elim, fun _ _ _ _ _ _ _ _ _ _ _ _ z => z.elim⟩
    · intro σ' η' M' ε' H' r' k' s' q'
      obtain ⟨r0, k0, _⟩ := out r' k' q'.1
      exact fin .non .none H' r0 k0 .non q'.2
    · intro v η' M' y H' r' k' d' q'
      obtain ⟨x', ex, qx⟩ := lk_of q'.2
      obtain ⟨M2, r2, k2, d2, e2⟩ := r'.val d' ex
      obtain ⟨r0, k0, sm⟩ := out r2 (k'.trans k2) (e2 0 q'.1)
      exact fin v x' H' r0 k0 (Dq.sm sm d2) qx
end
end Dl
/-! Data level, 9: operators and built-ins by name, for the printed terms; helpers of readings. -/
namespace Dl
open PySem PySem.Spec PyProof.Rows L2 Ow
structure OI (K : PySem.W.Frag) (X : Cx) (f : Value → Value → Sem Value) (F : DF2) : Prop where
  ex : ∃ r, OpR X f r ∧ (X.K = K → OpS K r F)
structure BI (K : PySem.W.Frag) (X : Cx) (f : Value) (F : DFn) : Prop where
  ex : ∃ r, CallR X f r ∧ (X.K = K → CallS K r F)
section
variable {n : Nat} {K : PySem.W.Frag} {X : Cx} {a b e : Expr} {es : List Expr} {da db : DE} {dar : DA} {pos p : Pos}
theorem pd_bo {op : Operator} {F : DF2} (own : Bool) (h : OI K X (binaryOp op) F) (ha : PD K X a da) (hb : PD K X b db) : PD K X (.BinOp a op b pos) (dBin F own da db) := by
  obtain ⟨r, h1, h2⟩ := h.ex
  exact pd_op own h1 h2 ha hb
theorem pd_co {op : CmpOp} {F : DF2} (h : OI K X (compareOp op) F) (ha : PD K X a da) (hb : PD K X b db) (hm : behindInMarks op b = false) : PD K X (.Compare a [op] [b] pos) (dBin F false da db) := by
  obtain ⟨r, h1, h2⟩ := h.ex
  exact pd_cmp h1 h2 ha hb hm
theorem pdt_co {op : CmpOp} {F : DF2} (h : OI K X (compareOp op) F) (ha : PD K X a da) (hb : PD K X b db) (hm : behindInMarks op b = false) : PDT K X (.Compare a [op] [b] pos) (dTest (dBin F false da db)) := by
  obtain ⟨r, h1, h2⟩ := h.ex
  exact pdt_cmp h1 h2 ha hb hm
theorem pd_idx (ha : PD K X a da) (hb : PD K X b db) (hp : PlainIx b) : PD K X (.Subscript a b pos) (dBin fIx false da db) := pd_ix ix_seq (fun hK => by subst hK; exact opS_ix) ha hb hp
theorem pd_neg (ha : PD K X a da) : PD K X (.UnaryOp .USub a pos) (dUn fNeg false da) := pd_un un_neg (fun _ => unS_neg) ha
theorem pd_cb {x : Str} {id : String} {F : DFn} (own : Bool) (h : BI K X (.builtin id) F) (hm : X.mg x = none) (ha : PDA K X (e :: es) dar) (hg : Gl X x := by rfl) (hv : bootBuiltins x = some (.builtin id) := by decide +kernel) (hn : x ≠ "__name__" := by decide) (hdb : (x == ("__debug__" : Str)) = false := by decide)
    (he : starEach (e :: es) X.env = (false, eval e X.env) :: starEach es X.env := by rfl) (hpl : (backTo pos (starEach es X.env)).any (·.1) = false := by rfl) : PD K X (.Call (.Name x p) (e :: es) [] pos) (dCB F own dar) := by
  obtain ⟨r, h1, h2⟩ := h.ex
  exact pd_callB own h1 h2 hg hm hv ha hn hdb he hpl
theorem pd_ct {x : Str} {T : String} {F : DFn} (own : Bool) (h : BI K X (.type T) F) (hm : X.mg x = none) (ha : PDA K X (e :: es) dar) (hg : Gl X x := by rfl) (hv : bootBuiltins x = some (.type T) := by decide +kernel) (hn : x ≠ "__name__" := by decide) (hdb : (x == ("__debug__" : Str)) = false := by decide)
    (he : starEach (e :: es) X.env = (false, eval e X.env) :: starEach es X.env := by rfl) (hpl : (backTo pos (starEach es X.env)).any (·.1) = false := by rfl) : PD K X (.Call (.Name x p) (e :: es) [] pos) (dCB F own dar) := by
  obtain ⟨r, h1, h2⟩ := h.ex
  exact pd_callTy own h1 h2 hg hm hv ha hn hdb he hpl
/-! operators -/
theorem oi_add : OI K X (binaryOp .Add) fAdd := ⟨⟨_, op_addD, fun hK => by subst hK; exact opS_add⟩⟩
theorem oi_sub : OI K X (binaryOp .Sub) (fInt0 fun i j => .int (i - j)) := ⟨⟨_, op_sub, fun _ => opS_int0 fun _ _ => rfl⟩⟩
theorem oi_mul : OI K X (binaryOp .Mult) (fInt CMul fun i j => .int (i * j)) := ⟨⟨_, op_mul, fun _ => opS_int fun _ _ => rfl⟩⟩
theorem oi_div : OI K X (binaryOp .FloorDiv) (fInt CDiv fun i j => .int (i / j)) := ⟨⟨_, op_fdiv, fun _ => opS_int fun _ _ => rfl⟩⟩
theorem oi_mod : OI K X (binaryOp .Mod) (fInt (fun _ j => 0 < j) fun i j => .int (i % j)) := ⟨⟨_, op_mod, fun _ => opS_int fun _ _ => rfl⟩⟩
theorem oi_pow : OI K X (binaryOp .Pow) (fInt CPow fun i j => .int (i ^ j.toNat)) := ⟨⟨_, op_pow, fun _ => opS_int fun _ _ => rfl⟩⟩
theorem oi_shl : OI K X (binaryOp .LShift) (fInt CPow fun i j => .int (i * 2 ^ j.toNat)) := ⟨⟨_, op_shl, fun _ => opS_int fun _ _ => rfl⟩⟩
theorem oi_shr : OI K X (binaryOp .RShift) (fInt (fun _ j => 0 ≤ j) fun i j => .int (i / 2 ^ j.toNat)) := ⟨⟨_, op_shr, fun _ => opS_int fun _ _ => rfl⟩⟩
theorem oi_band : OI K X (binaryOp .BitAnd) (fInt0 fun i j => .int (Builtin.bitAnd i j)) := ⟨⟨_, op_and, fun _ => opS_int0 fun _ _ => rfl⟩⟩
theorem oi_lt : OI K X (compareOp .Lt) (fInt0 fun i j => .bool (decide (i < j))) := ⟨⟨_, op_lt, fun _ => opS_int0 fun _ _ => rfl⟩⟩
theorem oi_le : OI K X (compareOp .LtE) (fInt0 fun i j => .bool (decide (i ≤ j))) := ⟨⟨_, op_le, fun _ => opS_int0 fun _ _ => rfl⟩⟩
theorem oi_gt : OI K X (compareOp .Gt) (fInt0 fun i j => .bool (decide (j < i))) := ⟨⟨_, op_gt, fun _ => opS_int0 fun _ _ => rfl⟩⟩
theorem oi_ge : OI K X (compareOp .GtE) (fInt0 fun i j => .bool (decide (j ≤ i))) := ⟨⟨_, op_ge, fun _ => opS_int0 fun _ _ => rfl⟩⟩
theorem oi_eq (hu : X.A.units + 64 < cLine) : OI K X (compareOp .Eq) (fEq false) := ⟨⟨_, op_eqA hu, fun hK => by subst hK; exact opS_eq⟩⟩
theorem oi_ne (hu : X.A.units + 64 < cLine) : OI K X (compareOp .NotEq) (fEq true) := ⟨⟨_, op_neA hu, fun hK => by subst hK; exact opS_ne⟩⟩
theorem oi_isN : OI K X (compareOp .Is) (fIsN false) := ⟨⟨_, op_isN, fun _ => opS_isN⟩⟩
theorem oi_notN : OI K X (compareOp .IsNot) (fIsN true) := ⟨⟨_, op_notN, fun _ => opS_notN⟩⟩
theorem oi_isB : OI K X (compareOp .Is) (fIsB false) := ⟨⟨_, op_isBl, fun _ => opS_isB⟩⟩
theorem oi_notB : OI K X (compareOp .IsNot) (fIsB true) := ⟨⟨_, op_notBl, fun _ => opS_notB⟩⟩
theorem oi_in : OI K X (compareOp .In) (fIn false) := ⟨⟨_, op_in_seq, fun hK => by subst hK; exact opS_in⟩⟩
theorem oi_notIn : OI K X (compareOp .NotIn) (fIn true) := ⟨⟨_, op_notIn_seq, fun hK => by subst hK; exact opS_in⟩⟩
/-! built-ins -/
theorem callS_K {r : PySem.W.Frag → List V → Hp → VK → Prop} {F : DFn} (h : CallS K (r K) F) : X.K = K → CallS K (r X.K) F := fun hK => by subst hK; exact h
theorem len_D : CallR X (.builtin "len") (rLenD X.K) := by
  intro pins s σ H xs us Q I r h
  rcases h with h | h | ⟨a, kvs, rfl, hd, q⟩
  · exact call_len_seq pins s σ H xs us Q I r h
  · exact call_len_str pins s σ H xs us Q I r h
  · obtain ⟨u, rfl, ru⟩ := vals1 r
    cases ru
    exact d_len I hd fun t s' I' => ⟨.int kvs.length, H, I', ⟨t, rfl⟩, q⟩
theorem bi_len : BI K X (.builtin "len") (f1 fLen) := ⟨⟨_, len_D, callS_K (r := rLenD) callS_len⟩⟩
theorem bi_all (hc : X.calm = true) : BI K X (.builtin "all") (f1 (fBools fun bs => bs.all id)) := ⟨⟨_, cr_all hc, callS_K (r := rAll) callS_all⟩⟩
theorem bi_any (hc : X.calm = true) : BI K X (.builtin "any") (f1 (fBools fun bs => bs.any id)) := ⟨⟨_, cr_any hc, callS_K (r := rAny) callS_any⟩⟩
theorem bi_sum (hc : X.calm = true) : BI K X (.builtin "sum") (f1 fSum) := ⟨⟨_, cr_sum hc, callS_K (r := rSum) callS_sum⟩⟩
theorem bi_max (hc : X.calm = true) : BI K X (.builtin "max") fMax := ⟨⟨_, cr_maxA hc, callS_K (r := rMaxA) callS_max⟩⟩
theorem bi_min (hc : X.calm = true) : BI K X (.builtin "min") fMin := ⟨⟨_, cr_minA hc, callS_K (r := rMinA) callS_min⟩⟩
theorem bi_sorted : BI K X (.builtin "sorted") (f1 fSortI) := ⟨⟨_, cr_sortedI, callS_K (r := rSortedI) callS_sortI⟩⟩
theorem bi_abs : BI K X (.builtin "abs") (f1 fAbs) := ⟨⟨_, call_abs, fun _ => callS_abs⟩⟩
theorem bi_divmod : BI K X (.builtin "divmod") (f2 fDivmod) := ⟨⟨_, call_divmodF, fun _ => callS_divmod⟩⟩
theorem bi_repr (hu : X.A.units + 64 < cLine) (hg : X.A.guards = some []) : BI K X (.builtin "repr") (f1 fRepr) := ⟨⟨_, call_show hu hg, callS_K (r := rShow) callS_repr⟩⟩
theorem bi_int : BI K X (.type "int") (f1 fIntI) := ⟨⟨_, Ow.call_int, fun _ => callS_int⟩⟩
theorem bi_strI : BI K X (.type "str") (f1 fStrI) := ⟨⟨_, call_str_int, fun _ => callS_strI⟩⟩
theorem bi_list : BI K X (.type "list") (f1 fList) := ⟨⟨_, call_list_of, fun hK => by subst hK; exact callS_list⟩⟩
theorem bi_tuple : BI K X (.type "tuple") (f1 fTuple) := ⟨⟨_, Ow.call_tupleF, fun hK => by subst hK; exact callS_tuple⟩⟩
end
/-! ### helpers of readings -/
theorem dite2 {p : Prop} [Decidable p] {A B : Prop} (h1 : p → A) (h2 : ¬ p → B) : if decide p = true then A else B := by
  by_cases c : p
  · rw [if_pos (decide_eq_true c)]
    exact h1 c
  · rw [if_neg (by rw [decide_eq_false c]; exact Bool.false_ne_true)]
    exact h2 c
theorem diteN {p : Prop} [Decidable p] {A B : Prop} (h1 : ¬ p → A) (h2 : p → B) : if (!decide p) = true then A else B := by
  by_cases c : p
  · rw [decide_eq_true c]
    exact h2 c
  · rw [decide_eq_false c]
    exact h1 c
theorem iteB {b : Bool} {A B : Prop} (h1 : b = true → A) (h2 : b = false → B) : if b = true then A else B := by
  cases b with
  | true => exact h1 rfl
  | false => exact h2 rfl
theorem sz (n : Nat) (h : n ≤ 1000000) : n ≤ sizeLine := by
  rw [sizeLine_eq]
  omega
end Dl
/-! Data level, 10: list(range(..)), the end of a law. -/
namespace Dl
open PySem PySem.Spec PyProof.Rows L2 Ow
abbrev DR := DSt → Mem → (Int → Int → Mem → Prop) → Prop
def tR (n : Nat) (K : PySem.W.Frag) (dr : DR) : L2.St → Hp → (Int → Int → Hp → Prop) → Prop := fun σ H Qv => ∃ (Z : Addr → Prop) (η : List Addr) (M : Mem) (ε : DSt) (Q : Int → Int → Mem → Prop), Rel K Z η M H ∧ Slt n K Z η M H σ ε ∧ dr ε M Q ∧
  ∀ a b η' M' H', Rel K Z η' M' H' → Keep η M H η' M' H' → Q a b M' → Qv a b H'
def PDR (K : PySem.W.Frag) (X : Cx) (e : Expr) (dr : DR) : Prop := X.K = K → PRg X e (tR X.N.length K dr)
def dRg1 (da : DE) : DR := fun ε M Q => da ε M fun y M1 => match y with
  | .d (.int n) => Q 0 n M1
  | _ => False
def dRg2 (da db : DE) : DR := fun ε M Q => da ε M fun x M1 => db ε M1 fun y M2 => match x, y with
  | .d (.int i), .d (.int j) => Q i j M2
  | _, _ => False
def dListRg (own : Bool) (dr : DR) : DE := fun ε M Q => dr ε M fun a b M1 => RgOk a b ∧ born own (.l (rangeD a (b - a).toNat)) M1 Q
def dTupRg (dr : DR) : DE := fun ε M Q => dr ε M fun a b M1 => RgOk a b ∧ Q (.d (.tuple (rangeD a (b - a).toNat))) M1
section
variable {n : Nat} {K : PySem.W.Frag} {X : Cx} {pos p : Pos} {a b e : Expr} {da db : DE} {dr : DR}
theorem PRg.weak {X : Cx} {e : Expr} {t t' : L2.St → Hp → (Int → Int → Hp → Prop) → Prop} (h : PRg X e t) (w : ∀ σ H Q, t' σ H Q → t σ H Q) : PRg X e t' := fun pins s σ H Q I q => h pins s σ H Q I (w _ _ _ q)
theorem drg_1 (hm : X.mg "range" = none) (ha : PD K X a da) (hg : Gl X "range" := by rfl) (na : starEach [a] X.env = (false, eval a X.env) :: starEach [] X.env := by rfl) : PDR K X (.Call (.Name "range" p) [a] [] pos) (dRg1 da) := fun hK =>
  PRg.weak (prg_1 hg hm (ha hK) na) fun σ H Q ⟨Z, η, M, ε, Qd, r, s, q, fin⟩ => ⟨Z, η, M, ε, _, r, s, q, fun v η1 M1 y H1 r1 k1 d1 q1 => by
    cases y with
    | o k => exact q1.elim
    | d x =>
      cases x with
      | int n => exact ⟨n, int_of' (W := vis Z η1 M1 H1) d1, fin 0 n η1 M1 H1 r1 k1 q1⟩
      | _ => exact q1.elim⟩
theorem drg_2 (hm : X.mg "range" = none) (ha : PD K X a da) (hb : PD K X b db) (hg : Gl X "range" := by rfl) (na : starEach [a, b] X.env = (false, eval a X.env) :: starEach [b] X.env := by rfl) (nb : starEach [b] X.env = (false, eval b X.env) :: starEach [] X.env := by rfl) (hp : (backTo pos (starEach [b] X.env)).any (·.1) = false := by rfl) : PDR K X (.Call (.Name "range" p) [a, b] [] pos) (dRg2 da db) := fun hK =>
  PRg.weak (prg_2 hg hm (ha hK) (hb hK) na nb hp) fun σ H Q ⟨Z, η, M, ε, Qd, r, s, q, fin⟩ => ⟨Z, η, M, ε, _, r, s, q, fun v1 η1 M1 y1 H1 r1 k1 d1 q1 => ⟨Z, η1, M1, ε, _, r1, s.keep k1, q1, fun v2 η2 M2 y2 H2 r2 k2 d2 q2 => by
    split at q2
    · exact ⟨_, _, int_of' (W := vis Z η1 M1 H1) d1, int_of' (W := vis Z η2 M2 H2) d2, fin _ _ η2 M2 H2 r2 (k1.trans k2) q2⟩
    · exact q2.elim⟩⟩
theorem rgV_dq {W : Hp} (lo hi : Int) : DqAll K W (rgV lo hi) (rangeD lo (hi - lo).toNat) := by
  have e1 : rgV lo hi = ((List.range (hi - lo).toNat).map fun (i : Nat) => lo + (i : Int)).map V.int := by
    unfold rgV
    rw [List.map_map]
    rfl
  have e2 : rangeD lo (hi - lo).toNat = ((List.range (hi - lo).toNat).map fun (i : Nat) => lo + (i : Int)).map PyData.int := by
    unfold rangeD
    rw [List.map_map]
    rfl
  rw [e1, e2]
  exact DqAll.ofInts _
theorem pd_listRg (own : Bool) (hc : X.calm = true) (hm : X.mg "list" = none) (he : PDR K X e dr) (hg : Gl X "list" := by rfl) (na : starEach [e] X.env = (false, eval e X.env) :: starEach [] X.env := by rfl) : PD K X (.Call (.Name "list" p) [e] [] pos) (dListRg own dr) := fun hK =>
  PE.weak (pe_listRg hc hg hm (he hK) na) fun σ H Q ⟨Z, η, M, ε, Qd, r, s, q, fin⟩ => ⟨Z, η, M, ε, _, r, s, q, fun lo hi η1 M1 H1 r1 k1 q1 => ⟨q1.1, fun p hp => by
    obtain ⟨η', M', y, r', k', d', q'⟩ := born_ok r1 (rr := .l (rangeD lo (hi - lo).toNat)) ⟨p, _, rfl, hp, rfl, rgV_dq lo hi⟩ q1.2
    exact fin _ η' M' y _ r' (k1.trans k') d' q'⟩⟩
theorem pd_tupRg (hc : X.calm = true) (hm : X.mg "tuple" = none) (he : PDR K X e dr) (hg : Gl X "tuple" := by rfl) (na : starEach [e] X.env = (false, eval e X.env) :: starEach [] X.env := by rfl) : PD K X (.Call (.Name "tuple" p) [e] [] pos) (dTupRg dr) := fun hK =>
  PE.weak (pe_tupRgF hc hg hm (he hK) na) fun σ H Q ⟨Z, η, M, ε, Qd, r, s, q, fin⟩ => ⟨Z, η, M, ε, _, r, s, q, fun lo hi η1 M1 H1 r1 k1 q1 => ⟨q1.1, fun p ob ho hp => by
    obtain ⟨r2, k2⟩ := r1.new (o := .frz ob (.tup (rgV lo hi))) hp
    exact fin _ η1 M1 (.d (.tuple _)) _ r2 (k1.trans k2) (Dq.tup ⟨ob, ho, r1.new_vis hp⟩ (rgV_dq lo hi)) q1.2⟩⟩
end
/-- the script -/
def f_script : DF := fun ds Q => ∃ ns : List Int, ds = [.list (ns.map PyData.int)] ∧ ns.length ≤ 63 ∧ Q (.bool true)
theorem script_in {K : PySem.W.Frag} {H : Hp} {a : Addr} {ns : List Int} (hl : ns.length ≤ 63) (hs : SqL K H a (ns.map V.int)) : spP K f_script [.ref a] H (fun v _ => v = .bl true) E0 := by
  have hv : ∀ G : Hp, vis (fun _ => False) [] [] G = G := fun G => by
    funext b
    unfold vis
    rw [if_neg (fun q => q.elim id own_nil)]
  refine ⟨fun _ => False, _, fun r => r = .bool true, ⟨rfl, fun k a c e => by simp at e, fun j k a e => by simp at e, fun b hb => hb.elim⟩, ?_, ⟨ns, rfl, hl, rfl⟩, ?_⟩
  · rw [hv]
    exact .cons (.lst hs (DqAll.ofInts ns)) .nil
  · rintro v r H' _ _ d rfl
    exact bl_of d
end Dl
/-! Data level, 11: defs that tell a new list. -/
namespace Dl
open PySem PySem.Spec PyProof.Rows L2 Ow
/-- data in, a new list out -/
abbrev DFO := List PyData → (List PyData → Prop) → Prop
def toP (F : DFO) : DF := fun ds Q => F ds fun xs => Q (.list xs)
def spO (K : PySem.W.Frag) (F : DFO) : Sp := fun vs H Q _ => ∃ (Z : Addr → Prop) (ds : List PyData) (Qd : List PyData → Prop), Rel K Z [] [] H ∧ DqAll K (vis Z [] [] H) vs ds ∧ F ds Qd ∧
  ∀ p xs H', Rel K Z [p] [.lst xs] H' → Keep [] [] H [p] [.lst xs] H' → Qd xs → Q (.ref p) H'
/-- the list stays a cell -/
def cO (F : DFO) : DC := fun ys M Q => asDs ys M fun ds M2 => F ds fun xs => Q (.o M2.length) (M2 ++ [.lst xs])
/-- the list is data -/
def cOP (F : DFO) : DC := cP (toP F)
section
variable {n : Nat} {K : PySem.W.Frag} {Z : Addr → Prop} {η η1 : List Addr} {M M1 : Mem} {H H1 : Hp} {v : V}
theorem own_one {p b : Addr} {xs : List PyData} : Own [p] [.lst xs] b ↔ b = p := by
  constructor
  · rintro ⟨k, c, e1, e2, l⟩
    cases k with
    | zero => exact (Option.some.inj e1).symm
    | succ k => simp at e1
  · rintro rfl
    exact ⟨0, _, rfl, rfl, rfl⟩
theorem cO_ok {F : DFO} : COk K (cO F) (spO K F) := by
  intro Z η M H vs ys Q Qv E r hp hc fin
  obtain ⟨ds, M2, r2, k2, d2, q2⟩ := r.asDs hp hc
  obtain ⟨r0, e0⟩ := r2.in0
  refine ⟨_, ds, _, r0, by rw [e0]; exact d2, q2, fun p xs H' r' k' q' => ?_⟩
  have hp0 : H p = none := by
    cases e : H p with
    | none => rfl
    | some o => exact absurd (own_one.mpr rfl) (k'.kp p o e own_nil).2
  have hG : Sm H (hid' p H') := fun b o e => by
    unfold hid'
    rw [if_neg (ne_of_none e hp0)]
    exact (k'.kp b o e own_nil).1
  obtain ⟨r3, k3⟩ := r2.smNew hG
  have gp : hid' p H' p = none := by unfold hid'; rw [if_pos rfl]
  obtain ⟨us, eu, du⟩ := r'.ok 0 p _ rfl rfl
  have ev : Sm (vis (fun b => Z b ∨ Own η M2 b) [p] [.lst xs] H') (vis Z η M2 (hid' p H')) := fun b o e => by
    obtain ⟨h1, h2, h3⟩ := of_vis e
    have c : b ≠ p := fun q => h3 (own_one.mpr q)
    exact vis_of (by unfold hid'; rw [if_neg c]; exact h1) (fun z => h2 (.inl z)) fun o => h2 (.inr o)
  obtain ⟨r4, k4⟩ := r3.cell (c := .lst xs) (o := .lst us) gp rfl ⟨us, upd_same, DqAll.sm ev du⟩
  have eH : upd (hid' p H') p (.lst us) = H' := by
    funext b
    by_cases c : b = p
    · subst c
      rw [upd_same, eu]
    · rw [upd_ne c]
      unfold hid'
      rw [if_neg c]
  rw [eH] at r4 k4
  exact fin _ _ _ (.o M2.length) H' r4 (k2.trans (k3.trans k4)) ⟨p, by rw [List.getElem?_append_right (by rw [r2.len]; exact Nat.le_refl _), ← r2.len, Nat.sub_self]; rfl, rfl⟩ q'
theorem cOP_ok {F : DFO} : COk K (cOP F) (spO K F) := by
  intro Z η M H vs ys Q Qv E r hp hc fin
  obtain ⟨Z', ds, Qd, r0, d0, q0, f0⟩ := cP_ok (K := K) (F := toP F) Z η M H vs ys Q Qv E r hp hc fin
  refine ⟨Z', ds, fun xs => Qd (.list xs), r0, d0, q0, fun p xs H' r' k' q' => ?_⟩
  obtain ⟨r1, sm, ow⟩ := Rel.drop (η := []) (m := [p]) (M0 := []) r' rfl (fun k c e => by simp at e) fun k ks e => by simp at e
  refine f0 (.ref p) (.list xs) H' r1 ⟨⟨[], rfl⟩, fun b o e n => ⟨(k'.kp b o e n).1, own_nil⟩⟩ ?_ q'
  obtain ⟨us, eu, du⟩ := r'.ok 0 p _ rfl rfl
  have hz : ¬ Z' p := fun z => (r'.z p z).2 (own_one.mpr rfl)
  exact .lst (.of (vis_of eu hz own_nil)) (DqAll.sm sm du)
end
section
variable {P : Program} {w : World} {K : PySem.W.Frag} {mg : Str → Option Value} {base : Heap}
theorem df_O {y x : Str} {st : Stmt} {N ps : List Str} {k : Nat} {F : DFO} (T : StandsA K mg y x st) (S : FnScope N ps (defScope st)) (bd : Bind x st ps)
    (len : ∀ ds Q, F ds Q → ds.length = ps.length)
    (hbody : ∀ (cdv : Value) (A : Around) (outer : List Env) (s : Shared) (H : Hp) (E : XK) (f : Addr), A.guards = some [] →
      Room k (A.deeper (envOfC x (defScope st) s.heap.objs.size f cdv)) →
      ∃ dt, PDSs K (cxOf CX0 P w K mg base N x (defScope st) f cdv A outer s H E).nox (defBody st) dt ∧ ∀ ds Q, F ds Q → dt { nx := fun _ _ => False, rt := fun y M => cellL M y fun _ xs => Q xs } (startD (ds.map DV.d)) []) :
    DfA P w K mg base CX0 (k + 1) y x st ps (spO K F) := by
  refine df_of T S bd (fun vs H Q E h => ?_) (fun cdv A outer s H vs Q E f hG hR h => ?_)
  · obtain ⟨Z, ds, Qd, r, d, q, _⟩ := h
    rw [DqAll.length d]
    exact len _ _ q
  · obtain ⟨dt, h1, h2⟩ := hbody cdv A outer s H E f hG hR
    obtain ⟨Z, ds, Qd, r, d, q, fin⟩ := h
    refine ⟨_, h1 rfl w0 takes0, Z, [], [], _, _, r, slt_start (dqs_den d) (by rw [DqAll.length d, len _ _ q]; exact few_of S), h2 ds Qd q, ?_⟩
    refine ⟨fun _ _ _ _ _ _ _ _ z => z.elim, ?_, fun _ _ _ _ _ _ _ _ z => z.elim, fun _ _ _ _ _ _ _ _ z => z.elim, fun _ _ _ _ _ _ _ _ _ _ _ _ z => z.elim⟩
    intro v η' M' y H' r' k' d' q'
    obtain ⟨j, xs, rfl, em, qx⟩ := cellL_of q'
    obtain ⟨a, ea, rfl⟩ := d'
    have sub : ∀ b, Own [a] [.lst xs] b → Own η' M' b := fun b h => by
      rw [own_one.mp h]
      exact ⟨j, _, ea, em, rfl⟩
    have sm : Sm (vis Z η' M' H') (vis Z [a] [.lst xs] H') := fun b o e => by
      obtain ⟨e1, e2, e3⟩ := of_vis e
      exact vis_of e1 e2 fun q => e3 (sub b q)
    obtain ⟨us, eu, du⟩ := r'.ok j a _ ea em
    refine fin a xs H' ⟨rfl, fun k b c e1 e2 => ?_, fun i k b e1 e2 => ?_, fun b hb => ⟨(r'.z b hb).1, fun q => (r'.z b hb).2 (sub b q)⟩⟩ ⟨⟨[a], rfl⟩, fun b o e n => ⟨(k'.kp b o e n).1, fun q => (k'.kp b o e n).2 (sub b q)⟩⟩ qx
    · cases k with
      | zero =>
        cases e1
        cases e2
        exact ⟨us, eu, DqAll.sm sm du⟩
      | succ k => simp at e1
    · cases i <;> cases k <;> simp_all
end
end Dl
set_option maxHeartbeats 1000000
/-! Data level, 12: dicts. -/
namespace Dl
open PySem PySem.Spec PyProof.Rows L2 Ow
def keyOf : PyData → Option Key
  | .int i => some (.inl i)
  | .str x => some (.inr x)
  | _ => none
/-- a list of pairs, by their keys -/
def pairsK : List PyData → Option (List (Key × PyData))
  | [] => some []
  | .tuple [k, v] :: r => match keyOf k, pairsK r with
    | some k, some m => some ((k, v) :: m)
    | _, _ => none
  | _ => none
def putD (kvs : List (Key × PyData)) (k : Key) (v : PyData) : List (Key × PyData) :=
  if (kvs.any fun kv => decide (kv.1 = k)) = true then kvs.map (fun kv => if kv.1 = k then (kv.1, v) else kv) else kvs ++ [(k, v)]
def mergeD (kvs more : List (Key × PyData)) : List (Key × PyData) := more.foldl (fun acc kv => putD acc kv.1 kv.2) kvs
def valD (kvs : List (Key × PyData)) (k : Key) : Option PyData := (kvs.find? fun kv => decide (kv.1 = k)).map (·.2)
/-- entry by entry -/
def EnD (K : PySem.W.Frag) (W : Hp) (us : List (Key × V)) (kvs : List (Key × PyData)) : Prop := Paired (fun u kv => u.1 = kv.1 ∧ Dq K W u.2 kv.2) us kvs
section
variable {K : PySem.W.Frag} {W H : Hp} {us : List (Key × V)} {kvs : List (Key × PyData)}
theorem EnD.split (h : EnD K W us kvs) : us.map (·.1) = kvs.map (·.1) ∧ DqAll K W (us.map (·.2)) (kvs.map (·.2)) := by
  induction h with
  | nil => exact ⟨rfl, .nil⟩
  | cons a t ih => exact ⟨by rw [List.map_cons, List.map_cons, a.1, ih.1], .cons a.2 ih.2⟩
theorem EnD.of : ∀ {us : List (Key × V)} {kvs : List (Key × PyData)}, us.map (·.1) = kvs.map (·.1) → DqAll K W (us.map (·.2)) (kvs.map (·.2)) → EnD K W us kvs
  | [], [], _, _ => .nil
  | [], _ :: _, h, _ => by cases h
  | _ :: _, [], h, _ => by cases h
  | u :: us, kv :: kvs, h, d => by
    rw [List.map_cons, List.map_cons] at h d
    cases d with
    | cons d1 d2 => exact .cons ⟨(List.cons.inj h).1, d1⟩ (EnD.of (List.cons.inj h).2 d2)
theorem EnD.any (h : EnD K W us kvs) (k : Key) : (us.any fun kv => decide (kv.1 = k)) = kvs.any fun kv => decide (kv.1 = k) := by
  induction h with
  | nil => rfl
  | cons a t ih => rw [List.any_cons, List.any_cons, a.1, ih]
theorem EnD.app {us' : List (Key × V)} {kvs' : List (Key × PyData)} (h : EnD K W us kvs) (h' : EnD K W us' kvs') : EnD K W (us ++ us') (kvs ++ kvs') := by
  induction h with
  | nil => exact h'
  | cons a t ih => exact .cons a ih
theorem EnD.repl (h : EnD K W us kvs) (k : Key) {v : V} {x : PyData} (hv : Dq K W v x) : EnD K W (us.map fun kv => if kv.1 = k then (kv.1, v) else kv) (kvs.map fun kv => if kv.1 = k then (kv.1, x) else kv) := by
  induction h with
  | nil => exact .nil
  | cons a t ih =>
    rw [List.map_cons, List.map_cons]
    refine .cons ?_ ih
    rw [a.1]
    split
    · exact ⟨rfl, hv⟩
    · exact ⟨a.1, a.2⟩
theorem EnD.put (h : EnD K W us kvs) (k : Key) {v : V} {x : PyData} (hv : Dq K W v x) : EnD K W (putK us k v) (putD kvs k x) := by
  unfold putK putD
  rw [h.any]
  split
  · exact h.repl k hv
  · exact h.app (.cons ⟨rfl, hv⟩ .nil)
theorem EnD.merge {more : List (Key × V)} {moreD : List (Key × PyData)} (m : EnD K W more moreD) : ∀ {us : List (Key × V)} {kvs : List (Key × PyData)}, EnD K W us kvs → EnD K W (mergeK us more) (mergeD kvs moreD) := by
  induction m with
  | nil => exact fun h => h
  | cons a t ih =>
    intro us kvs h
    show EnD K W (mergeK (putK us _ _) _) (mergeD (putD kvs _ _) _)
    rw [a.1]
    exact ih (h.put _ a.2)
theorem key_dq {v : V} {x : PyData} {k : Key} (h : Dq K W v x) (e : keyOf x = some k) : v = kV k := by
  cases x with
  | int i =>
    cases e
    exact int_of' h
  | str s =>
    cases e
    exact str_of' h
  | _ => cases e
/-- a list of pairs, in the heap -/
theorem pairs_dq (sm : Sm W H) : ∀ {vs : List V} {xs : List PyData} {kvs : List (Key × PyData)}, DqAll K W vs xs → pairsK xs = some kvs → ∃ (ps : List Addr) (us : List (Key × V)), vs = ps.map V.ref ∧ Paired (fun p kv => SqT K H p [kV kv.1, kv.2]) ps us ∧ EnD K W us kvs := by
  intro vs xs
  induction xs generalizing vs with
  | nil =>
    intro kvs d e
    cases d
    cases e
    exact ⟨[], [], rfl, .nil, .nil⟩
  | cons x xs ih =>
    intro kvs d e
    cases d with
    | cons d1 d2 =>
      unfold pairsK at e
      split at e
      · rename_i e0
        cases e0
      · rename_i k v r e0
        cases e0
        split at e
        · rename_i k' m h1 h2
          cases e
          obtain ⟨ps, us, rfl, q1, q2⟩ := ih d2 h2
          cases d1 with
          | tup s t =>
            cases t with
            | cons t1 t2 =>
              cases t2 with
              | cons t2 t3 =>
                cases t3
                rw [key_dq t1 h1] at s
                exact ⟨_ :: ps, (k', _) :: us, rfl, .cons (SqF.sm s sm).t q1, .cons ⟨rfl, t2⟩ q2⟩
        · cases e
      · cases e
end
/-- dict(list of pairs) -/
def fDictP : DF1
  | .list xs, Q => lk1 (pairsK xs) fun kvs => Q (.c (mergeD [] kvs))
  | _, _ => False
theorem callS_dictP {K : PySem.W.Frag} : CallS K (fun xs H Q => ∃ (a : Addr) (ps : List Addr) (kvs : List (Key × V)), xs = [.ref a] ∧ SqL K H a (ps.map V.ref) ∧ Paired (fun p kv => SqT K H p [kV kv.1, kv.2]) ps kvs ∧ ∀ p, H p = none → Q (.ref p) (upd H p (.dK (mergeK [] kvs)))) (f1 fDictP) := callS_1 fun Z η M H v x Qd Qv r hx h fin => by
  cases x with
  | list xs =>
    obtain ⟨a, vs, rfl, s, t⟩ := hx
    obtain ⟨kvs, e, q⟩ := lk1_of h
    obtain ⟨ps, us, rfl, q1, q2⟩ := pairs_dq vis_sub t e
    refine ⟨a, ps, us, rfl, s, q1, fun p hp => fin (.c (mergeD [] kvs)) _ _ ?_ q⟩
    obtain ⟨m1, m2⟩ := (q2.merge (us := []) (kvs := []) .nil).split
    exact ⟨p, _, rfl, hp, rfl, m1, m2⟩
  | _ => exact h.elim
theorem bi_dictP {K : PySem.W.Frag} {X : Cx} (hc : X.calm = true) : BI K X (.type "dict") (f1 fDictP) := ⟨⟨_, call_dictP hc, fun hK => by subst hK; exact callS_dictP⟩⟩
/-! ### xs[::step], the step 1 or -1 -/
theorem pick_whole (items : Array Value) : slicePick items none none (some 1) = items.toList.toArray := by
  have e : slicePick items none none (some 1) = slicePick items none none none := rfl
  have b : sliceBounds none none none items.size = (((0 : Nat) : Int), ((items.size : Nat) : Int), 1) := by
    simp only [sliceBounds, Option.getD_none, show (1 : Int) > 0 by decide, if_true]
    rfl
  rw [e, PySem.W.kmk_pick_nat items b, List.drop_zero, Nat.sub_zero, ← Array.length_toList, List.take_length]
def kStep (K : PySem.W.Frag) (x : V) (Q : VK) (o : Option Int) (H2 : Hp) : Prop := match o with
  | some i => ∃ a xs, x = .ref a ∧ SqL K H2 a xs ∧ ((i = 1 ∧ ∀ p, H2 p = none → Q (.ref p) (upd H2 p (.lst xs))) ∨ (i = -1 ∧ ∀ p, H2 p = none → Q (.ref p) (upd H2 p (.lst xs.reverse))))
  | none => False
def tStepL (K : PySem.W.Frag) (te ts : TE) : TE := fun σ H Q => te σ H fun x H1 => ts σ H1 fun y H2 => ∃ i, y = .int i ∧ kStep K x Q (some i) H2
theorem pe_stepL {X : Cx} {e st : Expr} {te ts : TE} {p3 pos : Pos} (he : PE X e te) (hs : PE X st ts) : PE X (.Subscript e (.Slice none none (some st) p3) pos) (tStepL X.K te ts) := by
  refine ⟨fun pins s σ H Q I h => ?_⟩
  refine Subscript_ (thn (he.run pins s σ H _ I h) fun v s1 ⟨x, H1, I1, r1, q1⟩ => ?_)
  have hst : PO X (some st) (tPart ts) := po_some hs
  refine wpAny_Slice (thn (po_none.run pins s1 σ H1 (fun o H2 => o = none ∧ H2 = H1) I1 ⟨rfl, rfl⟩) fun vl s2 ⟨l, H2, I2, pl, el, e2⟩ => ?_)
  subst el e2
  refine thn (po_none.run pins s2 σ H2 (fun o H3 => o = none ∧ H3 = H2) I2 ⟨rfl, rfl⟩) fun vu s3 ⟨u, H3, I3, pu, eu, e3⟩ => ?_
  subst eu e3
  refine thn (hst.run pins s3 σ H3 (kStep X.K x Q) I3 q1) fun vs s4 ⟨o, H4, I4, ps, eo⟩ => ?_
  cases o with
  | none => exact eo.elim
  | some i =>
  obtain ⟨a, xs, ex, hx, q⟩ := eo
  subst ex
  cases r1
  have I5 : Inv X pins σ H4 { s4 with heap := s4.heap.push { cls := .type "slice", data := .fields #[vl, vu, vs] } } := I4.kept (t' := s4.toks) fun b ob q => Heap.get?_push_of_some _ q
  obtain ⟨its, r, ht, hz⟩ := I5.list hx
  have hlen := r.length
  show wpAny (model X.prog X.w) X.A (subscriptTail e (.Slice none none (some st) p3) (.ref a) (.ref s4.heap.objs.size)) (EP X pins σ Q) X.xe { s4 with heap := s4.heap.push { cls := .type "slice", data := .fields #[vl, vu, vs] } }
  refine tail_any (ops := [.ref a, .ref s4.heap.objs.size]) ht.isList.typeIs (PySem.slot_list_getitem.lookup) ?_ (by with_unfolding_all rfl)
  rcases q with ⟨e1, q⟩ | ⟨e1, q⟩
  · subst e1
    refine wpAny_getItem_list_slice ht.isList (Heap.IsSliceOf.new _ vl vu vs) pl pu ps (by decide) ?_ (by rw [List.size_toArray]; omega)
    rw [pick_whole]
    refine ⟨.ref _, _, I5.laid (t' := s4.toks) (o := .lst xs) (fun b ob q => Heap.get?_push_of_some _ q) (Nat.le_refl _) ?_, rfl, q _ (I5.hok.fresh (Nat.le_refl _))⟩
    exact ⟨hz, _, 0, r, Heap.get?_push_size _ rfl⟩
  · subst e1
    refine wpAny_getItem_list_slice ht.isList (Heap.IsSliceOf.new _ vl vu vs) pl pu ps (by decide) ?_ (by rw [List.size_toArray]; omega)
    rw [PySem.W.krv_pick]
    refine ⟨.ref _, _, I5.laid (t' := s4.toks) (o := .lst xs.reverse) (fun b ob q => Heap.get?_push_of_some _ q) (Nat.le_refl _) ?_, rfl, q _ (I5.hok.fresh (Nat.le_refl _))⟩
    exact ⟨by rw [List.length_reverse]; exact hz, _, 0, r.reverse, Heap.get?_push_size _ rfl⟩
def dStep (own : Bool) (da db : DE) : DE := fun ε M Q => da ε M fun y M1 => db ε M1 fun z M2 => match z with
  | .d (.int i) => lk (look M2 y) fun x => match x with
    | .list xs => (i = 1 ∧ born own (.l xs) M2 Q) ∨ (i = -1 ∧ born own (.l xs.reverse) M2 Q)
    | _ => False
  | _ => False
theorem pd_stepL {K : PySem.W.Frag} {X : Cx} {e st : Expr} {da db : DE} {p3 pos : Pos} (own : Bool) (he : PD K X e da) (hs : PD K X st db) : PD K X (.Subscript e (.Slice none none (some st) p3) pos) (dStep own da db) := fun hK =>
  PE.weak (pe_stepL (he hK) (hs hK)) fun σ H Q ⟨Z, η, M, ε, Qd, r, s, q, fin⟩ => ⟨Z, η, M, ε, _, r, s, q, fun v1 η1 M1 y1 H1 r1 k1 d1 q1 => ⟨Z, η1, M1, ε, _, r1, s.keep k1, q1, fun v2 η2 M2 y2 H2 r2 k2 d2 q2 => by
    cases y2 with
    | o k => exact q2.elim
    | d z =>
      cases z with
      | int i =>
        obtain ⟨x, ex, q3⟩ := lk_of q2
        have tp := r2.top (d1.keep k2) ex
        subst hK
        refine ⟨i, int_of' (W := vis Z η2 M2 H2) d2, ?_⟩
        cases x with
        | list xs =>
          obtain ⟨a, vs, rfl, sq, t⟩ := tp
          have kk := k1.trans k2
          refine ⟨a, vs, rfl, sq, q3.elim (fun q3 => .inl ⟨q3.1, fun p hp => ?_⟩) fun q3 => .inr ⟨q3.1, fun p hp => ?_⟩⟩
          · obtain ⟨η', M', z, r', k', d', q'⟩ := born_ok r2 (rr := .l xs) ⟨p, _, rfl, hp, rfl, t⟩ q3.2
            exact fin _ η' M' z _ r' (kk.trans k') d' q'
          · obtain ⟨η', M', z, r', k', d', q'⟩ := born_ok r2 (rr := .l xs.reverse) ⟨p, _, rfl, hp, rfl, DqAll.reverse t⟩ q3.2
            exact fin _ η' M' z _ r' (kk.trans k') d' q'
        | _ => exact q3.elim
      | _ => exact q2.elim⟩⟩
end Dl
set_option maxHeartbeats 1000000
/-! Data level, 13: repr of data with dicts in it. -/
namespace Dl
open PySem PySem.Spec PyProof.Rows L2 Ow
/-- the text of u under a state that keeps h -/
def ShC (P : Program) (w : World) (h : Heap) (u : Value) (d : PyData) : Prop := ∀ (A : Around) (E : Value → Shared → Prop) (s : Shared) (Q : Value → Shared → Prop), A.guards = some [] → A.units + (d.depth + 1) < cLine → (∀ b o, h.get? b = some o → s.heap.get? b = some o) →
  (∀ (h' : Heap) (t : Tok) (tk : Nat), (∀ b o, s.heap.get? b = some o → h'.get? b = some o) → Q (.str d.shown t) { s with heap := h', toks := tk }) → wpAny (model P w) A (call (.builtin "repr") [u]) Q E s
structure Sh (P : Program) (w : World) (h : Heap) (u : Value) (d : PyData) : Prop where
  ex : ∃ as bs, Reads h u d as ∧ ReadAtMost h d.depth bs ∧ ReprK P w bs h d.depth u d.shown
  cl : ShC P w h u d
structure ShL (P : Program) (w : World) (h : Heap) (us : List Value) (ds : List PyData) : Prop where
  ex : ∃ as bs, ReadsAll h us ds as ∧ ReadAtMost h (PyData.depthAll ds) bs ∧ ReprAllK P w bs h (PyData.depthAll ds) us (PyData.shownAll ds)
section
variable {P : Program} {w : World} {h : Heap} {a : Addr} {o : Obj} {us : List Value} {n : Nat} {xs : List PyData}
theorem sh_leaf {u : Value} {d : PyData} (r : Reads h u d []) (i : ReprIs P w u d.shown) (c : ShC P w h u d) : Sh P w h u d := ⟨⟨_, [], r, (fun b hb => nomatch hb), ReprK.of_is i [] h d.depth⟩, c⟩
theorem sh_list (g : h.get? a = some o) (k : o.cls = .type "list") (s : o.data = .seq us.toArray n) (t : ShL P w h us xs) (z : (PyData.list xs).shown.length ≤ sizeLine) : Sh P w h (.ref a) (.list xs) := by
  obtain ⟨as, bs, r, m, q⟩ := t.ex
  have R : Reads h (.ref a) (.list xs) (a :: as) := Reads.list g k s (by simpa using r)
  have dp : PyData.depthAll xs < (PyData.list xs).depth := by simp only [PyData.depth]; omega
  have na := not_mem_of_deeper R dp m
  have z2 : (listText (PyData.shownAll xs)).length ≤ sizeLine := by simpa only [PyData.shown] using z
  cases us with
  | nil =>
    cases r
    refine ⟨⟨_, [], R, (fun b hb => nomatch hb), ?_⟩, ?_⟩
    · simp only [PyData.shown, PyData.shownAll, listText_nil]
      exact ReprK.listEmpty g k s
    · intro A E s' Q hg hu hk hQ
      simp only [PyData.shown, PyData.shownAll, listText_nil] at hQ
      simp only [PyData.depth] at hu
      refine call_repr_slot (by omega) ⟨o, hk a o g, k⟩ F.slot_list_repr.toG ?_
      exact call_list_repr_empty ⟨o, hk a o g, k⟩ (hk a o g) s ⟨_, _, rfl, hQ s'.heap _ _ fun _ _ e => e⟩
  | cons u us =>
    have lt := q.length_eq
    have it := fun i (y : Value) (e : (u :: us).toArray[i]? = some y) => q.item i y (by simpa using e)
    refine ⟨⟨_, a :: bs, R, ReadAtMost.cons R (Nat.le_refl _) (m.mono (Nat.le_of_lt dp)), ?_⟩, ?_⟩
    · simp only [PyData.shown, PyData.depth]
      exact ReprK.list g k s na (by simpa using lt) it
    · intro A E s' Q hg hu hk hQ
      simp only [PyData.shown] at hQ
      simp only [PyData.depth] at hu
      refine call_repr_slot (by omega) ⟨o, hk a o g, k⟩ F.slot_list_repr.toG ?_
      exact call_list_reprK g k s na (by simpa using lt) it (A := A.in1) hg (fun b _ => Clear.nil b) (by show A.units + 1 + _ < _; omega) hk (fun h' t tk e => ⟨_, _, rfl, hQ h' t tk e⟩) z2
theorem sh_tuple (g : h.get? a = some o) (k : o.cls = .type "tuple") (s : o.data = .seq us.toArray n) (t : ShL P w h us xs) (z : (PyData.tuple xs).shown.length ≤ sizeLine) : Sh P w h (.ref a) (.tuple xs) := by
  obtain ⟨as, bs, r, m, q⟩ := t.ex
  have R : Reads h (.ref a) (.tuple xs) as := Reads.tuple g k s (by simpa using r)
  have dp : PyData.depthAll xs < (PyData.tuple xs).depth := by simp only [PyData.depth]; omega
  have na := not_mem_of_deeper R dp m
  have z2 : (tupleText (PyData.shownAll xs)).length ≤ sizeLine := by simpa only [PyData.shown] using z
  have q2 : ReprAllK P w bs h (PyData.depthAll xs) us.toArray.toList (PyData.shownAll xs) := by simpa using q
  refine ⟨⟨_, a :: bs, R, ReadAtMost.cons R (Nat.le_refl _) (m.mono (Nat.le_of_lt dp)), ?_⟩, ?_⟩
  · simp only [PyData.shown, PyData.depth]
    exact ReprK.tuple g k s na q2
  · intro A E s' Q hg hu hk hQ
    simp only [PyData.shown] at hQ
    simp only [PyData.depth] at hu
    refine call_repr_slot (by omega) ⟨o, hk a o g, k⟩ F.slot_tuple_repr ?_
    exact call_tuple_reprK g k s na q2 (A := A.in1) hg (fun b _ => Clear.nil b) (by show A.units + 1 + _ < _; omega) hk (fun h' t tk e => ⟨_, _, rfl, hQ h' t tk e⟩) z2
theorem sh_dict {es : Array DictEntry} {kvs : List (PyData × PyData)} (g : h.get? a = some o) (k : o.cls = .type "dict") (s : o.data = .dict es n) (lo : (a == sysModules) = false)
    (t1 : ShL P w h (es.toList.map (·.key)) (kvs.map (·.1))) (t2 : ShL P w h (es.toList.map (·.val)) (kvs.map (·.2))) (z : (PyData.dict kvs).shown.length ≤ sizeLine) : Sh P w h (.ref a) (.dict kvs) := by
  obtain ⟨as, bs, r, m, q⟩ := t1.ex
  obtain ⟨as', bs', r', m', q'⟩ := t2.ex
  have R : Reads h (.ref a) (.dict kvs) (a :: as ++ as') := Reads.dict g k s r r'
  have dp : PyData.depthKv kvs < (PyData.dict kvs).depth := by simp only [PyData.depth]; omega
  have d1 := PyData.depthAll_keys_le kvs
  have d2 := PyData.depthAll_vals_le kvs
  have mm : ReadAtMost h (PyData.depthKv kvs) (bs ++ bs') := (m.mono d1).append (m'.mono d2)
  have na := not_mem_of_deeper R dp mm
  have en := ReprEntriesK.of_two es.toList _ _ (q.more_le (fun b hb => List.mem_append.mpr (.inl hb)) d1) (q'.more_le (fun b hb => List.mem_append.mpr (.inr hb)) d2)
  have z2 : (dictText (PyData.shownKv kvs)).length ≤ sizeLine := by simpa only [PyData.shown] using z
  rw [← PyData.shownKv_eq] at en
  refine ⟨⟨_, a :: (bs ++ bs'), R, ReadAtMost.cons R (Nat.le_refl _) (mm.mono (Nat.le_of_lt dp)), ?_⟩, ?_⟩
  · simp only [PyData.shown, PyData.depth]
    exact ReprK.dict g k s lo na en
  · intro A E s' Q hg hu hk hQ
    simp only [PyData.shown] at hQ
    simp only [PyData.depth] at hu
    refine call_repr_slot (by omega) ⟨o, hk a o g, k⟩ F.slot_dict_repr ?_
    exact call_dict_reprK g k s lo na en (A := A.in1) hg (fun b _ => Clear.nil b) (by show A.units + 1 + _ < _; omega) hk (fun h' t tk e => ⟨_, _, rfl, hQ h' t tk e⟩) z2
theorem ShL.nil : ShL P w h [] [] := ⟨⟨[], [], .nil, (fun b hb => nomatch hb), .nil⟩⟩
theorem ShL.cons {u : Value} {d : PyData} (a : Sh P w h u d) (t : ShL P w h us xs) : ShL P w h (u :: us) (d :: xs) := by
  obtain ⟨as, bs, r, m, q⟩ := a.ex
  obtain ⟨as', bs', r', m', q'⟩ := t.ex
  have e : PyData.depthAll (d :: xs) = max d.depth (PyData.depthAll xs) := by simp only [PyData.depthAll]
  refine ⟨⟨as ++ as', bs ++ bs', .cons r r', ?_, ?_⟩⟩
  · rw [e]
    exact (m.mono (Nat.le_max_left ..)).append (m'.mono (Nat.le_max_right ..))
  · rw [e]
    simp only [PyData.shownAll]
    exact .cons ((q.more fun b hb => List.mem_append.mpr (.inl hb)).level_le (Nat.le_max_left ..)) (q'.more_le (fun b hb => List.mem_append.mpr (.inr hb)) (Nat.le_max_right ..))
end
section
variable {X : Cx} {pins : List (Addr × Obj)} {σ : L2.St} {H : Hp} {s : Shared}
theorem shown_part : ∀ {xs : List PyData} {x : PyData}, x ∈ xs → x.shown ∈ PyData.shownAll xs
  | y :: ys, x, m => by
    simp only [PyData.shownAll]
    rcases List.mem_cons.mp m with e | e
    · rw [e]
      exact List.mem_cons_self
    · exact List.mem_cons_of_mem _ (shown_part e)
  | [], x, m => nomatch m
theorem shw_part : ∀ {xs : List PyData}, PyData.showableAll xs = true → ∀ x ∈ xs, x.showable = true
  | y :: ys, m, x, hx => by
    simp only [PyData.showableAll, Bool.and_eq_true] at m
    rcases List.mem_cons.mp hx with e | e
    · rw [e]
      exact m.1
    · exact shw_part m.2 x e
  | [], _, x, hx => nomatch hx
theorem zip_fst {α β : Type} : ∀ {xs : List α} {ys : List β}, xs.length = ys.length → (xs.zip ys).map (·.1) = xs
  | [], [], _ => rfl
  | x :: xs, y :: ys, e => by rw [List.zip_cons_cons, List.map_cons, zip_fst (by simpa using e)]
theorem zip_snd {α β : Type} : ∀ {xs : List α} {ys : List β}, xs.length = ys.length → (xs.zip ys).map (·.2) = ys
  | [], [], _ => rfl
  | x :: xs, y :: ys, e => by rw [List.zip_cons_cons, List.map_cons, zip_snd (by simpa using e)]
theorem sh_int {i : Int} {t : Tok} (hs : i.natAbs.log2 < 1920) : Sh X.prog X.w s.heap (.int i t) (.int i) :=
  sh_leaf (.int i t) (by simp only [PyData.shown]; exact ReprIs.int t hs) fun A E s' Q hg hu hk hQ => PySem.P.repr_of_int hs (by simp only [PyData.shown] at hQ; exact hQ _ _ _ fun _ _ e => e)
theorem sh_str {x : Str} {t : Tok} (hz : (PyData.str x).shown.length ≤ sizeLine) : Sh X.prog X.w s.heap (.str x t) (.str x) := by
  simp only [PyData.shown] at hz
  exact sh_leaf (.str x t) (by simp only [PyData.shown]; exact ReprIs.str x t hz) fun A E s' Q hg hu hk hQ => PySem.P.repr_of_str (by simp only [PyData.shown] at hQ; exact hQ _ _ _ fun _ _ e => e) hz
theorem sh_key {k : Key} {u : Value} (e : keyIs k u = true) (hs : (kD k).showable = true) (hz : (kD k).shown.length ≤ sizeLine) : Sh X.prog X.w s.heap u (kD k) := by
  rcases keyIs_shape e with ⟨i, t, rfl, rfl⟩ | ⟨x, t, rfl, rfl⟩
  · have hs : (PyData.int i).showable = true := hs
    exact sh_int (by simpa [PyData.showable] using hs)
  · exact sh_str hz
theorem shL_keys : ∀ {es : List DictEntry} {vs : List (Key × Value)}, Pairs (mixKind X.prog X.w) es vs → (∀ k ∈ vs.map (·.1), (kD k).showable = true ∧ (kD k).shown.length ≤ sizeLine) → ShL X.prog X.w s.heap (es.map (·.key)) (vs.map fun kv => kD kv.1)
  | _, _, .nil, _ => .nil
  | _, _, .cons h1 h2 h3, hs => .cons (sh_key h1 (hs _ List.mem_cons_self).1 (hs _ List.mem_cons_self).2) (shL_keys h3 fun k hk => hs k (List.mem_cons_of_mem _ hk))
theorem pairs_vals : ∀ {es : List DictEntry} {vs : List (Key × Value)}, Pairs (mixKind X.prog X.w) es vs → es.map (·.val) = vs.map (·.2)
  | _, _, .nil => rfl
  | _, _, .cons h1 h2 h3 => by rw [List.map_cons, List.map_cons, pairs_vals h3, h2]
theorem kv_vals : ∀ {kvs : List (Key × V)} {vs : List (Key × Value)}, KV kvs vs → Vals (kvs.map (·.2)) (vs.map (·.2))
  | _, _, .nil => .nil
  | _, _, .cons q t => .cons q.2 (kv_vals t)
mutual
theorem sh_dq (I : Inv X pins σ H s) : ∀ {v : V} {u : Value} {d : PyData}, Dq X.K H v d → RelV v u → d.showable = true → d.shown.length ≤ sizeLine → Sh X.prog X.w s.heap u d
  | _, u, _, .non, r, hs, hz => by
    cases r
    exact sh_leaf .none ReprIs.none fun A E s' Q hg hu hk hQ => PySem.P.repr_of_none (hQ _ _ _ fun _ _ e => e)
  | _, u, _, .bl b, r, hs, hz => by
    cases r
    exact sh_leaf (.bool b) (ReprIs.bool b) fun A E s' Q hg hu hk hQ => PySem.P.repr_of_bool (hQ _ _ _ fun _ _ e => e)
  | _, u, _, .int i, r, hs, hz => by
    obtain ⟨t, rfl⟩ := r
    exact sh_int (by simpa [PyData.showable] using hs)
  | _, u, _, .str x, r, hs, hz => by
    obtain ⟨t, rfl⟩ := r
    exact sh_str hz
  | _, u, _, .lst (a := a) (xs := vs) (ds := ds) q t, r, hs, hz => by
    obtain rfl : u = .ref a := r
    obtain ⟨its, rv, ⟨o, n, h1, h2, _, h3⟩, _⟩ := I.list q
    have hz2 : (listText (PyData.shownAll ds)).length ≤ sizeLine := by simpa only [PyData.shown] using hz
    exact sh_list h1 h2 h3 (shL_dq I t rv (by simpa only [PyData.showable] using hs) fun x hx => Nat.le_trans (listText_mem_le (shown_part hx)) hz2) hz
  | _, u, _, .tup (a := a) (xs := vs) (ds := ds) q t, r, hs, hz => by
    obtain rfl : u = .ref a := r
    obtain ⟨its, rv, ⟨o, h1, h2, n, h3⟩, _⟩ := I.tuple q.t
    have hz2 : (tupleText (PyData.shownAll ds)).length ≤ sizeLine := by simpa only [PyData.shown] using hz
    exact sh_tuple h1 h2 h3 (shL_dq I t rv (by simpa only [PyData.showable] using hs) fun x hx => Nat.le_trans (tupleText_mem_le (shown_part hx)) hz2) hz
  | _, u, _, .dct (a := a) (kvs := kvs) (ds := ds) q t, r, hs, hz => by
    obtain rfl : u = .ref a := r
    obtain ⟨_, lo, vs, rel, o, es, n, h1, h2, h3, _, pr, _⟩ := dk_rd I.hok q
    have ln : (kvs.map fun kv => kD kv.1).length = ds.length := by
      have := DqAll.length t
      rw [List.length_map] at this ⊢
      exact this
    have hz2 : (dictText (PyData.shownKv ((kvs.map fun kv => kD kv.1).zip ds))).length ≤ sizeLine := by simpa only [PyData.shown] using hz
    obtain ⟨s1, s2⟩ := PyData.showableKv_split _ (by simpa only [PyData.showable] using hs)
    rw [zip_fst ln] at s1
    rw [zip_snd ln] at s2
    have ks : (vs.map fun kv => kD kv.1) = kvs.map fun kv => kD kv.1 := by
      have := KV.keys rel
      have e1 : (vs.map fun kv => kD kv.1) = (vs.map (·.1)).map kD := by rw [List.map_map]; rfl
      have e2 : (kvs.map fun kv => kD kv.1) = (kvs.map (·.1)).map kD := by rw [List.map_map]; rfl
      rw [e1, e2, this]
    refine sh_dict h1 h2.1 h3 lo ?_ ?_ hz
    · rw [zip_fst ln, ← ks]
      refine shL_keys pr fun k hk => ?_
      have hm : kD k ∈ kvs.map fun kv => kD kv.1 := by
        rw [← ks]
        obtain ⟨kv, h5, rfl⟩ := List.mem_map.mp hk
        exact List.mem_map.mpr ⟨kv, h5, rfl⟩
      refine ⟨shw_part s1 _ hm, ?_⟩
      obtain ⟨p, hp, hl⟩ := PyData.shownKv_key_le ((kvs.map fun kv => kD kv.1).zip ds) (kD k).shown (by rw [zip_fst ln]; exact shown_part hm)
      exact Nat.le_trans hl (Nat.le_trans (dictText_mem_le hp) hz2)
    · rw [zip_snd ln]
      refine shL_dq I t (by rw [pairs_vals pr]; exact kv_vals rel) s2 fun x hx => ?_
      obtain ⟨p, hp, hl⟩ := PyData.shownKv_val_le ((kvs.map fun kv => kD kv.1).zip ds) x.shown (by rw [zip_snd ln]; exact shown_part hx)
      exact Nat.le_trans hl (Nat.le_trans (dictText_mem_le hp) hz2)
theorem shL_dq (I : Inv X pins σ H s) : ∀ {vs : List V} {us : List Value} {ds : List PyData}, DqAll X.K H vs ds → Vals vs us → PyData.showableAll ds = true → (∀ x ∈ ds, x.shown.length ≤ sizeLine) → ShL X.prog X.w s.heap us ds
  | _, _, _, .nil, .nil, _, _ => .nil
  | _, _, _, .cons h t, .cons r rs, hs, hz => by
    simp only [PyData.showableAll, Bool.and_eq_true] at hs
    exact .cons (sh_dq I h r hs.1 (hz _ List.mem_cons_self)) (shL_dq I t rs hs.2 fun x hx => hz x (List.mem_cons_of_mem _ hx))
end
end
/-- data that can be shown, dicts too -/
def CanD (d : PyData) : Prop := d.showable = true ∧ d.depth ≤ 60 ∧ d.shown.length ≤ sizeLine
theorem Can.d {d : PyData} (h : Can d) : CanD d := h.2
def rShowD (K : PySem.W.Frag) : List V → Hp → VK → Prop := fun xs H Q => ∃ (v : V) (d : PyData), xs = [v] ∧ Dq K H v d ∧ CanD d ∧ Q (.str d.shown) H
theorem call_showD {X : Cx} (hu : X.A.units + 64 < cLine) (hg : X.A.guards = some []) : CallR X (.builtin "repr") (rShowD X.K) := by
  intro pins s σ H xs us Q I r h
  obtain ⟨v, d, rfl, hd, ⟨h1, h2, h3⟩, q⟩ := h
  obtain ⟨u, rfl, ru⟩ := vals1 r
  exact (sh_dq I hd ru h1 h3).cl X.A X.xe s _ hg (by omega) (fun _ _ e => e) fun h' t tk hk => ⟨.str d.shown, H, I.kept hk, ⟨t, rfl⟩, q⟩
def fReprD : DF1 := fun x Q => CanD x ∧ Q (.v (.str x.shown))
theorem callS_reprD {K : PySem.W.Frag} : CallS K (rShowD K) (f1 fReprD) := callS_1 fun Z η M H v x Qd Qv r hx h fin =>
  ⟨v, x, rfl, hx.dq vis_sub, h.1, fin (.v (.str x.shown)) _ _ (ResOk.sc r (.str _)) h.2⟩
theorem bi_reprD {K : PySem.W.Frag} {X : Cx} (hu : X.A.units + 64 < cLine) (hg : X.A.guards = some []) : BI K X (.builtin "repr") (f1 fReprD) := ⟨⟨_, call_showD hu hg, callS_K (r := rShowD) callS_reprD⟩⟩
/-! ### what can be shown -/
structure Vw (k n : Nat) (d : PyData) : Prop where
  shw : d.showable = true
  leaf : d.leavesShort 40 = true
  dep : d.depth ≤ k
  blk : d.bulk ≤ n
structure VwAll (k n : Nat) (ds : List PyData) : Prop where
  shw : PyData.showableAll ds = true
  leaf : PyData.leavesShortAll 40 ds = true
  dep : PyData.depthAll ds ≤ k
  blk : PyData.bulkAll ds ≤ n
theorem Vw.of {k n : Nat} {d : PyData} (h : Ow.Shows k n d) : Vw k n d := ⟨h.shw, h.leaf, h.dep, h.blk⟩
theorem Vw.can {k n : Nat} {d : PyData} (h : Vw k n d) (hk : k ≤ 60) (hn : n ≤ 300000) : CanD d := by
  refine ⟨h.shw, Nat.le_trans h.dep hk, ?_⟩
  have := PyData.shown_le_bulk 40 (by decide) d h.leaf
  have := h.blk
  rw [sizeLine_eq]
  omega
theorem Vw.mono {k n k' n' : Nat} {d : PyData} (h : Vw k n d) (hk : k ≤ k') (hn : n ≤ n') : Vw k' n' d := ⟨h.shw, h.leaf, Nat.le_trans h.dep hk, Nat.le_trans h.blk hn⟩
theorem VwAll.nil : VwAll 0 0 [] := ⟨rfl, rfl, Nat.le_refl _, Nat.le_refl _⟩
theorem VwAll.mono {k n k' n' : Nat} {d : List PyData} (h : VwAll k n d) (hk : k ≤ k') (hn : n ≤ n') : VwAll k' n' d := ⟨h.shw, h.leaf, Nat.le_trans h.dep hk, Nat.le_trans h.blk hn⟩
theorem VwAll.cons {k j a b : Nat} {d : PyData} {ds : List PyData} (h : Vw k a d) (t : VwAll j b ds) : VwAll (max k j) (a + 1 + b) (d :: ds) := by
  have h1 := h.dep
  have h2 := t.dep
  have h3 := h.blk
  have h4 := t.blk
  refine ⟨?_, ?_, ?_, ?_⟩
  · simp only [PyData.showableAll, h.shw, t.shw, Bool.and_self]
  · simp only [PyData.leavesShortAll, h.leaf, t.leaf, Bool.and_self]
  · simp only [PyData.depthAll]
    omega
  · simp only [PyData.bulkAll]
    omega
theorem VwAll.of {k m : Nat} : ∀ {ds : List PyData}, (∀ d ∈ ds, Vw k m d) → VwAll k (ds.length * (m + 1)) ds
  | [], _ => VwAll.nil.mono (Nat.zero_le _) (Nat.zero_le _)
  | d :: ds, h => by
    have t := VwAll.of fun x hx => h x (List.mem_cons_of_mem _ hx)
    refine (VwAll.cons (h d List.mem_cons_self) t).mono (by omega) ?_
    rw [List.length_cons, Nat.add_mul]
    omega
theorem Vw.list {k n : Nat} {ds : List PyData} (h : VwAll k n ds) : Vw (k + 1) n (.list ds) := by
  refine ⟨?_, ?_, ?_, ?_⟩
  · simpa only [PyData.showable] using h.shw
  · simpa only [PyData.leavesShort] using h.leaf
  · simpa only [PyData.depth] using Nat.succ_le_succ h.dep
  · simpa only [PyData.bulk] using h.blk
theorem Vw.tuple {k n : Nat} {ds : List PyData} (h : VwAll k n ds) : Vw (k + 1) n (.tuple ds) := by
  refine ⟨?_, ?_, ?_, ?_⟩
  · simpa only [PyData.showable] using h.shw
  · simpa only [PyData.leavesShort] using h.leaf
  · simpa only [PyData.depth] using Nat.succ_le_succ h.dep
  · simpa only [PyData.bulk] using h.blk
theorem Vw.int {i : Int} (h0 : -(10 ^ 38) < i) (h1 : i < 10 ^ 38) : Vw 0 0 (.int i) := .of (Ow.Shows.int h0 h1)
theorem Vw.none : Vw 0 0 .none := .of Ow.Shows.none
theorem Vw.bool (b : Bool) : Vw 0 0 (.bool b) := .of (Ow.Shows.bool b)
theorem Vw.dict0 : Vw 1 0 (.dict []) := ⟨rfl, rfl, Nat.le_refl _, Nat.le_refl _⟩
/-- a short text of plain signs -/
theorem Vw.str {x : Str} (h : x.cps.size ≤ 20) (h2 : (PyData.str x).leavesShort 40 = true) : Vw 0 20 (.str x) := by
  refine ⟨rfl, h2, Nat.zero_le _, ?_⟩
  simp only [PyData.bulk]
  omega
end Dl
set_option maxHeartbeats 1000000
/-! Data level, 14: x[::-1] of a list or a tuple, a tuple times a number, {}. -/
namespace Dl
open PySem PySem.Spec PyProof.Rows L2 Ow
section
variable {prog : Program} {w : World} {A : Around} {E : Value → Shared → Prop} {s : Shared}
theorem adjust_back (n : Nat) : Builtin.Slice.sliceAdjust none none (-1) (n : Int) = ((n : Int) - 1, -1) := rfl
theorem places_back (n : Nat) : Builtin.Slice.slicePlaces ((n : Int) - 1) (-1) (-1) = n := by
  unfold Builtin.Slice.slicePlaces
  have h0 : ¬ ((-1 : Int) > 0) := by decide
  have h1 : ((n : Int) - 1 - -1 - 1) / - -1 = (n : Int) - 1 := by
    rw [Int.neg_neg, Int.ediv_one]
    omega
  simp only [h0, if_false, h1]
  split <;> omega
theorem pick_back (xs : List Value) : ((List.range xs.length).filterMap fun (m : Nat) => xs.toArray[(((xs.length : Int) - 1) + (m : Int) * (-1)).toNat]?).toArray = xs.reverse.toArray := by
  congr 1
  have e : ∀ m ∈ List.range xs.length, xs.toArray[(((xs.length : Int) - 1) + (m : Int) * (-1)).toNat]? = xs.reverse[m]? := fun m hm => by
    have hm := List.mem_range.mp hm
    have e1 : (((xs.length : Int) - 1) + (m : Int) * (-1)).toNat = xs.length - 1 - m := by omega
    rw [e1, List.getElem?_toArray, List.getElem?_reverse hm]
  have key : ∀ (l : List Nat) (f g : Nat → Option Value), (∀ m ∈ l, f m = g m) → l.filterMap f = l.filterMap g := fun l f g h => by
    induction l with
    | nil => rfl
    | cons a l ih =>
      rw [List.filterMap_cons, List.filterMap_cons, h a List.mem_cons_self, ih fun m hm => h m (List.mem_cons_of_mem _ hm)]
  rw [key _ _ _ e]
  have key2 : ∀ (ys : List Value), (List.range ys.length).filterMap (fun m => ys[m]?) = ys := fun ys => by
    have : (List.range ys.length).filterMap (fun m => ys[m]?) = (List.range ys.length).filterMap (fun m => (some (ys.getD m .none))) := key _ _ _ fun m hm => by
      rw [List.getD_eq_getElem?_getD, List.getElem?_eq_getElem (List.mem_range.mp hm)]
      rfl
    rw [this]
    refine List.ext_getElem? fun i => ?_
    rw [List.filterMap_eq_map', List.getElem?_map]
    by_cases hi : i < ys.length
    · rw [List.getElem?_range hi, List.getElem?_eq_getElem hi]
      simp [hi]
    · rw [List.getElem?_eq_none (by simpa using hi), List.getElem?_eq_none (by omega)]
      rfl
  have := key2 xs.reverse
  rwa [List.length_reverse] at this
theorem applied_back {q : Addr} {v1 v2 v3 : Value} {n : Nat} {Q : Int × Int × Nat → Shared → Prop} (g : s.heap.IsSliceOf q v1 v2 v3) (p1 : IsPart v1 none) (p2 : IsPart v2 none) (p3 : IsPart v3 (some (-1)))
    (h : Q ((n : Int) - 1, -1, n) s) : wpAny (model prog w) A (Builtin.Slice.sliceApplied (.ref q) (pure (n : Int))) Q E s := by
  obtain ⟨ob, g1, g2, g3⟩ := id g
  unfold Builtin.Slice.sliceApplied Builtin.Slice.sliceFields
  refine wpAny_bind (wpAny_bind (wpAny_field g1 g3 (x := v1) rfl (wpAny_bind (wpAny_field g1 g3 (x := v2) rfl (wpAny_bind (wpAny_field g1 g3 (x := v3) rfl (wpAny_pure ?_)))))))
  refine wpAny_bind (HT.slicePart_ p3 ?_)
  show wpAny _ _ (if ((-1 : Int) == 0) = true then _ else _) _ _ s
  rw [if_neg (by decide)]
  refine wpAny_bind (HT.slicePart_ p1 (wpAny_bind (HT.slicePart_ p2 (wpAny_bind (wpAny_pure ?_)))))
  show wpAny _ _ (match Builtin.Slice.sliceAdjust none none (-1) (n : Int) with | (l, u) => pure (l, (-1 : Int), Builtin.Slice.slicePlaces l u (-1))) _ _ s
  rw [adjust_back n]
  show wpAny _ _ (pure ((n : Int) - 1, (-1 : Int), Builtin.Slice.slicePlaces ((n : Int) - 1) (-1) (-1))) _ _ s
  rw [places_back]
  exact wpAny_pure h
theorem tuple_back {t q : Addr} {xs : List Value} {v1 v2 v3 : Value} {Q : Value → Shared → Prop} (ht : IsTup s.heap t xs.toArray) (g : s.heap.IsSliceOf q v1 v2 v3) (p1 : IsPart v1 none) (p2 : IsPart v2 none) (p3 : IsPart v3 (some (-1)))
    (h : Q (.ref s.heap.objs.size) { s with heap := s.heap.push { cls := .type "tuple", data := .seq xs.reverse.toArray } }) (hz : xs.length ≤ sizeLine) : wpAny (model prog w) A (getItem (.ref t) (.ref q)) Q E s := by
  have room : sizeOk (.seq xs.reverse.toArray) := by
    show xs.reverse.toArray.size ≤ sizeLine
    rw [List.size_toArray, List.length_reverse]
    exact hz
  obtain ⟨ob, g1, g2, g3⟩ := id g
  have ty : s.TypeIs (.ref q) "slice" := ⟨ob, g1, g2⟩
  unfold getItem
  try with_reducible refine wpAny_holding ?_
  first | refine wpAny_bind (wpAny_pure ?_) | skip
  refine wpAny_bind (wpAny_sequenceKey (ht.typeIs) (by decide) ?_)
  refine wpAny_bind (wpAny_callSpecial?_slot (name := Str.ofString "__getitem__") (ht.typeIs) slot_tuple_getitem
    (wpAny_call_entry slot_tuple_getitem (ht.typeIs) entry_tuple_getitem ?_ (args_tuple_getitem _ _)))
  show wpAny _ _ (Builtin.Tuple.tupleItemsOf (Value.ref t) >>= _) _ _ s
  refine wpAny_bind (tupleItemsOf_ (ht) ?_)
  refine wpAny_bind (wpAny_typeOf ty ?_)
  rw [if_pos (by decide)]
  rw [List.size_toArray]
  refine wpAny_bind (applied_back g p1 p2 p3 ?_)
  have no : ¬ ((((xs.length : Int) - 1) == 0 && (-1 : Int) == 1 && xs.length == xs.length) = true) := by
    intro q
    rw [Bool.and_eq_true, Bool.and_eq_true] at q
    exact absurd q.1.2 (by decide)
  show wpAny _ _ (if (((xs.length : Int) - 1) == 0 && (-1 : Int) == 1 && xs.length == xs.toArray.size) = true then _ else _) _ _ s
  rw [List.size_toArray, if_neg no, pick_back]
  first
    | exact wpAny_bind (m := Builtin.Tuple.tupleExact _) (wpAny_newObj_type (wpAny_pure ⟨_, rfl, wpAny_pure h⟩) room)
    | exact wpAny_bind (m := Builtin.Tuple.tupleExact _) (wpAny_newObj_type (wpAny_bind (wpAny_pure (wpAny_pure ⟨_, rfl, wpAny_pure h⟩))) room)
    | exact wpAny_bind (wpAny_bind (m := Builtin.Tuple.tupleExact _) (wpAny_newObj_type (wpAny_pure (wpAny_pure ⟨_, rfl, wpAny_pure h⟩)) room))
    | exact wpAny_bind (wpAny_bind (m := Builtin.Tuple.tupleExact _) (wpAny_newObj_type (wpAny_pure ⟨_, rfl, wpAny_pure h⟩) room))
end
def tRevT (K : PySem.W.Frag) (te : TE) : TE := fun σ H Q => te σ H fun x H1 => ∃ a xs, x = .ref a ∧ ((SqL K H1 a xs ∧ ∀ p, H1 p = none → Q (.ref p) (upd H1 p (.lst xs.reverse))) ∨ (SqT K H1 a xs ∧ rNewF xs.reverse H1 Q))
theorem pe_revS {X : Cx} {e : Expr} {te : TE} {k : Nat} {p1 p2 p3 pos : Pos} (he : PE X e te) : PE X (.Subscript e (.Slice none none (some (.UnaryOp .USub (.Constant (.int 1) k p1) p2)) p3) pos) (tRevT X.K te) := by
  refine ⟨fun pins s σ H Q I h => ?_⟩
  refine Subscript_ (thn (he.run pins s σ H _ I h) fun v s1 ⟨x, H1, I1, r1, a, xs, ex, q⟩ => ?_)
  subst ex
  cases r1
  have st : PO X (some (.UnaryOp .USub (.Constant (.int 1) k p1) p2)) (tPart (tUn (rU fun i => .int (-i)) (tC (.int 1)))) := po_some (pe_un un_neg pe_int)
  refine wpAny_Slice (thn (po_none.run pins s1 σ H1 (fun o H2 => o = none ∧ H2 = H1) I1 ⟨rfl, rfl⟩) fun vl s2 ⟨l, H2, I2, pl, el, e2⟩ => ?_)
  subst el e2
  refine thn (po_none.run pins s2 σ H2 (fun o H3 => o = none ∧ H3 = H2) I2 ⟨rfl, rfl⟩) fun vu s3 ⟨u, H3, I3, pu, eu, e3⟩ => ?_
  subst eu e3
  refine thn (st.run pins s3 σ H3 (fun o H4 => o = some (-1) ∧ H4 = H3) I3 ⟨1, rfl, -1, rfl, rfl, rfl⟩) fun vs s4 ⟨o, H4, I4, ps, eo, e4⟩ => ?_
  subst eo e4
  have J : Inv X pins σ H4 { s4 with heap := s4.heap.push { cls := .type "slice", data := .fields #[vl, vu, vs] } } := I4.kept (t' := s4.toks) fun b ob z => Heap.get?_push_of_some _ z
  rcases q with ⟨hx, q⟩ | ⟨hx, q⟩
  · obtain ⟨its, r, ht, hz⟩ := J.list hx
    have ln := r.length
    show wpAny (model X.prog X.w) X.A (subscriptTail e (.Slice none none (some (.UnaryOp .USub (.Constant (.int 1) k p1) p2)) p3) (Value.ref a) (Value.ref s4.heap.objs.size)) (EP X pins σ Q) X.xe { s4 with heap := s4.heap.push { cls := .type "slice", data := .fields #[vl, vu, vs] } }
    refine tail_any (ops := [Value.ref a, Value.ref s4.heap.objs.size]) ht.isList.typeIs (PySem.slot_list_getitem.lookup) ?_ (by with_unfolding_all rfl)
    refine wpAny_getItem_list_slice ht.isList (Heap.IsSliceOf.new _ vl vu vs) pl pu ps (by decide) ?_ (by rw [List.size_toArray]; omega)
    rw [PySem.W.krv_pick]
    refine ⟨V.ref _, _, J.laid (t' := s4.toks) (o := .lst xs.reverse) (fun b ob z => Heap.get?_push_of_some _ z) (Nat.le_refl _) ?_, rfl, q _ (J.hok.fresh (Nat.le_refl _))⟩
    exact ⟨by rw [List.length_reverse]; exact hz, _, 0, r.reverse, Heap.get?_push_size _ rfl⟩
  · obtain ⟨its, r, ht, hz⟩ := J.tuple hx
    have ln := r.length
    show wpAny (model X.prog X.w) X.A (subscriptTail e (.Slice none none (some (.UnaryOp .USub (.Constant (.int 1) k p1) p2)) p3) (Value.ref a) (Value.ref s4.heap.objs.size)) (EP X pins σ Q) X.xe { s4 with heap := s4.heap.push { cls := .type "slice", data := .fields #[vl, vu, vs] } }
    refine tail_any (ops := [Value.ref a, Value.ref s4.heap.objs.size]) ht.typeIs (slot_tuple_getitem.lookup) ?_ (by with_unfolding_all rfl)
    refine tuple_back ht (Heap.IsSliceOf.new _ vl vu vs) pl pu ps ?_ (by omega)
    exact ⟨V.ref _, _, laidF J r.reverse (by rw [List.length_reverse]; exact hz), rfl, q _ _ rfl (J.hok.fresh (Nat.le_refl _))⟩
section
variable {n : Nat} {K : PySem.W.Frag} {X : Cx} {pos : Pos} {e : Expr} {es : List Expr} {da : DE} {dar : DA}
/-- x[::-1] of a list or a tuple -/
def fRevS : DF1
  | .list xs, Q => Q (.l xs.reverse)
  | .tuple xs, Q => Q (.v (.tuple xs.reverse))
  | _, _ => False
theorem pd_revS {k : Nat} {p1 p2 p3 pos : Pos} (own : Bool) (he : PD K X e da) : PD K X (.Subscript e (.Slice none none (some (.UnaryOp .USub (.Constant (.int 1) k p1) p2)) p3) pos) (dUn fRevS own da) := fun hK =>
  PE.weak (pe_revS (he hK)) fun σ H Q ⟨Z, η, M, ε, Qd, r, s, q, fin⟩ => ⟨Z, η, M, ε, _, r, s, q, fun v1 η1 M1 y1 H1 r1 k1 d1 q1 => by
      obtain ⟨x, ex, q2⟩ := lk_of q1
      have tp := r1.top d1 ex
      subst hK
      cases x with
      | list xs =>
        obtain ⟨a, vs, rfl, sq, t⟩ := tp
        refine ⟨a, vs, rfl, .inl ⟨sq, fun p hp => ?_⟩⟩
        obtain ⟨η', M', z, r', k', d', q'⟩ := born_ok r1 (rr := .l xs.reverse) ⟨p, _, rfl, hp, rfl, DqAll.reverse t⟩ q2
        exact fin _ η' M' z _ r' (k1.trans k') d' q'
      | tuple xs =>
        obtain ⟨a, vs, rfl, sq, t⟩ := tp
        refine ⟨a, vs, rfl, .inr ⟨(SqF.sm sq vis_sub).t, fun p ob ho hp => ?_⟩⟩
        obtain ⟨η', M', z, r', k', d', q'⟩ := born_ok (own := own) r1 (ResOk.tup r1 ho hp (DqAll.reverse t)) q2
        exact fin _ η' M' z _ r' (k1.trans k') d' q'
      | _ => exact q2.elim⟩
/-- a tuple times a number -/
def fMulT : DF2
  | .tuple xs, .int k, Q => (2 ≤ k ∧ k ≤ 1000 ∧ xs.length ≤ 1000) ∧ Q (.v (.tuple (List.replicate k.toNat xs).flatten))
  | _, _, _ => False
theorem tuple_mul0W (l : Addr) (items : Array Value) (n : Nat) (sl : Array (Option Value)) (x : Int) (u : Tok) (c0 : (decide (x < -(2 ^ 63)) || decide (x ≥ 2 ^ 63)) = false) (c1 : (items.isEmpty || x == 1) = true) :
    Meets (Builtin.«tuple.__mul__» ⟨[.ref l, .int x u], []⟩) (fun _ R s => s.heap.get? l = some { cls := .type "tuple", dict := none, data := .seq items n, slots := sl } ∧ R (.ok (.ret (Value.ref l))) s) :=
  .of_wp fun prog w A R s h => by
    obtain ⟨hp, g, d, tk, os⟩ := s
    obtain ⟨hl, h⟩ := h
    have f1 := AutoSeq1.idx_int
    wp_walk using AutoSeq1.wpAny_loadPart' hl
    repeat (first
      | (refine wpAny_ite_false (decide_eq_false (by rw [c0]; exact Bool.false_ne_true)) ?_; wp_walk using AutoSeq1.wpAny_loadPart' hl)
      | (refine wpAny_ite_true (decide_eq_true c1) ?_; wp_walk using AutoSeq1.wpAny_loadPart' hl))
    exact ⟨_, rfl, h⟩
def rRep0 : R2 := fun x y H Q => rRepF x y H Q ∨ ∃ l k, x = .ref l ∧ y = .int k ∧ SqF H l [] ∧ 2 ≤ k ∧ k ≤ 1000 ∧ Q (.ref l) H
theorem op_rep0 {X : Cx} : OpR X (binaryOp .Mult) rRep0 := by
  intro pins s σ H x y v u Q I rx ry h
  rcases h with h | ⟨l, k, rfl, rfl, hF, k2, k3, q⟩
  · exact op_repF pins s σ H x y v u Q I rx ry h
  · cases rx
    obtain ⟨t, rfl⟩ := ry
    obtain ⟨its, r, ⟨⟨cl, dd, da, sl⟩, g, hc, n, hd⟩, hz⟩ := I.tuple (hF.t (K := X.K))
    obtain ⟨ob, hob, e⟩ := hF
    have g2 := (I.hok l _ e).1
    simp only at hc hd
    subst hc hd
    have dn : dd = none := by
      rw [g] at g2
      rw [← Option.some.inj g2] at hob
      exact hob
    subst dn
    have le : its.length = 0 := r.length.symm
    have ie : its = [] := List.eq_nil_of_length_eq_zero le
    subst ie
    have b0 : (decide (k < -(2 ^ 63)) || decide (k ≥ 2 ^ 63)) = false := by
      rw [decide_eq_false (by omega), decide_eq_false (by omega)]
      rfl
    have inner := tuple_mul0W l #[] n sl k t b0 rfl
    refine wpAny_binaryOp_repeat_ref (T := "tuple") (U := "int") (by decide) ⟨_, g, rfl⟩ (fun s' => typeIs_int s' k t) L2.noFill_tuple_mul F.fills_int_mul F.slot_int_rmul L2.repeat_tuple F.slot_int_index.lookup ?_
    refine call_meets F.slot_int_rmul (typeIs_int s k t) F.entry_int_rmul (F.args_int_rmul_2 _ _) (L2.int_rmul_tuple k t l #[] n none sl) ⟨g, rfl, ⟨_, g, rfl⟩, ?_⟩
    refine call_meets F.slot_tuple_mul ⟨_, g, rfl⟩ F.entry_tuple_mul (F.args_tuple_mul_2 _ _) inner ⟨g, ?_⟩
    exact ⟨.ref l, _, I, rfl, q⟩
theorem flat_nil : ∀ k : Nat, (List.replicate k ([] : List PyData)).flatten = []
  | 0 => rfl
  | k + 1 => by rw [List.replicate_succ, List.flatten_cons, flat_nil k]; rfl
theorem opS_mulT {K : PySem.W.Frag} : OpS K rRep0 fMulT := by
  intro Z η M H v u x y Qd Qv r hx hy h fin
  cases x with
  | tuple xs =>
    cases y with
    | int k =>
      obtain ⟨a, vs, rfl, sq, t⟩ := hx
      obtain ⟨⟨h2, h3, h4⟩, q⟩ := h
      have ln := DqAll.length t
      cases xs with
      | nil =>
        have e : vs = [] := List.eq_nil_of_length_eq_zero ln
        subst e
        rw [flat_nil] at q
        exact .inr ⟨a, k, rfl, int_of' hy, SqF.sm sq vis_sub, h2, h3, fin (.v (.tuple [])) _ H ⟨r, .refl, Dq.tup sq .nil⟩ q⟩
      | cons x xs =>
        refine .inl ⟨a, k, vs, rfl, int_of' hy, SqF.sm sq vis_sub, fun e => ?_, h2, h3, by omega, fun p ob ho hp => fin _ _ _ (ResOk.tup r ho hp (DqAll.rep t k.toNat)) q⟩
        rw [e] at ln
        cases ln
    | _ => exact h.elim
  | _ => cases y <;> exact h.elim
theorem oi_mulT : OI K X (binaryOp .Mult) fMulT := ⟨⟨_, op_rep0, fun hK => by subst hK; exact opS_mulT⟩⟩
/-- {} -/
def dNew (own : Bool) : DE := fun _ M Q => born own (.c []) M Q
theorem pd_dnew (own : Bool) : PD K X (.Dict [] [] pos) (dNew own) := fun hK =>
  PE.weak pe_dnewK fun σ H Q ⟨Z, η, M, ε, Qd, r, s, q, fin⟩ p hp => by
    obtain ⟨η', M', z, r', k', d', q'⟩ := born_ok r (rr := .c []) ⟨p, [], rfl, hp, rfl, rfl, .nil⟩ q
    exact fin _ η' M' z _ r' k' d' q'
end
section
variable {P : Program} {w : World} {K : PySem.W.Frag} {mg : Str → Option Value} {base : Heap} {y x : Str} {st : Stmt} {ps : List Str}
/-- a promise for no call at all: where a recursion ends -/
theorem df_none {sp : Sp} (T : StandsA K mg y x st) (bd : Bind x st ps) (k : Nat) (h : ∀ vs H Q E, ¬ sp vs H Q E) : DfA P w K mg base CX0 k y x st ps sp := by
  obtain ⟨f, fd, hm, F⟩ := T
  exact ⟨⟨f, fd, hm, F, fun vs H Q E z => absurd z (h vs H Q E), fun A outer s H args us vs Q E _ _ _ _ _ z => absurd z (h vs H Q E)⟩, bd⟩
theorem no_spP {F : DF} (h : ∀ ds Q, ¬ F ds Q) : ∀ vs H Q E, ¬ spP K F vs H Q E := fun vs H Q E z => by
  obtain ⟨Z, ds, Qd, _, _, q, _⟩ := z
  exact h _ _ q
theorem no_spT {F : DF} (h : ∀ ds Q, ¬ F ds Q) : ∀ vs H Q E, ¬ spT K F vs H Q E := fun vs H Q E z => by
  obtain ⟨Z, a, us, ds, Qd, _, _, _, q, _⟩ := z
  exact h _ _ q
end
end Dl
set_option maxHeartbeats 1000000
/-! Data level, 15: exceptions: raise, try .. except X, defs that may raise. -/
namespace Dl
open PySem PySem.Spec PyProof.Rows L2 Ow
abbrev DXc := Str → Option PyData → Mem → Prop
abbrev DEX := DSt → Mem → DK → DXc → Prop
/-- a reading of an expression that may raise -/
def tDX (n : Nat) (K : PySem.W.Frag) (Wn : WN) (de : DEX) : TE := fun σ H Q => ∃ (Z : Addr → Prop) (η : List Addr) (M : Mem) (ε : DSt) (Qd : DK) (Xd : DXc), Rel K Z η M H ∧ Slt n K Z η M H σ ε ∧ de ε M Qd Xd ∧
  (∀ v η' M' y H', Rel K Z η' M' H' → Keep η M H η' M' H' → Den K Z η' M' H' v y → Qd y M' → Q v H') ∧
  ∀ nm d x η' M' H', Rel K Z η' M' H' → Keep η M H η' M' H' → XAt K (vis Z η' M' H') H' d x → Xd nm x M' → Wn nm d σ H'
def PDX (K : PySem.W.Frag) (X : Cx) (e : Expr) (de : DEX) : Prop := X.K = K → ∀ W, Takes X W → PE X e (tDX X.N.length K (wN X.mg W) de)
theorem XAt.sm {K : PySem.W.Frag} {V V' H : Hp} {d : Option Addr} {x : Option PyData} (s : Sm V V') (h : XAt K V H d x) : XAt K V' H d x := by
  cases x with
  | none => exact h
  | some v =>
    obtain ⟨a, u, e, e2, q⟩ := h
    exact ⟨a, u, e, e2, Dq.sm s q⟩
/-! ### what such a def promises -/
abbrev DFX := List PyData → (PyData → Prop) → (Str → Option PyData → Prop) → Prop
def spX (K : PySem.W.Frag) (mg : Str → Option Value) (F : DFX) : Sp := fun vs H Q E => ∃ (Z : Addr → Prop) (ds : List PyData) (Qd : PyData → Prop) (Xd : Str → Option PyData → Prop), Rel K Z [] [] H ∧ DqAll K (vis Z [] [] H) vs ds ∧ F ds Qd Xd ∧
  (∀ v r H', Rel K Z [] [] H' → Keep [] [] H [] [] H' → Dq K (vis Z [] [] H') v r → Qd r → Q v H') ∧
  ∀ nm d x H', Rel K Z [] [] H' → Keep [] [] H [] [] H' → XAt K (vis Z [] [] H') H' d x → Xd nm x → ∀ cls, mg nm = some cls → E cls d H'
/-- .. that tells a new list -/
abbrev DFOX := List PyData → (List PyData → Prop) → (Str → Option PyData → Prop) → Prop
def toPX (F : DFOX) : DFX := fun ds Q Xd => F ds (fun xs => Q (.list xs)) Xd
def spOX (K : PySem.W.Frag) (mg : Str → Option Value) (F : DFOX) : Sp := fun vs H Q E => ∃ (Z : Addr → Prop) (ds : List PyData) (Qd : List PyData → Prop) (Xd : Str → Option PyData → Prop), Rel K Z [] [] H ∧ DqAll K (vis Z [] [] H) vs ds ∧ F ds Qd Xd ∧
  (∀ p xs H', Rel K Z [p] [.lst xs] H' → Keep [] [] H [p] [.lst xs] H' → Qd xs → Q (.ref p) H') ∧
  ∀ nm d x H', Rel K Z [] [] H' → Keep [] [] H [] [] H' → XAt K (vis Z [] [] H') H' d x → Xd nm x → ∀ cls, mg nm = some cls → E cls d H'
/-- it does not raise now -/
def calmF (F : DFX) : DF := fun ds Q => F ds Q fun _ _ => False
def calmO (F : DFOX) : DFO := fun ds Q => F ds Q fun _ _ => False
def cPX (F : DFX) : DC := cP (calmF F)
def cOX (F : DFOX) : DC := cO (calmO F)
def cOPX (F : DFOX) : DC := cOP (calmO F)
section
variable {n : Nat} {K : PySem.W.Frag} {mg : Str → Option Value} {Z : Addr → Prop} {η η1 : List Addr} {M M1 : Mem} {H H1 : Hp} {v : V}
theorem spX_of {F : DFX} {vs : List V} {Q : VK} {E : XK} (h : spP K (calmF F) vs H Q E) : spX K mg F vs H Q E := by
  obtain ⟨Z, ds, Qd, r, d, q, fin⟩ := h
  exact ⟨Z, ds, Qd, _, r, d, q, fin, fun _ _ _ _ _ _ _ z => z.elim⟩
theorem spOX_of {F : DFOX} {vs : List V} {Q : VK} {E : XK} (h : spO K (calmO F) vs H Q E) : spOX K mg F vs H Q E := by
  obtain ⟨Z, ds, Qd, r, d, q, fin⟩ := h
  exact ⟨Z, ds, Qd, _, r, d, q, fin, fun _ _ _ _ _ _ _ z => z.elim⟩
theorem spOX_data {F : DFOX} {vs : List V} {Q : VK} {E : XK} (h : spX K mg (toPX F) vs H Q E) : spOX K mg F vs H Q E := by
  obtain ⟨Z', ds, Qd, Xd, r0, d0, q0, f0, x0⟩ := h
  refine ⟨Z', ds, fun xs => Qd (.list xs), Xd, r0, d0, q0, fun p xs H' r' k' q' => ?_, x0⟩
  obtain ⟨r1, sm, ow⟩ := Rel.drop (η := []) (m := [p]) (M0 := []) r' rfl (fun k c e => by simp at e) fun k ks e => by simp at e
  refine f0 (.ref p) (.list xs) H' r1 ⟨⟨[], rfl⟩, fun b o e n => ⟨(k'.kp b o e n).1, own_nil⟩⟩ ?_ q'
  obtain ⟨us, eu, du⟩ := r'.ok 0 p _ rfl rfl
  have hz : ¬ Z' p := fun z => (r'.z p z).2 (own_one.mpr rfl)
  exact .lst (.of (vis_of eu hz own_nil)) (DqAll.sm sm du)
theorem cPX_ok {F : DFX} : COk K (cPX F) (spX K mg F) := fun Z η M H vs ys Q Qv E r hp hc fin => spX_of (cP_ok Z η M H vs ys Q Qv E r hp hc fin)
theorem cOX_ok {F : DFOX} : COk K (cOX F) (spOX K mg F) := fun Z η M H vs ys Q Qv E r hp hc fin => spOX_of (cO_ok Z η M H vs ys Q Qv E r hp hc fin)
theorem cOPX_ok {F : DFOX} : COk K (cOPX F) (spOX K mg F) := fun Z η M H vs ys Q Qv E r hp hc fin => spOX_of (cOP_ok Z η M H vs ys Q Qv E r hp hc fin)
/-- a call that may raise -/
abbrev DCX := List DV → Mem → DK → DXc → Prop
def COkX (K : PySem.W.Frag) (mg : Str → Option Value) (c : DCX) (sp : Sp) : Prop := ∀ (Z : Addr → Prop) (η : List Addr) (M : Mem) (H : Hp) (vs : List V) (ys : List DV) (Q : DK) (Xd : DXc) (Qv : VK) (E : XK), Rel K Z η M H → Paired (Den K Z η M H) vs ys → c ys M Q Xd →
  (∀ v η' M' y H', Rel K Z η' M' H' → Keep η M H η' M' H' → Den K Z η' M' H' v y → Q y M' → Qv v H') →
  (∀ nm d x η' M' H', Rel K Z η' M' H' → Keep η M H η' M' H' → XAt K (vis Z η' M' H') H' d x → Xd nm x M' → ∀ cls, mg nm = some cls → E cls d H') → sp vs H Qv E
def cXX (F : DFX) : DCX := fun ys M Q Xd => asDs ys M fun ds M2 => F ds (fun r => Q (.d r) M2) fun nm x => Xd nm x M2
def cOXX (F : DFOX) : DCX := cXX (toPX F)
theorem cXX_ok {F : DFX} : COkX K mg (cXX F) (spX K mg F) := by
  intro Z η M H vs ys Q Xd Qv E r hp hc fin xfin
  obtain ⟨ds, M2, r2, k2, d2, q2⟩ := r.asDs hp hc
  obtain ⟨r0, e0⟩ := r2.in0
  refine ⟨_, ds, _, _, r0, by rw [e0]; exact d2, q2, fun v x H' r' k' d' q' => ?_, fun nm d x H' r' k' xa q' => ?_⟩
  · obtain ⟨r3, k3⟩ := r2.smNew k'.sm0
    refine fin v η M2 (.d x) H' r3 (k2.trans k3) ?_ q'
    obtain ⟨_, e3⟩ := r3.in0
    show Dq K _ v x
    rw [← e3]
    exact d'
  · obtain ⟨r3, k3⟩ := r2.smNew k'.sm0
    obtain ⟨_, e3⟩ := r3.in0
    exact xfin nm d x η M2 H' r3 (k2.trans k3) (by rw [← e3]; exact xa) q'
theorem cOXX_ok {F : DFOX} : COkX K mg (cOXX F) (spOX K mg F) := fun Z η M H vs ys Q Xd Qv E r hp hc fin xfin => spOX_data (cXX_ok Z η M H vs ys Q Xd Qv E r hp hc fin xfin)
end
def dCallX (c : DCX) (da : DA) : DEX := fun ε M Q Xd => da ε M fun ys M1 => c ys M1 Q Xd
def dCallKX (c : DCX) (n m : Nat) (ix : List Nat) (da dk : DA) : DEX := fun ε M Q Xd => da ε M fun ys M1 => dk ε M1 fun zs M2 => ys.length = n ∧ zs.length = m ∧ c (putIn (.d .none) ix ys zs) M2 Q Xd
section
variable {n : Nat} {K : PySem.W.Frag} {X : Cx} {k j : Nat} {ps ks : List Str} {sp : Sp} {y x : Str} {st : Stmt} {p pos kpos : Pos} {e : Expr} {es : List Expr} {kws : List Keyword} {da dk : DA} {de : DEX} {c : DCX}
theorem pdx_d (D : DfA X.prog X.w X.K X.mg X.base (L2.CX X.prog X.w) k y x st ps sp) (hc : COkX K X.mg c sp) (hr : Room j X.A) (hk : k ≤ j) (hg : X.A.guards = some [])
    (gl : Gl X y) (ha : PDA K X (e :: es) da) (hdb : (y == ("__debug__" : Str)) = false := by decide) (he : starEach (e :: es) X.env = (false, eval e X.env) :: starEach es X.env := by rfl)
    (hpl : (backTo pos (starEach es X.env)).any (·.1) = false := by rfl) : PDX K X (.Call (.Name y p) (e :: es) [] pos) (dCallX c da) := fun hK W tk =>
  PE.weak (Ow.pe_dS (E := WE W) D hr hk hg (passAt tk) gl (ha hK) hdb he hpl) fun σ H Q ⟨Z, η, M, ε, Qd, Xd, r, s, q, fin, xfin⟩ =>
    ⟨Z, η, M, ε, _, r, s, q, fun vs η1 M1 ys H1 r1 k1 d1 q1 => hc Z η1 M1 H1 vs ys Qd Xd Q (WE W σ) r1 d1 q1 (fun v η' M' y H' r' k' d' q' => fin v η' M' y H' r' (k1.trans k') d' q')
      fun nm d x η' M' H' r' k' xa q' cls hcls => xfin nm d x η' M' H' r' (k1.trans k') xa q' cls hcls⟩
theorem pdx_dk {n : Nat} {ix : List Nat} (D : DfA X.prog X.w X.K X.mg X.base (L2.CX X.prog X.w) k y x st ps sp) (hc : COkX K X.mg c sp) (hr : Room j X.A) (hk : k ≤ j) (hg : X.A.guards = some []) (wy : Way x st ps n ks ix)
    (gl : Gl X y) (ha : PDA K X (e :: es) da) (hkw : PDK K X kws dk) (hall : (backToKw pos (keywordEach kws X.env)).all (·.1.isSome) = true := by rfl) (hks : (backToKw pos (keywordEach kws X.env)).filterMap (·.1) = ks := by rfl)
    (hdb : (y == ("__debug__" : Str)) = false := by decide) (he : starEach (e :: es) X.env = (false, eval e X.env) :: starEach es X.env := by rfl)
    (hpl : ((backTo pos (starEach (e :: es) X.env)).any (·.1) || (backToKw pos (keywordEach kws X.env)).any (·.1.isNone)) = false := by rfl) :
    PDX K X (.Call (.Name y p) (e :: es) kws pos) (dCallKX c n ks.length ix da dk) := fun hK W tk =>
  PE.weak (Ow.pe_dkS (E := WE W) D hr hk hg (passAt tk) wy gl (ha hK) (hkw hK) hall hks hdb he hpl) fun σ H Q ⟨Z, η, M, ε, Qd, Xd, r, s, q, fin, xfin⟩ => by
    refine ⟨Z, η, M, ε, _, r, s, q, fun vs η1 M1 ys H1 r1 k1 d1 q1 => ⟨Z, η1, M1, ε, _, r1, s.keep k1, q1, fun zs η2 M2 ws H2 r2 k2 d2 q2 => ?_⟩⟩
    have d1' := Paired.mapL d1 fun _ _ z => z.keep k2
    refine ⟨by rw [Paired.len d1]; exact q2.1, by rw [Paired.len d2]; exact q2.2.1, ?_⟩
    refine hc Z η2 M2 H2 _ _ Qd Xd Q (WE W σ) r2 (Paired.putIn (a := V.non) (b := DV.d .none) Dq.non d1' d2 ix) q2.2.2 (fun v η' M' y H' r' k' d' q' => fin v η' M' y H' r' (k1.trans (k2.trans k')) d' q') fun nm d x η' M' H' r' k' xa q' cls hcls => xfin nm d x η' M' H' r' (k1.trans (k2.trans k')) xa q' cls hcls
theorem pdx_dk0 {ix : List Nat} (D : DfA X.prog X.w X.K X.mg X.base (L2.CX X.prog X.w) k y x st ps sp) (hc : COkX K X.mg c sp) (hr : Room j X.A) (hk : k ≤ j) (hg : X.A.guards = some []) (wy : Way x st ps 0 ks ix)
    (gl : Gl X y) (hkw : PDK K X kws dk) (hall : (backToKw pos (keywordEach kws X.env)).all (·.1.isSome) = true := by rfl) (hks : (backToKw pos (keywordEach kws X.env)).filterMap (·.1) = ks := by rfl)
    (hdb : (y == ("__debug__" : Str)) = false := by decide)
    (hpl : ((backTo pos (starEach [] X.env)).any (·.1) || (backToKw pos (keywordEach kws X.env)).any (·.1.isNone)) = false := by rfl) :
    PDX K X (.Call (.Name y p) [] kws pos) (dCallKX c 0 ks.length ix dNil dk) := fun hK W tk =>
  PE.weak (Ow.pe_dk0S (E := WE W) D hr hk hg (passAt tk) wy gl (hkw hK) hall hks hdb hpl) fun σ H Q ⟨Z, η, M, ε, Qd, Xd, r, s, q, fin, xfin⟩ => by
    refine ⟨Z, η, M, ε, _, r, s, q, fun zs η2 M2 ws H2 r2 k2 d2 q2 => ?_⟩
    refine ⟨rfl, by rw [Paired.len d2]; exact q2.2.1, ?_⟩
    refine hc Z η2 M2 H2 _ _ Qd Xd Q (WE W σ) r2 (Paired.putIn (a := V.non) (b := DV.d .none) Dq.non .nil d2 ix) q2.2.2 (fun v η' M' y H' r' k' d' q' => fin v η' M' y H' r' (k2.trans k') d' q') fun nm d x η' M' H' r' k' xa q' cls hcls => xfin nm d x η' M' H' r' (k2.trans k') xa q' cls hcls
/-! ### statements -/
def dSetX (i : Nat) (de : DEX) : DS := fun De ε M => de ε M (fun y M1 => gD i y ε M1 De.nx) fun nm x M1 => De.xc nm x ε M1
def dRetX (de : DEX) : DS := fun De ε M => de ε M De.rt fun nm x M1 => De.xc nm x ε M1
def dDropX (de : DEX) : DS := fun De ε M => de ε M (fun _ M1 => De.nx ε M1) fun nm x M1 => De.xc nm x ε M1
theorem pds_setX {i : Nat} {x : Str} {pos' : Pos} (hN : X.N.Nodup) (hi : X.N[i]? = some x) (hx : Loc X.env.scope x) (he : PDX K X e de) (hs : swapsWith e (some (.Name x pos')) pos.line X.env = pure false := by rfl) (hf : X.fn x = true ∨ X.env.scope.names.lookup x = some .local := by first | exact .inl rfl | exact .inr rfl | assumption) :
    PDS K X (.Assign [.Name x pos'] e pos) (dSetX i de) := fun hK W tk => PS.weak (ps_set hN hi hx (he hK W tk) hs hf) fun D σ H ⟨Z, η, M, ε, De, r, s, q, f⟩ =>
      ⟨Z, η, M, ε, _, _, r, s, q, fun v η1 M1 y H1 r1 k1 d1 q1 => f.nx _ η1 M1 _ H1 r1 k1 ((s.keep k1).set d1 i (idx_lt hi)) q1, fun nm d x η' M' H' r' k' xa q' => f.xc nm d x σ η' M' ε H' r' k' (s.keep k') xa q'⟩
theorem pds_retX (he : PDX K X e de) : PDS K X (.Return (some e) pos) (dRetX de) := fun hK W tk =>
  PS.weak (ps_ret (he hK W tk)) fun D σ H ⟨Z, η, M, ε, De, r, s, q, f⟩ => ⟨Z, η, M, ε, _, _, r, s, q, f.rt, fun nm d x η' M' H' r' k' xa q' => f.xc nm d x σ η' M' ε H' r' k' (s.keep k') xa q'⟩
theorem pds_exprX (he : PDX K X e de) (hs : swapsWith e none pos.line X.env = pure false := by rfl) : PDS K X (.Expr e pos) (dDropX de) := fun hK W tk =>
  PS.weak (ps_expr (he hK W tk) hs) fun D σ H ⟨Z, η, M, ε, De, r, s, q, f⟩ => ⟨Z, η, M, ε, _, _, r, s, q, fun v η1 M1 y H1 r1 k1 d1 q1 => f.nx σ η1 M1 ε H1 r1 k1 (s.keep k1) q1, fun nm d x η' M' H' r' k' xa q' => f.xc nm d x σ η' M' ε H' r' k' (s.keep k') xa q'⟩
end
/-! ### raise -/
/-- an exception class of the program without own __init__ -/
def Exc0 (K : PySem.W.Frag) (mg : Str → Option Value) (x : Str) : Prop := ∃ (C : Addr) (bmB : List Value) (B newId initId : String), mg x = some (.ref C) ∧ ExcBaseFacts B newId initId bmB ∧ PySem.W.excIn K C bmB newId = true ∧ PySem.W.keepIn K (.ref C) = true ∧
  PySem.W.subIn K (.ref C) (.type "BaseException") = some true ∧ PySem.W.typeIn K (.ref C) = some (.type "type")
/-- whether an exception of the first class is caught by the second -/
def Mat (K : PySem.W.Frag) (mg : Str → Option Value) (x y : Str) (b : Bool) : Prop := ∃ C D, mg x = some C ∧ mg y = some D ∧ PySem.W.exmOne K C D = some b
theorem Mat.snd {K : PySem.W.Frag} {mg : Str → Option Value} {x y : Str} {b : Bool} (h : Mat K mg x y b) : ∃ C, mg y = some C := let ⟨_, D, _, e, _⟩ := h; ⟨D, e⟩
theorem exc0_of {K : PySem.W.Frag} {h : Heap} {mg : Str → Option Value} {x : Str} {C : Addr} {bmB : List Value} {B newId initId : String} (X : K.In h) (G : h.Ns mainGlobals mg) (F : ExcBaseFacts B newId initId bmB) (a : PySem.W.nsIn K mainGlobals x = some (some (.ref C)))
    (q : PySem.W.excIn K C bmB newId = true) (k : PySem.W.keepIn K (.ref C) = true) (s : PySem.W.subIn K (.ref C) (.type "BaseException") = some true) (t : PySem.W.typeIn K (.ref C) = some (.type "type")) : Exc0 K mg x := ⟨C, bmB, B, newId, initId, PySem.W.mg_of X G a, F, q, k, s, t⟩
theorem mat_of {K : PySem.W.Frag} {h : Heap} {mg : Str → Option Value} {x y : Str} {C D : Value} {b : Bool} (X : K.In h) (G : h.Ns mainGlobals mg) (a : PySem.W.nsIn K mainGlobals x = some (some C)) (b' : PySem.W.nsIn K mainGlobals y = some (some D)) (e : PySem.W.exmOne K C D = some b) : Mat K mg x y b := ⟨C, D, PySem.W.mg_of X G a, PySem.W.mg_of X G b', e⟩
theorem pmk_own0 {X : Cx} {C : Addr} {bmB : List Value} {B newId initId : String} {x : Str} {p pos : Pos} (F : ExcBaseFacts B newId initId bmB) (q : PySem.W.excIn X.K C bmB newId = true) (gC : X.mg x = some (.ref C)) (kC : PySem.W.keepIn X.K (.ref C) = true) (r : Raises X (.ref C)) (hg : Gl X x)
    (hdb : (x == ("__debug__" : Str)) = false := by decide) : PMk X (.Call (.Name x p) [] [] pos) (fun _ H Q => Q (.ref C) none H) := by
  intro pins s σ H Q I h
  refine wpAny_Call_Name_kw (ld_glob I hg gC ?_ hdb)
  refine PySem.W.callWith_K0 I.kIn kC ?_
  show wpAny _ _ (call (.ref C) []) _ _ _
  obtain ⟨bm, N, nm, qn, bs, hdct, sn, sub, ab, col, dd, k0, k1, k2, k3, k5, mN, hC, hN, hni, T⟩ := exc_obj I.kIn q
  refine wpAny_call_exc_subT F T hC hN hni (fun h' e hm => ?_) (by show 0 ≤ sizeLine; omega)
  exact mk_of I hm r h (I.hok.gone hm.new)
def dRaise (x : Str) : DS := fun De ε M => De.xc x none ε M
theorem pds_raise0 {K : PySem.W.Frag} {X : Cx} {x : Str} {p pos pos' : Pos} (hc : X.calm = true) (h : Exc0 K X.mg x) (hg : Gl X x) (hdb : (x == ("__debug__" : Str)) = false := by decide) : PDS K X (.Raise (some (.Call (.Name x p) [] [] pos)) none pos') (dRaise x) := fun hK W tk => by
  obtain ⟨C, bmB, B, newId, initId, hm, F, q, kC, s1, t1⟩ := h
  subst hK
  exact PS.weak (ps_raise hc tk (pmk_own0 F q hm kC (raises_own s1 t1) hg hdb)) fun D σ H ⟨Z, η, M, ε, De, r, s, qq, f⟩ => f.xc x none none σ η M ε H r .refl s rfl qq _ hm
/-! ### try -/
def dTry (K : PySem.W.Frag) (mg : Str → Option Value) (x : Str) (db ds : DS) : DS := fun De ε M => db { De with xc := fun nm v ε' M' => ∃ b, Mat K mg nm x b ∧ (b = true → ds { De with xc := fun _ _ _ _ => False } ε' M') ∧ (b = false → De.xc nm v ε' M') } ε M
theorem pds_try {K : PySem.W.Frag} {X : Cx} {x : Str} {body suite : List Stmt} {b₀ : Stmt} {np pos pos' : Pos} {db ds : DS} (hs : X.stack = X.env :: X.outer) (hf : X.env.frame = some X.env.locals) (hg : Gl X x) (hm : ∃ C, X.mg x = some C)
    (hb : ∀ (pn : List (Addr × Obj)) (xe : Value → Shared → Prop), PassesOwn (model X.prog X.w) X.A X.env xe → PDSs K (X.tr pn xe) body db)
    (hsu : ∀ (a : Addr) (oe : Obj) (pn : List (Addr × Obj)), PDSs K (X.suite a ((a, oe) :: pn)) (b₀ :: suite) ds) (hdb : (x == ("__debug__" : Str)) = false := by decide) :
    PDS K X (.Try body [.ExceptHandler (some (.Name x np)) none (b₀ :: suite) pos'] [] [] pos) (dTry K X.mg x db ds) := fun hK Wx tk => by
  obtain ⟨c, hm⟩ := hm
  refine PS.weak (ps_try_only (c := c) (tb := fun W => tS X.N.length K (wN X.mg W) db) (ts := fun _ _ _ => tS X.N.length K (wN X.mg w0) ds) hs hf ⟨hg, hdb, .inl hm⟩ tk (fun W pn xe tkW po => hb pn xe po hK W tkW) fun a oe cls d pn _ _ => hsu a oe pn hK w0 takes0) ?_
  rintro D σ H ⟨Z, η, M, ε, De, r, s, q, f⟩
  refine ⟨Z, η, M, ε, _, r, s, q, f.nx, f.rt, f.bk, f.ct, ?_⟩
  rintro nm d v σ' η' M' ε' H' r' k' s' xa ⟨b, ⟨C, E, e1, e2, e3⟩, q1, q0⟩ cls hcls
  rw [e1] at hcls
  cases hcls
  rw [hm] at e2
  cases e2
  subst hK
  refine ⟨b, e3, fun hb' a ha => ⟨Z, η', M', ε', _, r', s', q1 hb', ?_⟩, fun hb' => f.xc nm d v σ' η' M' ε' H' r' k' s' xa (q0 hb') _ e1⟩
  have g := f.keep k'
  exact ⟨g.nx, g.rt, g.bk, g.ct, fun _ _ _ _ _ _ _ _ _ _ _ _ z => z.elim⟩
/-! ### defs -/
section
variable {P : Program} {w : World} {K : PySem.W.Frag} {mg : Str → Option Value} {base : Heap}
theorem df_X {y x : Str} {st : Stmt} {N ps : List Str} {k : Nat} {F : DFX} (T : StandsA K mg y x st) (S : FnScope N ps (defScope st)) (bd : Bind x st ps)
    (len : ∀ ds Q Xd, F ds Q Xd → ds.length = ps.length)
    (hbody : ∀ (cdv : Value) (A : Around) (outer : List Env) (s : Shared) (H : Hp) (E : XK) (f : Addr), A.guards = some [] →
      Room k (A.deeper (envOfC x (defScope st) s.heap.objs.size f cdv)) →
      ∃ dt, PDSs K (cxOf (L2.CX P w) P w K mg base N x (defScope st) f cdv A outer s H E) (defBody st) dt ∧ ∀ ds Q Xd, F ds Q Xd → dt { nx := fun _ _ => Q .none, rt := fun y M => lk (look M y) Q, xc := fun nm v _ _ => Xd nm v } (startD (ds.map DV.d)) []) :
    DfA P w K mg base (L2.CX P w) (k + 1) y x st ps (spX K mg F) := by
  refine df_ofX T S bd (fun vs H Q E h => ?_) (fun cdv A outer s H vs Q E f hG hR h => ?_)
  · obtain ⟨Z, ds, Qd, Xd, r, d, q, _⟩ := h
    rw [DqAll.length d]
    exact len _ _ _ q
  · obtain ⟨dt, h1, h2⟩ := hbody cdv A outer s H E f hG hR
    obtain ⟨Z, ds, Qd, Xd, r, d, q, fin, xfin⟩ := h
    have tk : Takes (cxOf (L2.CX P w) P w K mg base N x (defScope st) f cdv A outer s H E) (fun cls d _ H => E cls d H) := takes_of rfl rfl rfl rfl
    refine ⟨_, h1 rfl _ tk, Z, [], [], _, _, r, slt_start (dqs_den d) (by rw [DqAll.length d, len _ _ _ q]; exact few_of S), h2 ds Qd Xd q, ?_⟩
    have out : ∀ {η' : List Addr} {M' : Mem} {H' : Hp}, Rel K Z η' M' H' → Keep [] [] H η' M' H' → Rel K Z [] [] H' ∧ Keep [] [] H [] [] H' ∧ Sm (vis Z η' M' H') (vis Z [] [] H') := fun {η' M' H'} r' k' => by
      obtain ⟨r0, sm, _⟩ := Rel.drop (η := []) (m := η') (M0 := []) r' rfl (fun k c e => by simp at e) fun k ks e => by simp at e
      exact ⟨r0, ⟨⟨[], rfl⟩, fun b o e n => ⟨(k'.kp b o e n).1, own_nil⟩⟩, sm⟩
    refine ⟨?_, ?_, fun _ _ _ _ _ _ _ _ z => z.elim, fun _ _ _ _ _ _ _ _ z => z.elim, ?_⟩
    · intro σ' η' M' ε' H' r' k' s' q'
      obtain ⟨r0, k0, _⟩ := out r' k'
      exact fin .non .none H' r0 k0 .non q'
    · intro v η' M' y H' r' k' d' q'
      obtain ⟨x', ex, qx⟩ := lk_of q'
      obtain ⟨M2, r2, k2, d2, _⟩ := r'.val d' ex
      obtain ⟨r0, k0, sm⟩ := out r2 (k'.trans k2)
      exact fin v x' H' r0 k0 (Dq.sm sm d2) qx
    · intro nm d x σ' η' M' ε' H' r' k' s' xa q' cls hcls
      obtain ⟨r0, k0, sm⟩ := out r' k'
      exact xfin nm d x H' r0 k0 (XAt.sm sm xa) q' cls hcls
theorem df_Y {y x : Str} {st : Stmt} {N ps : List Str} {k : Nat} {F : DFOX} (T : StandsA K mg y x st) (S : FnScope N ps (defScope st)) (bd : Bind x st ps)
    (len : ∀ ds Q Xd, F ds Q Xd → ds.length = ps.length)
    (hbody : ∀ (cdv : Value) (A : Around) (outer : List Env) (s : Shared) (H : Hp) (E : XK) (f : Addr), A.guards = some [] →
      Room k (A.deeper (envOfC x (defScope st) s.heap.objs.size f cdv)) →
      ∃ dt, PDSs K (cxOf (L2.CX P w) P w K mg base N x (defScope st) f cdv A outer s H E) (defBody st) dt ∧ ∀ ds Q Xd, F ds Q Xd → dt { nx := fun _ _ => False, rt := fun y M => cellL M y fun _ xs => Q xs, xc := fun nm v _ _ => Xd nm v } (startD (ds.map DV.d)) []) :
    DfA P w K mg base (L2.CX P w) (k + 1) y x st ps (spOX K mg F) := by
  refine df_ofX T S bd (fun vs H Q E h => ?_) (fun cdv A outer s H vs Q E f hG hR h => ?_)
  · obtain ⟨Z, ds, Qd, Xd, r, d, q, _⟩ := h
    rw [DqAll.length d]
    exact len _ _ _ q
  · obtain ⟨dt, h1, h2⟩ := hbody cdv A outer s H E f hG hR
    obtain ⟨Z, ds, Qd, Xd, r, d, q, fin, xfin⟩ := h
    have tk : Takes (cxOf (L2.CX P w) P w K mg base N x (defScope st) f cdv A outer s H E) (fun cls d _ H => E cls d H) := takes_of rfl rfl rfl rfl
    refine ⟨_, h1 rfl _ tk, Z, [], [], _, _, r, slt_start (dqs_den d) (by rw [DqAll.length d, len _ _ _ q]; exact few_of S), h2 ds Qd Xd q, ?_⟩
    refine ⟨fun _ _ _ _ _ _ _ _ z => z.elim, ?_, fun _ _ _ _ _ _ _ _ z => z.elim, fun _ _ _ _ _ _ _ _ z => z.elim, ?_⟩
    · intro v η' M' y H' r' k' d' q'
      obtain ⟨j, xs, rfl, em, qx⟩ := cellL_of q'
      obtain ⟨a, ea, rfl⟩ := d'
      have sub : ∀ b, Own [a] [.lst xs] b → Own η' M' b := fun b h => by
        rw [own_one.mp h]
        exact ⟨j, _, ea, em, rfl⟩
      have sm : Sm (vis Z η' M' H') (vis Z [a] [.lst xs] H') := fun b o e => by
        obtain ⟨e1, e2, e3⟩ := of_vis e
        exact vis_of e1 e2 fun q => e3 (sub b q)
      obtain ⟨us, eu, du⟩ := r'.ok j a _ ea em
      refine fin a xs H' ⟨rfl, fun k b c e1 e2 => ?_, fun i k b e1 e2 => ?_, fun b hb => ⟨(r'.z b hb).1, fun q => (r'.z b hb).2 (sub b q)⟩⟩ ⟨⟨[a], rfl⟩, fun b o e n => ⟨(k'.kp b o e n).1, fun q => (k'.kp b o e n).2 (sub b q)⟩⟩ qx
      · cases k with
        | zero =>
          cases e1
          cases e2
          exact ⟨us, eu, DqAll.sm sm du⟩
        | succ k => simp at e1
      · cases i <;> cases k <;> simp_all
    · intro nm d x σ' η' M' ε' H' r' k' s' xa q' cls hcls
      obtain ⟨r0, sm, _⟩ := Rel.drop (η := []) (m := η') (M0 := []) r' rfl (fun k c e => by simp at e) fun k ks e => by simp at e
      exact xfin nm d x H' r0 ⟨⟨[], rfl⟩, fun b o e n => ⟨(k'.kp b o e n).1, own_nil⟩⟩ (XAt.sm sm xa) q' cls hcls
end
end Dl
set_option maxHeartbeats 1000000
/-! Data level, 16: dicts whose values are lists that grow (rdc). -/
namespace Dl
open PySem PySem.Spec PyProof.Rows L2 Ow
/-- the cell under a key -/
def findR {α : Type} (kvs : List (Key × α)) (k : Key) : Option α := (kvs.find? fun kv => decide (kv.1 = k)).map (·.2)
def RdcAt (M : Mem) (y : DV) (P : Nat → List (Key × Nat) → Prop) : Prop := ∃ c kvs, y = .o c ∧ M[c]? = some (.rdc kvs) ∧ P c kvs
theorem findR_paired {η : List Addr} {k : Key} : ∀ {kvs : List (Key × Nat)} {us : List (Key × Addr)}, Paired (fun (kv : Key × Nat) (q : Key × Addr) => kv.1 = q.1 ∧ η[kv.2]? = some q.2) kvs us →
    (∀ j, findR kvs k = some j → ∃ b, valV (us.map fun q => (q.1, V.ref q.2)) k = some (V.ref b) ∧ η[j]? = some b) ∧ (findR kvs k = none → valV (us.map fun q => (q.1, V.ref q.2)) k = none ∧ putK (us.map fun q => (q.1, V.ref q.2)) k = fun v => (us.map fun q => (q.1, V.ref q.2)) ++ [(k, v)])
  | [], [], .nil => ⟨(fun j h => by cases h), fun _ => ⟨rfl, rfl⟩⟩
  | (a, j0) :: kvs, (b, x) :: us, .cons r t => by
    obtain ⟨h1, h2⟩ := findR_paired (k := k) t
    obtain ⟨e1, e2⟩ := r
    cases (show a = b from e1)
    by_cases q : a = k
    · subst q
      have f1 : findR ((a, j0) :: kvs) a = some j0 := by unfold findR; rw [List.find?_cons_of_pos (by simp)]; rfl
      have f2 : valV (((a, x) :: us).map fun q => (q.1, V.ref q.2)) a = some (V.ref x) := by
        rw [List.map_cons]
        unfold valV
        rw [List.find?_cons_of_pos (by simp)]
        rfl
      refine ⟨fun j h => ?_, fun h => ?_⟩
      · rw [f1] at h
        cases h
        exact ⟨x, f2, e2⟩
      · rw [f1] at h
        cases h
    · have f1 : findR ((a, j0) :: kvs) k = findR kvs k := by unfold findR; rw [List.find?_cons_of_neg (by simpa using q)]
      have f2 : valV (((a, x) :: us).map fun q => (q.1, V.ref q.2)) k = valV (us.map fun q => (q.1, V.ref q.2)) k := by
        rw [List.map_cons]
        unfold valV
        rw [List.find?_cons_of_neg (by simpa using q)]
      rw [f1, f2]
      refine ⟨h1, fun h => ⟨(h2 h).1, ?_⟩⟩
      have h3 := (h2 h).2
      funext v
      have h3 := congrFun h3 v
      unfold putK at h3 ⊢
      rw [List.map_cons, List.any_cons, decide_eq_false q, Bool.false_or, List.map_cons, if_neg q]
      by_cases z : ((us.map fun q => (q.1, V.ref q.2)).any fun kv => decide (kv.1 = k)) = true
      · rw [if_pos z] at h3 ⊢
        rw [h3]
        rfl
      · rw [if_neg z]
/-- {} -/
def dRnew : DE := fun _ M Q => Q (.o M.length) (M ++ [.rdc []])
def dSetdef (da dk df : DE) : DE := fun ε M Q => da ε M fun y M1 => RdcAt M1 y fun _ _ => dk ε M1 fun z M2 => df ε M2 fun u M3 => RdcAt M3 y fun c kvs => ∃ (i : Int) (j : Nat), z = .d (.int i) ∧ u = .o j ∧ kvs.length < sizeLine ∧
  (match findR kvs (.inl i) with
    | some j' => Q (.o j') M3
    | none => Q (.o j) (M3.set c (.rdc (kvs ++ [(.inl i, j)]))))
/-- d.get(k, x) -/
def dGetR (da dk df : DE) : DE := fun ε M Q => da ε M fun y M1 => RdcAt M1 y fun _ _ => dk ε M1 fun z M2 => df ε M2 fun u M3 => RdcAt M3 y fun c kvs => ∃ i : Int, z = .d (.int i) ∧
  (match findR kvs (.inl i) with
    | some j' => Q (.o j') M3
    | none => Q u M3)
/-- k in d -/
def dInR (dk da : DE) : DE := fun ε M Q => dk ε M fun z M1 => da ε M1 fun y M2 => RdcAt M2 y fun c kvs => ∃ i : Int, z = .d (.int i) ∧ Q (.d (.bool (findR kvs (.inl i)).isSome)) M2
def dLenR (da : DE) : DE := fun ε M Q => da ε M fun y M1 => RdcAt M1 y fun _ kvs => Q (.d (.int kvs.length)) M1
section
variable {n : Nat} {K : PySem.W.Frag} {X : Cx} {o e f : Expr} {da dk df : DE} {apos pos cpos p : Pos}
theorem pd_rnew : PD K X (.Dict [] [] pos) dRnew := fun hK =>
  PE.weak pe_dnewK fun σ H Q ⟨Z, η, M, ε, Qd, r, s, q, fin⟩ p hp => by
    obtain ⟨r', k'⟩ := r.cell (c := .rdc []) (o := .dK []) hp rfl ⟨[], upd_same, .nil⟩
    exact fin (.ref p) _ _ (.o M.length) _ r' k' ⟨p, by rw [← r.len, List.getElem?_append_right (Nat.le_refl _), Nat.sub_self]; rfl, rfl⟩ q
theorem rdc_at {Z : Addr → Prop} {η : List Addr} {M : Mem} {H : Hp} {v : V} {y : DV} {P : Nat → List (Key × Nat) → Prop} (r : Rel K Z η M H) (d : Den K Z η M H v y) (h : RdcAt M y P) : ∃ c kvs a us, y = .o c ∧ M[c]? = some (.rdc kvs) ∧ P c kvs ∧ v = .ref a ∧ η[c]? = some a ∧ H a = some (.dK (us.map fun q => (q.1, V.ref q.2))) ∧ Paired (fun (kv : Key × Nat) (q : Key × Addr) => kv.1 = q.1 ∧ η[kv.2]? = some q.2) kvs us := by
  obtain ⟨c, kvs, rfl, em, q⟩ := h
  obtain ⟨a, ea, rfl⟩ := d
  obtain ⟨us, eh, pr⟩ := r.ok c a _ ea em
  exact ⟨c, kvs, a, us, rfl, em, q, rfl, ea, eh, pr⟩
theorem den_keep {η η' : List Addr} {M M' : Mem} {H H' : Hp} {c : Nat} {a : Addr} (k : Keep η M H η' M' H') (e : η[c]? = some a) : η'[c]? = some a := by
  obtain ⟨m, em⟩ := k.more
  rw [em, List.getElem?_append_left (List.getElem?_eq_some_iff.mp e).1]
  exact e
theorem int_key {Z : Addr → Prop} {η : List Addr} {M : Mem} {H : Hp} {v : V} {i : Int} (d : Den K Z η M H v (.d (.int i))) : v = kV (.inl i) := int_of' (W := vis Z η M H) d
theorem pd_setdef (ho : PD K X o da) (he : PD K X e dk) (hf : PD K X f df) (m : M2 X o "setdefault" apos e f cpos) : PD K X (.Call (.Attribute o "setdefault" apos) [e, f] [] cpos) (dSetdef da dk df) := fun hK =>
  PE.weak (pe_dsetd (ho hK) (he hK) (hf hK) m) fun σ H Q ⟨Z, η, M, ε, Qd, r, s, q, fin⟩ => ⟨Z, η, M, ε, _, r, s, q, fun v1 η1 M1 y1 H1 r1 k1 d1 q1 => by
    obtain ⟨c, kvs, a, us, rfl, em, q2, rfl, ea, eh, _⟩ := rdc_at r1 d1 q1
    refine ⟨a, rfl, .inl ⟨_, .inl eh⟩, Z, η1, M1, ε, _, r1, s.keep k1, q2, fun v2 η2 M2 y2 H2 r2 k2 d2 q3 => ⟨Z, η2, M2, ε, _, r2, (s.keep k1).keep k2, q3, fun v3 η3 M3 y3 H3 r3 k3 d3 q4 => ?_⟩⟩
    have k23 := k2.trans k3
    have ea3 := den_keep k23 ea
    obtain ⟨c', kvs3, a', us3, e1, em3, ⟨i, j, rfl, rfl, hz, q5⟩, e2, ea4, eh3, pr⟩ := rdc_at (v := .ref a) (y := .o c) r3 ⟨a, ea3, rfl⟩ q4
    cases e1
    cases e2
    obtain ⟨f1, f2⟩ := findR_paired (k := .inl i) pr
    have hd3 := d2.keep k3
    have ln : us3.length = kvs3.length := (Paired.len pr).symm
    refine ⟨_, .inl i, eh3, int_key hd3, by rw [List.length_map, ln]; exact hz, fun v hv => ?_, fun hn => ?_⟩
    · cases g : findR kvs3 (.inl i) with
      | none => rw [(f2 g).1] at hv; cases hv
      | some j' =>
        rw [g] at q5
        obtain ⟨b, e3, e4⟩ := f1 j' g
        rw [e3] at hv
        cases hv
        exact fin _ η3 M3 (.o j') H3 r3 (k1.trans k23) ⟨b, e4, rfl⟩ q5
    · cases g : findR kvs3 (.inl i) with
      | some j' =>
        obtain ⟨b, e3, e4⟩ := f1 j' g
        rw [e3] at hn
        cases hn
      | none =>
        rw [g] at q5
        obtain ⟨b, eb, rfl⟩ := d3
        rw [(f2 g).2]
        obtain ⟨r4, k4⟩ := r3.put (c' := .rdc (kvs3 ++ [(.inl i, j)])) (o := .dK ((us3.map fun q => (q.1, V.ref q.2)) ++ [(.inl i, .ref b)])) ea3 em3 rfl rfl ⟨us3 ++ [(.inl i, b)], by rw [List.map_append]; exact upd_same, Paired.app pr (.cons ⟨rfl, eb⟩ .nil)⟩
        exact fin _ η3 _ (.o j) _ r4 ((k1.trans k23).trans k4) ⟨b, eb, rfl⟩ q5⟩
theorem pd_getR (hu : X.A.units + 1 < cLine) (ho : PD K X o da) (he : PD K X e dk) (hf : PD K X f df) (m : M2 X o "get" apos e f cpos) : PD K X (.Call (.Attribute o "get" apos) [e, f] [] cpos) (dGetR da dk df) := fun hK =>
  PE.weak (pe_dget2 hu (ho hK) (he hK) (hf hK) m) fun σ H Q ⟨Z, η, M, ε, Qd, r, s, q, fin⟩ => ⟨Z, η, M, ε, _, r, s, q, fun v1 η1 M1 y1 H1 r1 k1 d1 q1 => by
    obtain ⟨c, kvs, a, us, rfl, em, q2, rfl, ea, eh, _⟩ := rdc_at r1 d1 q1
    refine ⟨a, rfl, .inl ⟨_, .inl eh⟩, Z, η1, M1, ε, _, r1, s.keep k1, q2, fun v2 η2 M2 y2 H2 r2 k2 d2 q3 => ⟨Z, η2, M2, ε, _, r2, (s.keep k1).keep k2, q3, fun v3 η3 M3 y3 H3 r3 k3 d3 q4 => ?_⟩⟩
    have k23 := k2.trans k3
    have ea3 := den_keep k23 ea
    obtain ⟨c', kvs3, a', us3, e1, em3, ⟨i, rfl, q5⟩, e2, ea4, eh3, pr⟩ := rdc_at (v := .ref a) (y := .o c) r3 ⟨a, ea3, rfl⟩ q4
    cases e1
    cases e2
    obtain ⟨f1, f2⟩ := findR_paired (k := .inl i) pr
    have hd3 := d2.keep k3
    refine ⟨_, (show DGet H3 a v2 _ by rw [int_key hd3]; exact DGet.k eh3), ?_⟩
    cases g : findR kvs3 (.inl i) with
    | none =>
      rw [g] at q5
      rw [(f2 g).1]
      exact fin _ η3 M3 y3 H3 r3 (k1.trans k23) d3 q5
    | some j' =>
      rw [g] at q5
      obtain ⟨b, e3, e4⟩ := f1 j' g
      rw [e3]
      exact fin _ η3 M3 (.o j') H3 r3 (k1.trans k23) ⟨b, e4, rfl⟩ q5⟩
theorem pc_inR (hu : X.A.units + 1 < cLine) (he : PD K X e dk) (ho : PD K X o da) : X.K = K → PC X .In e o (tD X.N.length K (dInR dk da)) := fun hK =>
  ⟨fun pins s σ H Q I h => (pc_din hu (he hK) (ho hK)).run pins s σ H Q I (by
    obtain ⟨Z, η, M, ε, Qd, r, s, q, fin⟩ := h
    refine ⟨Z, η, M, ε, _, r, s, q, fun v1 η1 M1 y1 H1 r1 k1 d1 q1 => ⟨Z, η1, M1, ε, _, r1, s.keep k1, q1, fun v2 η2 M2 y2 H2 r2 k2 d2 q2 => ?_⟩⟩
    obtain ⟨c, kvs, a, us, rfl, em, ⟨i, rfl, q3⟩, rfl, ea, eh, pr⟩ := rdc_at r2 d2 q2
    obtain ⟨f1, f2⟩ := findR_paired (k := .inl i) pr
    refine ⟨a, _, rfl, (show DGet H2 a v1 _ by rw [int_key (d1.keep k2)]; exact DGet.k eh), ?_⟩
    have e : (valV (us.map fun q => (q.1, V.ref q.2)) (.inl i)).isSome = (findR kvs (.inl i)).isSome := by
      cases g : findR kvs (.inl i) with
      | none => rw [(f2 g).1]; rfl
      | some j' =>
        obtain ⟨b, e3, _⟩ := f1 j' g
        rw [e3]
        rfl
    rw [e]
    exact fin _ η2 M2 (.d (.bool _)) H2 r2 (k1.trans k2) (.bl _) q3)⟩
theorem pd_inR (hu : X.A.units + 1 < cLine) (he : PD K X e dk) (ho : PD K X o da) (hm : behindInMarks .In o = false) : PD K X (.Compare e [.In] [o] pos) (dInR dk da) := fun hK => pe_cmp (pc_inR hu he ho hK) hm
theorem pd_lenR (hm : X.mg "len" = none) (ha : PD K X e da) (hg : Gl X "len" := by rfl) (he : starEach [e] X.env = (false, eval e X.env) :: starEach [] X.env := by rfl) (hpl : (backTo pos (starEach [] X.env)).any (·.1) = false := by rfl) : PD K X (.Call (.Name "len" p) [e] [] pos) (dLenR da) := fun hK =>
  PE.weak (pe_callB call_lenD hg hm (by decide +kernel) (pa_cons (ha hK) pa_nil he) (by decide) (by decide) he hpl) fun σ H Q ⟨Z, η, M, ε, Qd, r, s, q, fin⟩ => ⟨Z, η, M, ε, _, r, s, q, fun v1 η1 M1 y1 H1 r1 k1 d1 q1 => by
    obtain ⟨c, kvs, a, us, rfl, em, q2, rfl, ea, eh, pr⟩ := rdc_at r1 d1 q1
    refine ⟨a, _, rfl, eh, ?_⟩
    rw [List.length_map, ← Paired.len pr]
    exact fin _ η1 M1 (.d (.int _)) H1 r1 k1 (.int _) q2⟩
end
end Dl
set_option maxHeartbeats 1000000
namespace Eqr
open PySem PySem.Spec L2 Ow Dl
/-! ### numbers of a prime: the plain mathematics -/
/-- no part from 2 to 99 below the number divides it: the law's own look -/
def primeB (n : Int) : Bool := decide (1 < n) && !((List.range 98).any fun i => decide ((i : Int) + 2 < n) && decide (n % ((i : Int) + 2) = 0))
def within : V → Int → Int → Bool
  | .int i, l, m => decide (l ≤ i) && decide (i ≤ m)
  | _, _, _ => false
def prV : V → Bool
  | .int i => (decide (3 ≤ i) && decide (i ≤ 9973)) && primeB i
  | _ => false
/-- a prime here -/
def Pr (p : Int) : Prop := prV (.int p) = true
theorem Pr.lo {p : Int} (h : Pr p) : 3 ≤ p := by
  unfold Pr prV at h
  simp only [Bool.and_eq_true, decide_eq_true_eq] at h
  exact h.1.1
theorem Pr.hi {p : Int} (h : Pr p) : p ≤ 9973 := by
  unfold Pr prV at h
  simp only [Bool.and_eq_true, decide_eq_true_eq] at h
  exact h.1.2
theorem Pr.pr {p : Int} (h : Pr p) : primeB p = true := by
  unfold Pr prV at h
  simp only [Bool.and_eq_true, decide_eq_true_eq] at h
  exact h.2
theorem primeB_no {n : Int} (h : primeB n = true) {d : Int} (h2 : 2 ≤ d) (h3 : d < 100) (h4 : d < n) : n % d ≠ 0 := by
  intro e
  unfold primeB at h
  simp only [Bool.and_eq_true, Bool.not_eq_true', decide_eq_true_eq] at h
  have q : (List.range 98).any (fun i => decide ((i : Int) + 2 < n) && decide (n % ((i : Int) + 2) = 0)) = true := by
    rw [List.any_eq_true]
    refine ⟨(d - 2).toNat, List.mem_range.mpr (by omega), ?_⟩
    have e1 : (((d - 2).toNat : Nat) : Int) + 2 = d := by omega
    rw [e1]
    simp only [Bool.and_eq_true, decide_eq_true_eq]
    exact ⟨h4, e⟩
  rw [q] at h
  exact absurd h.2 (by decide)
theorem primeB_of {n : Int} (h1 : 1 < n) (h : ∀ d : Int, 2 ≤ d → d < 100 → d < n → n % d ≠ 0) : primeB n = true := by
  unfold primeB
  simp only [Bool.and_eq_true, Bool.not_eq_true', decide_eq_true_eq]
  refine ⟨h1, ?_⟩
  cases q : (List.range 98).any (fun i => decide ((i : Int) + 2 < n) && decide (n % ((i : Int) + 2) = 0)) with
  | false => rfl
  | true =>
    rw [List.any_eq_true] at q
    obtain ⟨i, hi, e⟩ := q
    simp only [Bool.and_eq_true, decide_eq_true_eq] at e
    have := List.mem_range.mp hi
    exact absurd e.2 (h _ (by omega) (by omega) e.1)
/-- what the trial by rising divisors finds: no divisor up to the root, no divisor at all -/
theorem no_small {n : Int} (h1 : 1 < n) (h2 : n < 10201) (h : ∀ d : Int, 2 ≤ d → d * d ≤ n → n % d ≠ 0) : primeB n = true := by
  refine primeB_of h1 fun d d1 d2 d3 e => ?_
  by_cases c : d * d ≤ n
  · exact h d d1 c e
  · obtain ⟨k, hk⟩ : ∃ k, n = d * k := ⟨n / d, by have := Int.mul_ediv_add_emod n d; omega⟩
    have k1 : 2 ≤ k := by
      rcases Int.lt_or_le k 2 with z | z
      · rcases Int.lt_or_le k 1 with y | y
        · have : d * k ≤ d * 0 := Int.mul_le_mul_of_nonneg_left (by omega) (by omega)
          omega
        · have : k = 1 := by omega
          subst this
          omega
      · exact z
    have k2 : k < d := by
      rcases Int.lt_or_le k d with z | z
      · exact z
      · have : d * d ≤ d * k := Int.mul_le_mul_of_nonneg_left z (by omega)
        omega
    refine h k k1 ?_ ?_
    · have : k * k ≤ d * k := Int.mul_le_mul_of_nonneg_right (by omega) (by omega)
      omega
    · rw [hk]
      exact Int.mul_emod_left d k
theorem has_small {n d : Int} (h2 : 2 ≤ d) (h3 : d * d ≤ n) (h4 : n % d = 0) (hn : n < 10201) : primeB n = false := by
  have d1 : d < 101 := by
    rcases Int.lt_or_le d 101 with z | z
    · exact z
    · have : 101 * 101 ≤ d * d := Int.mul_le_mul z z (by omega) (by omega)
      omega
  have d2 : d < n := by
    have : 2 * d ≤ d * d := Int.mul_le_mul_of_nonneg_right h2 (by omega)
    omega
  cases q : primeB n with
  | false => rfl
  | true =>
    rcases Int.lt_or_le d 100 with z | z
    · exact absurd h4 (primeB_no q h2 z d2)
    · have e : d = 100 := by omega
      subst e
      exact absurd (show n % 2 = 0 by omega) (primeB_no q (by omega) (by omega) (by omega))
/-! ### rests: sums of multiples -/
/-- x and y leave the same rest by p -/
def Cg (p x y : Int) : Prop := ∃ k, x = y + p * k
theorem Cg.refl (p x : Int) : Cg p x x := ⟨0, by simp⟩
theorem Cg.symm {p x y : Int} (h : Cg p x y) : Cg p y x := by
  obtain ⟨k, hk⟩ := h
  exact ⟨-k, by rw [hk, Int.mul_neg]; omega⟩
theorem Cg.trans {p x y z : Int} (h : Cg p x y) (g : Cg p y z) : Cg p x z := by
  obtain ⟨k, hk⟩ := h
  obtain ⟨l, hl⟩ := g
  exact ⟨k + l, by rw [hk, hl, Int.mul_add]; omega⟩
theorem Cg.mul {p x y u v : Int} (h : Cg p x y) (g : Cg p u v) : Cg p (x * u) (y * v) := by
  obtain ⟨k, rfl⟩ := h
  obtain ⟨l, rfl⟩ := g
  exact ⟨k * v + y * l + p * k * l, by grind⟩
theorem Cg.add {p x y u v : Int} (h : Cg p x y) (g : Cg p u v) : Cg p (x + u) (y + v) := by
  obtain ⟨k, rfl⟩ := h
  obtain ⟨l, rfl⟩ := g
  exact ⟨k + l, by grind⟩
theorem Cg.sub {p x y u v : Int} (h : Cg p x y) (g : Cg p u v) : Cg p (x - u) (y - v) := by
  obtain ⟨k, rfl⟩ := h
  obtain ⟨l, rfl⟩ := g
  exact ⟨k - l, by grind⟩
theorem Cg.pow {p x y : Int} (h : Cg p x y) : ∀ n : Nat, Cg p (x ^ n) (y ^ n)
  | 0 => by
    rw [Int.pow_zero, Int.pow_zero]
    exact Cg.refl _ _
  | n + 1 => by
    rw [Int.pow_succ, Int.pow_succ]
    exact (Cg.pow h n).mul h
theorem Cg.rest (p x : Int) : Cg p (x % p) x := ⟨-(x / p), by have := Int.mul_ediv_add_emod x p; rw [Int.mul_neg]; omega⟩
theorem Cg.emod {p x y : Int} (h : Cg p x y) : x % p = y % p := by
  obtain ⟨k, rfl⟩ := h
  exact Int.add_mul_emod_self_left y p k
theorem Cg.of {p x y : Int} (h : x % p = y % p) : Cg p x y := (Cg.rest p x).symm.trans (h ▸ Cg.rest p y)
theorem Cg.uniq {p x y : Int} (h : Cg p x y) (x0 : 0 ≤ x) (x1 : x < p) (y0 : 0 ≤ y) (y1 : y < p) : x = y := by
  have e := h.emod
  rw [Int.emod_eq_of_lt x0 x1, Int.emod_eq_of_lt y0 y1] at e
  exact e
/-- a back is one -/
theorem back_uniq {p a r s : Int} (hr : Cg p (r * a) 1) (hs : Cg p (s * a) 1) (r0 : 0 ≤ r) (r1 : r < p) (s0 : 0 ≤ s) (s1 : s < p) : r = s := by
  refine Cg.uniq (p := p) ?_ r0 r1 s0 s1
  have h1 : Cg p (r * (s * a)) (r * 1) := (Cg.refl p r).mul hs
  have h2 : Cg p (s * (r * a)) (s * 1) := (Cg.refl p s).mul hr
  have e : r * (s * a) = s * (r * a) := by grind
  rw [e] at h1
  simpa using h1.symm.trans h2
/-! ### primes -/
theorem Pr.nodiv {p : Int} (h : Pr p) {d : Int} (h2 : 2 ≤ d) (h3 : d < p) : p % d ≠ 0 := by
  intro e
  have lo := h.lo
  have hi := h.hi
  rcases Int.lt_or_le d 100 with z | z
  · exact primeB_no h.pr h2 z h3 e
  · have e2 : p = d * (p / d) := by have := Int.mul_ediv_add_emod p d; omega
    have k1 : 2 ≤ p / d := by
      rcases Int.lt_or_le (p / d) 2 with y | y
      · rcases Int.lt_or_le (p / d) 1 with x | x
        · have : d * (p / d) ≤ d * 0 := Int.mul_le_mul_of_nonneg_left (by omega) (by omega)
          omega
        · have : p / d = 1 := by omega
          rw [this] at e2
          omega
      · exact y
    have k2 : p / d < 100 := by
      rcases Int.lt_or_le (p / d) 100 with y | y
      · exact y
      · have : 100 * 100 ≤ d * (p / d) := Int.mul_le_mul z y (by omega) (by omega)
        omega
    refine primeB_no h.pr k1 k2 ?_ ?_
    · have : 2 * (p / d) ≤ d * (p / d) := Int.mul_le_mul_of_nonneg_right h2 (by omega)
      omega
    · generalize p / d = k at e2
      rw [e2]
      exact Int.mul_emod_left d k
/-- nothing but 1 parts both -/
def Apart (x y : Int) : Prop := ∀ d : Int, 2 ≤ d → ¬ (x % d = 0 ∧ y % d = 0)
theorem Pr.apart {p a : Int} (h : Pr p) (a0 : 0 < a) (a1 : a < p) : Apart p a := by
  rintro d d2 ⟨e1, e2⟩
  refine h.nodiv d2 ?_ e1
  rcases Int.lt_or_le d p with z | z
  · exact z
  · rw [Int.emod_eq_of_lt (by omega) (by omega)] at e2
    omega
theorem Apart.step {x y : Int} (h : Apart x y) (k : Int) : Apart y (x - k * y) := by
  rintro d d2 ⟨e1, e2⟩
  refine h d d2 ⟨?_, e1⟩
  have h1 := Int.dvd_of_emod_eq_zero e1
  have h2 := Int.dvd_of_emod_eq_zero e2
  refine Int.emod_eq_zero_of_dvd ?_
  have : x = (x - k * y) + k * y := by omega
  rw [this]
  exact Int.dvd_add h2 (Int.dvd_mul_of_dvd_right h1)
/-- one turn of the looking for a back -/
structure Turn (p a hi lo u v : Int) : Prop where
  ap : Apart hi lo
  h0 : 0 ≤ lo
  h1 : lo < hi
  h2 : hi ≤ p
  c1 : Cg p (u * a) hi
  c2 : Cg p (v * a) lo
theorem Turn.first {p a : Int} (h : Pr p) (a0 : 0 < a) (a1 : a < p) : Turn p a p a 0 1 :=
  ⟨h.apart a0 a1, by omega, a1, Int.le_refl _, ⟨-1, by omega⟩, ⟨0, by omega⟩⟩
theorem Turn.next {p a hi lo u v : Int} (t : Turn p a hi lo u v) (hl : 0 < lo) : Turn p a lo (hi - hi / lo * lo) v (u - hi / lo * v) := by
  have e := Int.mul_ediv_add_emod hi lo
  have e1 : hi - hi / lo * lo = hi % lo := by rw [Int.mul_comm]; omega
  refine ⟨t.ap.step _, ?_, ?_, by have := t.h1; have := t.h2; omega, t.c2, ?_⟩
  · rw [e1]
    exact Int.emod_nonneg _ (by omega)
  · rw [e1]
    exact Int.emod_lt_of_pos _ hl
  · have q := t.c1.sub ((Cg.refl p (hi / lo)).mul t.c2)
    have e2 : (u - hi / lo * v) * a = u * a - hi / lo * (v * a) := by grind
    rw [e2]
    exact q
theorem Turn.low {p a hi lo u v : Int} (t : Turn p a hi lo u v) (hl : 1 < lo) : 0 < hi - hi / lo * lo := by
  have n := t.next (by omega)
  rcases Int.lt_or_le 0 (hi - hi / lo * lo) with z | z
  · exact z
  · have e : hi - hi / lo * lo = 0 := by have := n.h0; omega
    exact absurd ⟨Int.emod_self, by rw [e]; simp⟩ (n.ap lo (by omega))
theorem Turn.share {p a hi lo u v : Int} (t : Turn p a hi lo u v) (hl : 0 < lo) : 0 ≤ hi / lo ∧ hi / lo ≤ p := by
  have h1 := t.h1
  have h2 := t.h2
  refine ⟨Int.ediv_nonneg (by omega) (by omega), Int.le_trans (Int.ediv_le_self _ (by omega)) h2⟩
theorem Turn.late {p a hi u v : Int} (t : Turn p a hi 1 u v) : Cg p (v % p * a) 1 := ((Cg.rest p v).mul (Cg.refl p a)).trans t.c2
theorem Turn.here {p a hi u v : Int} (t : Turn p a hi 0 u v) : Cg p (u % p * a) 1 := by
  have e : hi = 1 := by
    rcases Int.lt_or_le hi 2 with z | z
    · have := t.h1
      omega
    · exact absurd ⟨Int.emod_self, by simp⟩ (t.ap hi z)
  have q := ((Cg.rest p u).mul (Cg.refl p a)).trans t.c1
  rw [e] at q
  exact q
/-- the product of both halves at each turn -/
theorem Turn.half {p a hi lo u v : Int} (t : Turn p a hi lo u v) (hl : 0 < lo) : lo * (hi - hi / lo * lo) * 2 ≤ hi * lo := by
  have h1 := t.h1
  have n := t.next hl
  have s1 : 1 ≤ hi / lo := by
    rw [Int.le_ediv_iff_mul_le hl]
    omega
  have s2 : 1 * lo ≤ hi / lo * lo := Int.mul_le_mul_of_nonneg_right s1 (by omega)
  have n1 := n.h1
  have s3 : (hi - hi / lo * lo) * 2 ≤ hi := by omega
  have s4 : lo * ((hi - hi / lo * lo) * 2) ≤ lo * hi := Int.mul_le_mul_of_nonneg_left s3 (by omega)
  rw [Int.mul_assoc, Int.mul_comm hi lo]
  exact s4
/-! ### powers -/
theorem pow_odd (x : Int) (n : Nat) (h : n % 2 = 1) : x ^ n = x * (x * x) ^ (n / 2) := by
  have e : n = n / 2 + n / 2 + 1 := by omega
  conv => lhs; rw [e, Int.pow_succ, Int.pow_add, ← Int.mul_pow]
  exact Int.mul_comm _ _
theorem pow_even (x : Int) (n : Nat) (h : n % 2 = 0) : x ^ n = (x * x) ^ (n / 2) := by
  have e : n = n / 2 + n / 2 := by omega
  conv => lhs; rw [e, Int.pow_add, ← Int.mul_pow]
/-- r is a's power to m, by backs below 0 -/
def PowIs (p a m r : Int) : Prop := (0 ≤ r ∧ r < p) ∧ (0 ≤ m → Cg p r (a ^ m.toNat)) ∧ (m < 0 → Cg p (r * a ^ (-m).toNat) 1)
theorem PowIs.uniq {p a m r s : Int} (h : PowIs p a m r) (g : PowIs p a m s) : r = s := by
  rcases Int.lt_or_le m 0 with z | z
  · exact back_uniq (h.2.2 z) (g.2.2 z) h.1.1 h.1.2 g.1.1 g.1.2
  · exact Cg.uniq ((h.2.1 z).trans (g.2.1 z).symm) h.1.1 h.1.2 g.1.1 g.1.2
/-! ### Fermat -/
theorem perm_of_in : ∀ (l m : List Nat), l.Nodup → (∀ x ∈ l, x ∈ m) → m.length ≤ l.length → l.Perm m
  | [], m, _, _, h => by
    have e : m = [] := List.eq_nil_of_length_eq_zero (by simpa using h)
    rw [e]
  | a :: l, m, nd, hs, h => by
    have am : a ∈ m := hs a List.mem_cons_self
    have p1 := List.perm_cons_erase am
    have nd' := List.nodup_cons.mp nd
    have p2 : l.Perm (m.erase a) := by
      refine perm_of_in l (m.erase a) nd'.2 (fun x hx => ?_) ?_
      · have ne : x ≠ a := fun e => nd'.1 (e ▸ hx)
        exact (List.mem_erase_of_ne ne).mpr (hs x (List.mem_cons_of_mem _ hx))
      · rw [List.length_erase_of_mem am]
        simp only [List.length_cons] at h
        omega
    exact (List.Perm.cons a p2).trans p1.symm
def prodN : List Nat → Nat
  | [] => 1
  | x :: l => x * prodN l
theorem prodN_perm {l m : List Nat} (h : l.Perm m) : prodN l = prodN m := by
  induction h with
  | nil => rfl
  | cons x _ ih => simp only [prodN, ih]
  | swap x y l => simp only [prodN]; rw [← Nat.mul_assoc, ← Nat.mul_assoc, Nat.mul_comm x y]
  | trans _ _ ih1 ih2 => exact ih1.trans ih2
theorem prodN_mod (a p : Nat) : ∀ l : List Nat, prodN (l.map fun i => a * i % p) % p = a ^ l.length * prodN l % p
  | [] => by simp [prodN]
  | x :: l => by
    show (a * x % p) * prodN (l.map fun i => a * i % p) % p = a ^ (l.length + 1) * (x * prodN l) % p
    rw [Nat.mul_mod, prodN_mod a p l, Nat.mod_mod, ← Nat.mul_mod]
    congr 1
    rw [Nat.pow_succ]
    grind
theorem coprime_of {p a : Nat} (h : ∀ d : Nat, 2 ≤ d → d < p → p % d ≠ 0) (a0 : 0 < a) (a1 : a < p) : Nat.Coprime p a := by
  have g1 := Nat.gcd_dvd_left p a
  have g2 := Nat.gcd_dvd_right p a
  have g3 : Nat.gcd p a ≤ a := Nat.le_of_dvd a0 g2
  have g4 : 0 < Nat.gcd p a := Nat.gcd_pos_of_pos_right _ a0
  show Nat.gcd p a = 1
  rcases Nat.lt_or_ge (Nat.gcd p a) 2 with z | z
  · omega
  · exact absurd (Nat.mod_eq_zero_of_dvd g1) (h _ z (by omega))
theorem coprime_prod {p : Nat} : ∀ l : List Nat, (∀ x ∈ l, Nat.Coprime p x) → Nat.Coprime p (prodN l)
  | [], _ => Nat.coprime_one_right p
  | x :: l, h => Nat.Coprime.mul_right (h x List.mem_cons_self) (coprime_prod l fun y hy => h y (List.mem_cons_of_mem _ hy))
theorem nodup_map {f : Nat → Nat} : ∀ {l : List Nat}, l.Nodup → (∀ x ∈ l, ∀ y ∈ l, f x = f y → x = y) → (l.map f).Nodup
  | [], _, _ => List.nodup_nil
  | a :: l, nd, h => by
    have nd' := List.nodup_cons.mp nd
    rw [List.map_cons, List.nodup_cons]
    refine ⟨fun hm => ?_, nodup_map nd'.2 fun x hx y hy => h x (List.mem_cons_of_mem _ hx) y (List.mem_cons_of_mem _ hy)⟩
    obtain ⟨x, hx, e⟩ := List.mem_map.mp hm
    have := h x (List.mem_cons_of_mem _ hx) a List.mem_cons_self e
    exact nd'.1 (this ▸ hx)
theorem cancel_mod {p x y c : Nat} (h : Nat.Coprime p c) (hxy : y ≤ x) (e : x * c % p = y * c % p) : x % p = y % p := by
  have d : p ∣ (x - y) * c := by
    rw [Nat.sub_mul]
    exact Nat.dvd_of_mod_eq_zero (Nat.sub_mod_eq_zero_of_mod_eq e)
  have d2 := h.dvd_of_dvd_mul_right d
  obtain ⟨k, hk⟩ := d2
  have : x = y + p * k := by omega
  rw [this, Nat.add_mul_mod_self_left]
/-- Fermat, in natural numbers -/
theorem fermatN {p a : Nat} (h : ∀ d : Nat, 2 ≤ d → d < p → p % d ≠ 0) (hp : 2 ≤ p) (a0 : 0 < a) (a1 : a < p) : a ^ (p - 1) % p = 1 := by
  have ca := coprime_of h a0 a1
  have inR : ∀ x ∈ List.range' 1 (p - 1), 0 < x ∧ x < p := fun x hx => by
    have := List.mem_range'_1.mp hx
    omega
  have cp : Nat.Coprime p (prodN (List.range' 1 (p - 1))) := coprime_prod _ fun x hx => coprime_of h (inR x hx).1 (inR x hx).2
  have inj : ∀ x ∈ List.range' 1 (p - 1), ∀ y ∈ List.range' 1 (p - 1), a * x % p = a * y % p → x = y := by
    intro x hx y hy e
    obtain ⟨x0, x1⟩ := inR x hx
    obtain ⟨y0, y1⟩ := inR y hy
    rw [Nat.mul_comm a x, Nat.mul_comm a y] at e
    have fin : ∀ u v : Nat, u < p → v < p → v ≤ u → u * a % p = v * a % p → u = v := fun u v hu hv huv e => by
      have q := cancel_mod ca huv e
      rw [Nat.mod_eq_of_lt hu, Nat.mod_eq_of_lt hv] at q
      exact q
    rcases Nat.le_total y x with z | z
    · exact fin x y x1 y1 z e
    · exact (fin y x y1 x1 z e.symm).symm
  have pm : ((List.range' 1 (p - 1)).map fun i => a * i % p).Perm (List.range' 1 (p - 1)) := by
    refine perm_of_in _ _ (nodup_map (List.nodup_range' 1 (by omega)) inj) (fun x hx => ?_) (by simp)
    obtain ⟨i, hi, rfl⟩ := List.mem_map.mp hx
    obtain ⟨i0, i1⟩ := inR i hi
    have lt : a * i % p < p := Nat.mod_lt _ (by omega)
    have ne : a * i % p ≠ 0 := fun e => by
      have d := Nat.dvd_of_mod_eq_zero e
      have d2 := ca.dvd_of_dvd_mul_left d
      have := Nat.le_of_dvd i0 d2
      omega
    exact List.mem_range'_1.mpr ⟨by omega, by omega⟩
  have e1 := prodN_mod a p (List.range' 1 (p - 1))
  rw [prodN_perm pm, List.length_range'] at e1
  have e2 : a ^ (p - 1) * prodN (List.range' 1 (p - 1)) % p = 1 * prodN (List.range' 1 (p - 1)) % p := by rw [Nat.one_mul]; exact e1.symm
  have q := cancel_mod cp (Nat.one_le_iff_ne_zero.mpr (Nat.ne_of_gt (Nat.pow_pos a0))) e2
  rw [q, Nat.mod_eq_of_lt (by omega)]
theorem Pr.nat {p : Int} (h : Pr p) : ∀ d : Nat, 2 ≤ d → d < p.toNat → p.toNat % d ≠ 0 := by
  intro d d2 d3 e
  refine h.nodiv (d := (d : Int)) (by omega) (by omega) ?_
  have lo := h.lo
  have e2 : p = ((p.toNat : Nat) : Int) := by omega
  rw [e2, ← Int.natCast_emod, e]
  rfl
theorem fermat {p a : Int} (h : Pr p) (a0 : 0 < a) (a1 : a < p) : Cg p (a ^ (p - 1).toNat) 1 := by
  have lo := h.lo
  have q := fermatN (p := p.toNat) (a := a.toNat) h.nat (by omega) (by omega) (by omega)
  have e1 : a = ((a.toNat : Nat) : Int) := by omega
  have e2 : p = ((p.toNat : Nat) : Int) := by omega
  have e3 : (p - 1).toNat = p.toNat - 1 := by omega
  refine Cg.of ?_
  rw [e3, Int.emod_eq_of_lt (show (0:Int) ≤ 1 by omega) (show (1 : Int) < p by omega)]
  conv => lhs; rw [e1, e2]
  rw [← Int.natCast_pow, ← Int.natCast_emod]
  have e4 : ((p.toNat : Nat) : Int).toNat = p.toNat := by omega
  rw [e4, q]
  rfl
theorem dvd_pow_of {p a : Nat} (h : Nat.Coprime p a) (hp : 2 ≤ p) : ∀ n : Nat, a ^ n % p ≠ 0
  | 0 => by rw [Nat.pow_zero, Nat.mod_eq_of_lt (by omega)]; omega
  | n + 1 => fun e => by
    rw [Nat.pow_succ] at e
    have d := h.dvd_of_dvd_mul_right (Nat.dvd_of_mod_eq_zero e)
    exact dvd_pow_of h hp n (Nat.mod_eq_zero_of_dvd d)
/-- a power of a number but 0 is none -/
theorem pow_ne {p a : Int} (h : Pr p) (a0 : 0 < a) (a1 : a < p) (n : Nat) : a ^ n % p ≠ 0 := by
  have lo := h.lo
  have q := dvd_pow_of (coprime_of (p := p.toNat) (a := a.toNat) h.nat (by omega) (by omega)) (by omega) n
  have e1 : a = ((a.toNat : Nat) : Int) := by omega
  have e2 : p = ((p.toNat : Nat) : Int) := by omega
  intro e
  rw [e1, e2, ← Int.natCast_pow, ← Int.natCast_emod] at e
  omega
/-- the least divisor above 1 -/
structure Least (n r : Int) : Prop where
  lo : 2 ≤ r
  hi : r ≤ n
  dv : n % r = 0
  no : ∀ c : Int, 2 ≤ c → c < r → n % c ≠ 0
theorem Least.self {n d : Int} (h1 : 1 < n) (d1 : 2 ≤ d) (hd : ∀ c : Int, 2 ≤ c → c < d → n % c ≠ 0) (hn : n < d * d) : Least n n := by
  refine ⟨by omega, Int.le_refl _, Int.emod_self, fun c c1 c2 e => ?_⟩
  rcases Int.lt_or_le c d with z | z
  · exact hd c c1 z e
  · have e2 : n = c * (n / c) := by have := Int.mul_ediv_add_emod n c; omega
    have k1 : 2 ≤ n / c := by
      rcases Int.lt_or_le (n / c) 2 with y | y
      · rcases Int.lt_or_le (n / c) 1 with x | x
        · have : c * (n / c) ≤ c * 0 := Int.mul_le_mul_of_nonneg_left (by omega) (by omega)
          omega
        · have : n / c = 1 := by omega
          rw [this] at e2
          omega
      · exact y
    have k2 : n / c < d := by
      rcases Int.lt_or_le (n / c) d with y | y
      · exact y
      · have : d * d ≤ c * (n / c) := Int.mul_le_mul z y (by omega) (by omega)
        omega
    refine hd (n / c) k1 k2 ?_
    generalize n / c = k at e2
    rw [e2]
    exact Int.mul_emod_left c k
theorem Least.prime {n r : Int} (h : Least n r) (h1 : 1 < n) (h2 : n < 10201) : decide (r = n) = primeB n := by
  by_cases c : r = n
  · rw [decide_eq_true c]
    subst c
    exact (primeB_of h1 fun d d1 _ d3 => h.no d d1 d3).symm
  · rw [decide_eq_false c]
    have e2 : n = r * (n / r) := by have := Int.mul_ediv_add_emod n r; have := h.dv; omega
    have lo := h.lo
    have hi := h.hi
    have k1 : 2 ≤ n / r := by
      rcases Int.lt_or_le (n / r) 2 with y | y
      · rcases Int.lt_or_le (n / r) 1 with x | x
        · have : r * (n / r) ≤ r * 0 := Int.mul_le_mul_of_nonneg_left (by omega) (by omega)
          omega
        · have : n / r = 1 := by omega
          rw [this] at e2
          omega
      · exact y
    have k2 : r ≤ n / r := by
      rcases Int.lt_or_le (n / r) r with y | y
      · refine absurd ?_ (h.no (n / r) k1 y)
        generalize n / r = k at e2
        rw [e2]
        exact Int.mul_emod_left r k
      · exact y
    have : r * r ≤ r * (n / r) := Int.mul_le_mul_of_nonneg_left k2 (by omega)
    exact (has_small lo (by omega) h.dv h2).symm

end Eqr
set_option maxHeartbeats 1000000
namespace Eqr
open PySem PySem.Spec L2 Ow Dl
/-! ### polys: lists of numbers, the lowest first -/
abbrev Pl := List Int
def cf (f : Pl) (i : Nat) : Int := f.getD i 0
theorem cf_out {f : Pl} {i : Nat} (h : f.length ≤ i) : cf f i = 0 := by
  unfold cf
  rw [List.getD_eq_getElem?_getD, List.getElem?_eq_none h]
  rfl
theorem cf_in {f : Pl} {i : Nat} (h : i < f.length) : cf f i = f[i] := by
  unfold cf
  rw [List.getD_eq_getElem?_getD, List.getElem?_eq_getElem h]
  rfl
theorem cf_at {f : Pl} {i : Nat} {x : Int} (h : f[i]? = some x) : cf f i = x := by
  unfold cf
  rw [List.getD_eq_getElem?_getD, h]
  rfl
theorem cf_zero (a : Int) (f : Pl) : cf (a :: f) 0 = a := rfl
theorem cf_succ (a : Int) (f : Pl) (i : Nat) : cf (a :: f) (i + 1) = cf f i := rfl
/-- no nought at the end -/
def Nrm (f : Pl) : Prop := f.getLast? ≠ some 0
theorem Nrm.top {f : Pl} (h : Nrm f) (h0 : 0 < f.length) : cf f (f.length - 1) ≠ 0 := by
  unfold Nrm at h
  rw [List.getLast?_eq_getElem?, List.getElem?_eq_getElem (by omega)] at h
  rw [cf_in (by omega)]
  exact fun e => h (by rw [e])
theorem Nrm.ext {f g : Pl} (hf : Nrm f) (hg : Nrm g) (h : ∀ i, cf f i = cf g i) : f = g := by
  have key : ∀ {f g : Pl}, Nrm g → (∀ i, cf f i = cf g i) → ¬ f.length < g.length := fun {f g} hg h l => by
    have a := hg.top (by omega)
    rw [← h, cf_out (by omega)] at a
    exact a rfl
  have e : f.length = g.length := by
    have a := key hg h
    have b := key hf fun i => (h i).symm
    omega
  refine List.ext_getElem e fun i h1 h2 => ?_
  rw [← cf_in h1, ← cf_in h2, h]
/-- all numbers of the prime -/
def PlOk (p : Int) (f : Pl) : Prop := ∀ n ∈ f, 0 ≤ n ∧ n < p
theorem PlOk.cf {p : Int} {f : Pl} (h : PlOk p f) (hp : 0 < p) (i : Nat) : 0 ≤ cf f i ∧ cf f i < p := by
  rcases Nat.lt_or_ge i f.length with z | z
  · rw [cf_in z]
    exact h _ (List.getElem_mem z)
  · rw [cf_out z]
    omega
theorem cf_app {f g : Pl} {i : Nat} : cf (f ++ g) i = if i < f.length then cf f i else cf g (i - f.length) := by
  unfold cf
  rw [List.getD_eq_getElem?_getD, List.getD_eq_getElem?_getD, List.getD_eq_getElem?_getD]
  by_cases z : i < f.length
  · rw [if_pos z, List.getElem?_append_left z]
  · rw [if_neg z, List.getElem?_append_right (by omega)]
theorem cf_rep {n i : Nat} : cf (List.replicate n 0) i = 0 := by
  unfold cf
  rw [List.getD_eq_getElem?_getD]
  rcases Nat.lt_or_ge i n with z | z
  · rw [List.getElem?_replicate, if_pos z]
    rfl
  · rw [List.getElem?_eq_none (by rw [List.length_replicate]; exact z)]
    rfl
/-! sums over the first n -/
def sumR : Nat → (Nat → Int) → Int
  | 0, _ => 0
  | n + 1, g => sumR n g + g n
theorem sumR_congr {n : Nat} {g h : Nat → Int} (e : ∀ i, i < n → g i = h i) : sumR n g = sumR n h := by
  induction n with
  | zero => rfl
  | succ n ih => show sumR n g + g n = sumR n h + h n; rw [ih fun i hi => e i (by omega), e n (by omega)]
theorem sumR_zero (n : Nat) : sumR n (fun _ => 0) = 0 := by
  induction n with
  | zero => rfl
  | succ n ih => show sumR n (fun _ => 0) + 0 = 0; rw [ih]; rfl
theorem sumR_add (n : Nat) (g h : Nat → Int) : sumR n (fun i => g i + h i) = sumR n g + sumR n h := by
  induction n with
  | zero => rfl
  | succ n ih => show sumR n (fun i => g i + h i) + (g n + h n) = sumR n g + g n + (sumR n h + h n); rw [ih]; omega
theorem sumR_mul (n : Nat) (k : Int) (g : Nat → Int) : sumR n (fun i => k * g i) = k * sumR n g := by
  induction n with
  | zero => exact (Int.mul_zero k).symm
  | succ n ih => show sumR n (fun i => k * g i) + k * g n = k * (sumR n g + g n); rw [ih, Int.mul_add]
theorem sumR_first (n : Nat) (g : Nat → Int) : sumR (n + 1) g = g 0 + sumR n fun i => g (i + 1) := by
  induction n with
  | zero => show 0 + g 0 = g 0 + 0; omega
  | succ n ih => show sumR (n + 1) g + g (n + 1) = g 0 + (sumR n (fun i => g (i + 1)) + g (n + 1)); rw [ih]; omega
theorem sumR_more {n m : Nat} {g : Nat → Int} (h : n ≤ m) (e : ∀ i, n ≤ i → g i = 0) : sumR m g = sumR n g := by
  induction m with
  | zero =>
    have : n = 0 := by omega
    rw [this]
  | succ m ih =>
    rcases Nat.lt_or_ge n (m + 1) with z | z
    · show sumR m g + g m = _
      rw [ih (by omega), e m (by omega), Int.add_zero]
    · have : n = m + 1 := by omega
      rw [this]
theorem sumR_rev (n : Nat) (g : Nat → Int) : sumR (n + 1) g = sumR (n + 1) fun i => g (n - i) := by
  induction n generalizing g with
  | zero => rfl
  | succ n ih =>
    rw [sumR_first (n + 1) g, ih]
    show _ = sumR (n + 1) (fun i => g (n + 1 - i)) + g (n + 1 - (n + 1))
    have e : sumR (n + 1) (fun i => g (n - i + 1)) = sumR (n + 1) fun i => g (n + 1 - i) := sumR_congr fun i hi => by
      congr 1
      omega
    rw [e, Nat.sub_self]
    omega
theorem sumR_cg {p : Int} {n : Nat} {g h : Nat → Int} (e : ∀ i, i < n → Cg p (g i) (h i)) : Cg p (sumR n g) (sumR n h) := by
  induction n with
  | zero => exact Cg.refl _ _
  | succ n ih => exact (ih fun i hi => e i (by omega)).add (e n (by omega))
/-! products -/
def mulC (f g : Pl) (k : Nat) : Int := sumR f.length fun i => if i ≤ k then cf f i * cf g (k - i) else 0
theorem mulC_k (f g : Pl) (k : Nat) : mulC f g k = sumR (k + 1) fun i => cf f i * cf g (k - i) := by
  unfold mulC
  rcases Nat.lt_or_ge f.length (k + 1) with z | z
  · rw [sumR_more (n := f.length) (m := k + 1) (by omega) fun i hi => by rw [cf_out hi, Int.zero_mul]]
    exact sumR_congr fun i hi => if_pos (by omega)
  · rw [sumR_more (n := k + 1) (m := f.length) z fun i hi => if_neg (by omega)]
    exact sumR_congr fun i hi => if_pos (by omega)
theorem mulC_comm (f g : Pl) (k : Nat) : mulC f g k = mulC g f k := by
  rw [mulC_k, mulC_k, sumR_rev]
  refine sumR_congr fun i hi => ?_
  rw [Int.mul_comm]
  congr 2
  omega
theorem mulC_out {f g : Pl} {k : Nat} (h : f.length + g.length ≤ k + 1) : mulC f g k = 0 := by
  unfold mulC
  rw [sumR_congr (h := fun _ => 0) fun i hi => ?_, sumR_zero]
  split
  · rw [cf_out (f := g) (by omega), Int.mul_zero]
  · rfl
theorem mulC_nil (g : Pl) (k : Nat) : mulC [] g k = 0 := rfl
theorem mulC_cons (a : Int) (f g : Pl) (k : Nat) : mulC (a :: f) g k = a * cf g k + if k = 0 then 0 else mulC f g (k - 1) := by
  rw [mulC_k, sumR_first]
  show a * cf g k + _ = _
  congr 1
  by_cases z : k = 0
  · rw [if_pos z, z]
    rfl
  · rw [if_neg z, mulC_k]
    have e : k - 1 + 1 = k := by omega
    rw [e]
    refine sumR_congr fun i hi => ?_
    rw [cf_succ]
    congr 2
    omega
/-! values -/
def ev : Pl → Int → Int
  | [], _ => 0
  | a :: f, x => a + x * ev f x
/-- the value by numbers -/
def evC (n : Nat) (h : Nat → Int) (x : Int) : Int := sumR n fun i => h i * x ^ i
theorem evC_succ (n : Nat) (h : Nat → Int) (x : Int) : evC (n + 1) h x = h 0 + x * evC n (fun i => h (i + 1)) x := by
  unfold evC
  rw [sumR_first, ← sumR_mul]
  congr 1
  · rw [Int.pow_zero, Int.mul_one]
  · refine sumR_congr fun i _ => ?_
    rw [Int.pow_succ, Int.mul_comm x, Int.mul_assoc]
theorem ev_evC : ∀ {f : Pl} {n : Nat} (x : Int), f.length ≤ n → ev f x = evC n (cf f) x
  | [], n, x, _ => by
    unfold evC
    rw [sumR_congr (h := fun _ => 0) fun i _ => by rw [cf_out (Nat.zero_le i), Int.zero_mul], sumR_zero]
    rfl
  | a :: f, 0, x, h => by simp at h
  | a :: f, n + 1, x, h => by
    rw [evC_succ]
    show a + x * ev f x = _
    rw [ev_evC (f := f) (n := n) x (by simpa using h)]
    rfl
theorem evC_cg {p : Int} {n : Nat} {g h : Nat → Int} {x : Int} (e : ∀ i, i < n → Cg p (g i) (h i)) : Cg p (evC n g x) (evC n h x) := sumR_cg fun i hi => (e i hi).mul (Cg.refl p _)
theorem evC_add (n : Nat) (g h : Nat → Int) (x : Int) : evC n (fun i => g i + h i) x = evC n g x + evC n h x := by
  unfold evC
  rw [← sumR_add]
  exact sumR_congr fun i _ => Int.add_mul ..
theorem evC_mul (n : Nat) (k : Int) (h : Nat → Int) (x : Int) : evC n (fun i => k * h i) x = k * evC n h x := by
  unfold evC
  rw [← sumR_mul]
  exact sumR_congr fun i _ => Int.mul_assoc ..
/-- the value of a product -/
theorem evC_prod : ∀ {f g : Pl} {n : Nat} (x : Int), f.length + g.length ≤ n → evC n (mulC f g) x = ev f x * ev g x
  | [], g, n, x, _ => by
    show evC n (fun _ => 0) x = 0 * _
    unfold evC
    rw [sumR_congr (h := fun _ => 0) fun i _ => Int.zero_mul _, sumR_zero, Int.zero_mul]
  | a :: f, g, n, x, h => by
    have h : f.length + 1 + g.length ≤ n := h
    obtain ⟨m, rfl⟩ : ∃ m, n = m + 1 := ⟨n - 1, by omega⟩
    have e : evC (m + 1) (mulC (a :: f) g) x = evC (m + 1) (fun k => a * cf g k + if k = 0 then 0 else mulC f g (k - 1)) x := by
      unfold evC
      exact sumR_congr fun i _ => by rw [mulC_cons]
    rw [e, evC_add, evC_mul, ← ev_evC x (by omega), evC_succ m (fun k => if k = 0 then 0 else mulC f g (k - 1))]
    have e2 : evC m (fun i => if i + 1 = 0 then 0 else mulC f g (i + 1 - 1)) x = evC m (mulC f g) x := by
      unfold evC
      exact sumR_congr fun i _ => by
        show (if i + 1 = 0 then 0 else mulC f g (i + 1 - 1)) * x ^ i = _
        rw [if_neg (by omega)]
        rfl
    rw [e2, evC_prod (f := f) (g := g) x (by omega)]
    show a * ev g x + (0 + x * (ev f x * ev g x)) = (a + x * ev f x) * ev g x
    rw [Int.add_mul, Int.zero_add, Int.mul_assoc]
/-! what is left without noughts at the end -/
def told0 (f : Pl) : Pl := (f.reverse.dropWhile fun x => decide (x = 0)).reverse
theorem told0_app (f : Pl) (a : Int) : told0 (f ++ [a]) = if a = 0 then told0 f else f ++ [a] := by
  unfold told0
  rw [List.reverse_append]
  show (List.dropWhile (fun x => decide (x = 0)) (a :: f.reverse)).reverse = _
  by_cases z : a = 0
  · rw [if_pos z, List.dropWhile_cons_of_pos (by simp [z])]
  · rw [if_neg z, List.dropWhile_cons_of_neg (by simp [z])]
    simp
theorem told0_nil : told0 [] = [] := rfl
theorem told0_len (f : Pl) : (told0 f).length ≤ f.length := by
  unfold told0
  rw [List.length_reverse]
  refine Nat.le_trans (List.dropWhile_sublist _).length_le ?_
  rw [List.length_reverse]
  exact Nat.le_refl _
theorem told0_nrm (f : Pl) : Nrm (told0 f) ∧ ∀ i, cf (told0 f) i = cf f i := by
  rcases List.eq_nil_or_concat f with rfl | ⟨g, a, rfl⟩
  · exact ⟨fun e => (nomatch e), fun i => rfl⟩
  · have hl : g.length < (g ++ [a]).length := by simp
    obtain ⟨h1, h2⟩ := told0_nrm g
    rw [List.concat_eq_append, told0_app]
    by_cases z : a = 0
    · rw [if_pos z]
      refine ⟨h1, fun i => ?_⟩
      rw [h2, cf_app]
      by_cases y : i < g.length
      · rw [if_pos y]
      · rw [if_neg y, cf_out (by omega), z]
        cases i - g.length <;> rfl
    · rw [if_neg z]
      refine ⟨fun e => ?_, fun i => rfl⟩
      rw [List.getLast?_append] at e
      simp at e
      exact z e
termination_by f.length
theorem told0_id {f : Pl} (h : Nrm f) : told0 f = f := (told0_nrm f).1.ext h (told0_nrm f).2
theorem told0_ok {p : Int} {f : Pl} (h : PlOk p f) : PlOk p (told0 f) := fun n hn => by
  unfold told0 at hn
  rw [List.mem_reverse] at hn
  exact h n (List.mem_reverse.mp ((List.dropWhile_sublist _).mem hn))
theorem told0_eq {f g : Pl} (h : ∀ i, cf f i = cf g i) : told0 f = told0 g := (told0_nrm f).1.ext (told0_nrm g).1 fun i => by rw [(told0_nrm f).2, (told0_nrm g).2, h]
theorem ev_told (f : Pl) (x : Int) : ev (told0 f) x = ev f x := by
  rw [ev_evC (n := f.length) x (told0_len f), ev_evC (n := f.length) x (Nat.le_refl _)]
  unfold evC
  exact sumR_congr fun i _ => by rw [(told0_nrm f).2]

end Eqr
set_option maxHeartbeats 1000000
namespace Eqr
open PySem PySem.Spec L2 Ow Dl
/-! ### data that is looked at -/
def Nm (p a : Int) : Prop := 0 ≤ a ∧ a < p
theorem nm_mod {p x : Int} (h : 0 < p) : Nm p (x % p) := ⟨Int.emod_nonneg _ (by omega), Int.emod_lt_of_pos _ h⟩
def isInt : PyData → Bool
  | .int _ => true
  | _ => false
def isStr : PyData → Bool
  | .str _ => true
  | _ => false
def isTup : PyData → Bool
  | .tuple _ => true
  | _ => false
def isLst : PyData → Bool
  | .list _ => true
  | _ => false
def isSeq : PyData → Bool
  | .list _ => true
  | .tuple _ => true
  | _ => false
theorem isK_tup (d : PyData) : Ow.isK d "tuple" = isTup d := by cases d <;> simp [Ow.isK, Ow.kindD, isTup]
theorem isK_str (d : PyData) : Ow.isK d "str" = isStr d := by cases d <;> simp [Ow.isK, Ow.kindD, isStr]
theorem isK_lst (d : PyData) : Ow.isK d "list" = isLst d := by cases d <;> simp [Ow.isK, Ow.kindD, isLst]
theorem isK_seq (d : PyData) : (Ow.isK d "list" || Ow.isK d "tuple") = isSeq d := by cases d <;> simp [Ow.isK, Ow.kindD, isSeq]
def withinD : PyData → Int → Int → Bool
  | .int i, l, m => decide (l ≤ i) && decide (i ≤ m)
  | _, _, _ => false
theorem Nm.within {p a : Int} (h : Nm p a) : withinD (.int a) 0 (p - 1) = true := by
  have e : withinD (.int a) 0 (p - 1) = (decide (0 ≤ a) && decide (a ≤ p - 1)) := rfl
  rw [e, decide_eq_true h.1, decide_eq_true (by have := h.2; omega)]
  rfl
def primeD : PyData → Bool
  | .int i => prV (.int i)
  | _ => false
def seqD : PyData → List PyData
  | .list ds => ds
  | .tuple ds => ds
  | _ => []
theorem k_int : ("int" : String) ∈ Ow.kinds := by decide
theorem k_bool : ("bool" : String) ∈ Ow.kinds := by decide
theorem k_tup : ("tuple" : String) ∈ Ow.kinds := by decide
theorem k_lst : ("list" : String) ∈ Ow.kinds := by decide
theorem k_str : ("str" : String) ∈ Ow.kinds := by decide
theorem k_dct : ("dict" : String) ∈ Ow.kinds := by decide

end Eqr
set_option maxHeartbeats 1000000
namespace Eqr
open PySem PySem.Spec L2 Ow Dl
/-! ### lists of whole numbers as data -/
abbrev il (f : List Int) : List PyData := f.map PyData.int
theorem ints_shaped (ns : List Int) : SeqAt.shaped (.list (ns.map PyData.int)) = true := by
  have h1 : PyData.canLayAll0 (ns.map PyData.int) = true := by
    induction ns with
    | nil => rfl
    | cons n ns ih => simp only [List.map_cons, PyData.canLayAll0, PyData.canLay0, ih, Bool.and_self]
  have h2 : PyData.depthAll (ns.map PyData.int) = 0 := by
    induction ns with
    | nil => rfl
    | cons n ns ih => simp only [List.map_cons, PyData.depthAll, PyData.depth, ih (by simp only [List.map_cons, PyData.canLayAll0, PyData.canLay0, Bool.and_eq_true] at h1; exact h1.2), Nat.max_self]
  unfold SeqAt.shaped
  simp only [PyData.canLay0, PyData.depth, h1, h2]
  decide
theorem eqv_nil (ns : List Int) : PyData.eqv (.list (ns.map PyData.int)) (.list []) = decide (ns = []) := by
  cases ns with
  | nil => simp [PyData.eqv, PyData.eqvAll]
  | cons n ns => simp [PyData.eqv, PyData.eqvAll]
theorem eqv_ints : ∀ (ns ms : List Int), PyData.eqv (.list (ns.map PyData.int)) (.list (ms.map PyData.int)) = decide (ns = ms) := by
  intro ns ms
  by_cases h : ns = ms
  · rw [h, decide_eq_true rfl]
    exact Ow.eqv_self (SeqAt.canLay_of_shaped (ints_shaped ms))
  · rw [decide_eq_false h, Bool.eq_false_iff]
    intro e
    have hp : ∀ ks : List Int, Ow.plainD (.list (ks.map PyData.int)) = true := fun ks => by
      have : Ow.plainAllD (ks.map PyData.int) = true := by
        induction ks with
        | nil => rfl
        | cons k ks ih => simp only [List.map_cons, Ow.plainAllD, Ow.plainD, ih, Bool.and_self]
      simpa only [Ow.plainD] using this
    have := Ow.eqv_plain _ _ (hp ns) (hp ms) e
    injection this with this
    exact h (List.map_inj_right (fun a b q => PyData.int.inj q) |>.mp this)
theorem atI_lst {α : Type} {xs : List α} {v : α} (h : xs.getLast? = some v) : atI xs (-1) = some v := by
  have hn : xs ≠ [] := fun e => by rw [e] at h; cases h
  have h0 : 0 < xs.length := List.length_pos_iff.mpr hn
  unfold atI ixN
  rw [if_neg (by omega)]
  first
    | rw [if_pos (by omega)]
    | skip
  rw [List.getLast?_eq_getElem?] at h
  have e : ((-1 : Int) + (xs.length : Int)).toNat = xs.length - 1 := by omega
  simp only [Option.bind_some, e]
  exact h
theorem il_len (f : List Int) : (il f).length = f.length := List.length_map ..
theorem flat_repD (n : Nat) (x : PyData) : (List.replicate n [x]).flatten = List.replicate n x := by
  induction n with
  | zero => rfl
  | succ n ih => rw [List.replicate_succ, List.flatten_cons, ih, List.replicate_succ]; rfl
theorem rep_il (n : Nat) (x : Int) : (List.replicate n [PyData.int x]).flatten = il (List.replicate n x) := by rw [flat_repD, il, List.map_replicate]
theorem il_app (f g : List Int) : il f ++ il g = il (f ++ g) := (List.map_append ..).symm
theorem il_at {f : List Int} {i : Nat} {x : PyData} (h : (il f)[i]? = some x) : ∃ n, f[i]? = some n ∧ x = .int n := by
  rw [il, List.getElem?_map] at h
  obtain ⟨n, e, q⟩ := Option.map_eq_some_iff.mp h
  exact ⟨n, e, q.symm⟩
/-- a list or a tuple of these -/
def Sq (d : PyData) (xs : List PyData) : Prop := d = .list xs ∨ d = .tuple xs
theorem Sq.l (xs : List PyData) : Sq (.list xs) xs := .inl rfl
theorem Sq.t (xs : List PyData) : Sq (.tuple xs) xs := .inr rfl
theorem zipD_get {xs ys : List PyData} {i : Nat} {x : PyData} (h : (zipD xs ys)[i]? = some x) : ∃ a b, xs[i]? = some a ∧ ys[i]? = some b ∧ x = .tuple [a, b] := by
  unfold zipD at h
  rw [List.getElem?_map] at h
  obtain ⟨⟨a, b⟩, e, q⟩ := Option.map_eq_some_iff.mp h
  rw [List.getElem?_zip_eq_some] at e
  exact ⟨a, b, e.1, e.2, q.symm⟩
theorem enumD_get {xs : List PyData} {i : Nat} {x : PyData} (h : (enumD xs)[i]? = some x) : ∃ a, xs[i]? = some a ∧ x = .tuple [.int (i : Int), a] := by
  have hi : i < xs.length := by
    have := (List.getElem?_eq_some_iff.mp h).1
    rw [enumD_len] at this
    exact this
  rw [enumD_at (List.getElem?_eq_getElem hi)] at h
  exact ⟨_, List.getElem?_eq_getElem hi, (Option.some.inj h).symm⟩
theorem rangeD_get {lo : Int} {n i : Nat} {x : PyData} (h : (rangeD lo n)[i]? = some x) : i < n ∧ x = .int (lo + (i : Int)) := by
  have hi : i < n := by
    have := (List.getElem?_eq_some_iff.mp h).1
    rw [rangeD_len] at this
    exact this
  rw [rangeD_at hi] at h
  exact ⟨hi, (Option.some.inj h).symm⟩
/-- the i-th item gives f i -/
theorem lc_at {own : Bool} {items : List PyData} {M : Mem} {Q : DK} {P : Nat → PyData → (Option PyData → Prop) → Prop} (n : Nat) (f : Nat → PyData) (hn : items.length = n) (hsz : n ≤ 1000000)
    (h : ∀ i x, i < n → items[i]? = some x → ∀ R : Option PyData → Prop, R (some (f i)) → P i x R) (q : born own (.l ((List.range n).map f)) M Q) :
    LcAll own items M Q P := by
  refine ⟨sz _ (by omega), fun i _ z => z = some (f i), fun i x e => h i x (by rw [← hn]; exact (List.getElem?_eq_some_iff.mp e).1) e _ rfl, fun zs hl hz => ?_⟩
  have : zs = (List.range n).map fun i => some (f i) := by
    refine List.ext_getElem (by rw [List.length_map, List.length_range, hl, hn]) fun i h1 h2 => ?_
    rw [List.getElem_map, List.getElem_range]
    exact hz i _ _ (List.getElem?_eq_getElem (by omega)) (List.getElem?_eq_getElem h1)
  rw [this]
  have key : ∀ l : List Nat, (l.map fun i => some (f i)).filterMap id = l.map f := by
    intro l
    induction l with
    | nil => rfl
    | cons a l ih =>
      rw [List.map_cons, List.map_cons, List.filterMap_cons]
      show f a :: List.filterMap id (l.map fun i => some (f i)) = _
      rw [ih]
  rw [key]
  exact q
/-- what comes of items: some are left out -/
theorem lc_if {own : Bool} {items : List PyData} {M : Mem} {Q : DK} {P : Nat → PyData → (Option PyData → Prop) → Prop} (n : Nat) (c : Nat → Bool) (f : Nat → PyData) (hn : items.length = n) (hsz : n ≤ 1000000)
    (h : ∀ i x, i < n → items[i]? = some x → ∀ R : Option PyData → Prop, R (if c i = true then some (f i) else none) → P i x R) (q : born own (.l (((List.range n).filter c).map f)) M Q) :
    LcAll own items M Q P := by
  refine ⟨sz _ (by omega), fun i _ z => z = if c i = true then some (f i) else none, fun i x e => h i x (by rw [← hn]; exact (List.getElem?_eq_some_iff.mp e).1) e _ rfl, fun zs hl hz => ?_⟩
  have : zs = (List.range n).map fun i => if c i = true then some (f i) else none := by
    refine List.ext_getElem (by rw [List.length_map, List.length_range, hl, hn]) fun i h1 h2 => ?_
    rw [List.getElem_map, List.getElem_range]
    exact hz i _ _ (List.getElem?_eq_getElem (by omega)) (List.getElem?_eq_getElem h1)
  rw [this]
  have key : ∀ l : List Nat, (l.map fun i => if c i = true then some (f i) else none).filterMap id = (l.filter c).map f := by
    intro l
    induction l with
    | nil => rfl
    | cons a l ih =>
      rw [List.map_cons, List.filterMap_cons, List.filter_cons]
      by_cases z : c a = true
      · rw [if_pos z, if_pos z, List.map_cons]
        show f a :: List.filterMap id (l.map fun i => if c i = true then some (f i) else none) = _
        rw [ih]
      · rw [if_neg z, if_neg z]
        exact ih
  rw [key]
  exact q
/-- what comes of items: any that fit -/
theorem lc_any {own : Bool} {items : List PyData} {M : Mem} {Q : DK} {P : Nat → PyData → (Option PyData → Prop) → Prop} (R : PyData → Prop) (hsz : items.length ≤ 1000000)
    (h : ∀ i x, items[i]? = some x → ∀ R' : Option PyData → Prop, (∀ y, R y → R' (some y)) → P i x R') (q : ∀ ys : List PyData, ys.length = items.length → (∀ y ∈ ys, R y) → born own (.l ys) M Q) :
    LcAll own items M Q P := by
  refine ⟨sz _ hsz, fun _ _ z => ∃ y, z = some y ∧ R y, fun i x e => h i x e _ fun y r => ⟨y, rfl, r⟩, fun zs hl hz => ?_⟩
  have key : ∀ zs : List (Option PyData), (∀ z ∈ zs, ∃ y, z = some y ∧ R y) → (zs.filterMap id).length = zs.length ∧ ∀ y ∈ zs.filterMap id, R y := by
    intro zs
    induction zs with
    | nil => intro _; exact ⟨rfl, fun y hy => nomatch hy⟩
    | cons z zs ih =>
      intro hz
      obtain ⟨y, rfl, r⟩ := hz z List.mem_cons_self
      obtain ⟨a, b⟩ := ih fun z hm => hz z (List.mem_cons_of_mem _ hm)
      have e : (some y :: zs).filterMap id = y :: zs.filterMap id := rfl
      rw [e]
      refine ⟨by rw [List.length_cons, List.length_cons, a], fun u hu => ?_⟩
      rcases List.mem_cons.mp hu with q | q
      · rw [q]; exact r
      · exact b u q
  obtain ⟨a, b⟩ := key zs fun z hz' => by
    obtain ⟨i, hi, e⟩ := List.getElem_of_mem hz'
    exact hz i _ z (List.getElem?_eq_getElem (by omega)) (by rw [List.getElem?_eq_getElem hi, e])
  exact q _ (by rw [a, hl]) b
theorem lk1_mk {α : Type} {x : Option α} {Q : α → Prop} {d : α} (e : x = some d) (h : Q d) : lk1 x Q := by
  rw [e]
  exact h
theorem at_of {α : Type} {xs : List α} {j : Int} {v : α} (h : 0 ≤ j) (e : xs[j.toNat]? = some v) : atI xs j = some v := by
  have := atI_nat e
  rwa [Int.toNat_of_nonneg h] at this
theorem fEq_ints {neg : Bool} {f g : List Int} {Q : Res → Prop} (h : Q (.v (.bool (if neg then !decide (f = g) else decide (f = g))))) : fEq neg (.list (il f)) (.list (il g)) Q :=
  ⟨ints_shaped f, ints_shaped g, by rw [eqv_ints]; exact h⟩
theorem il_range (n : Nat) (h : Nat → Int) : ((List.range n).map fun i => PyData.int (h i)) = il ((List.range n).map h) := by
  rw [il, List.map_map]
  rfl
theorem map_at {xs : List PyData} {f : Nat → PyData} {g : PyData → PyData} (h : ∀ i x, xs[i]? = some x → f i = g x) : (List.range xs.length).map f = xs.map g := by
  refine List.ext_getElem (by simp) fun i h1 h2 => ?_
  simp only [List.getElem_map, List.getElem_range]
  exact h i _ (List.getElem?_eq_getElem (by simpa using h2))
theorem asBools_map' (L : List Nat) (f : Nat → Bool) : asBools (L.map fun i => PyData.bool (f i)) = some (L.map f) := by
  have : (L.map fun i => PyData.bool (f i)) = (L.map f).map PyData.bool := by
    rw [List.map_map]
    rfl
  rw [this, asBools_map]

end Eqr
set_option maxHeartbeats 1000000
namespace Eqr
open PySem PySem.Spec L2 Ow Dl
/-! ### where the next prime stands -/
def noDiv (n : Nat) : Nat → Nat → Bool
  | 0, _ => true
  | k + 1, d => cond (Nat.beq (n % d) 0) (Nat.ble n d) (noDiv n k (d + 1))
theorem noDiv_ok {n : Nat} : ∀ {k d : Nat}, noDiv n k d = true → ∀ c, d ≤ c → c < d + k → c < n → n % c ≠ 0
  | 0, d, _, c, h1, h2, _ => by omega
  | k + 1, d, h, c, h1, h2, h3 => by
    unfold noDiv at h
    cases e : Nat.beq (n % d) 0 with
    | true =>
      rw [e] at h
      have h : Nat.ble n d = true := h
      have := Nat.le_of_ble_eq_true h
      omega
    | false =>
      rw [e] at h
      have h : noDiv n k (d + 1) = true := h
      rcases Nat.lt_or_ge d c with z | z
      · exact noDiv_ok h c (by omega) (by omega) h3
      · have e2 : c = d := by omega
        rw [e2]
        exact Nat.ne_of_beq_eq_false e
def gaps : Nat → Nat → Bool
  | 0, _ => true
  | n + 1, d => cond (noDiv (n + 1) 98 2) (gaps n 0) (cond (Nat.ble 39 d) (Nat.ble (n + 1) 2) (gaps n (d + 1)))
theorem gaps_ok : ∀ (n d : Nat), gaps n d = true → (∃ j, j ≤ d ∧ n + 1 + d = n + 1 + j ∧ noDiv (n + 1 + d) 98 2 = true) → d ≤ 39 → ∀ f, 3 ≤ f → f ≤ n + 1 → ∃ j, j < 40 ∧ f + j ≤ n + 1 + d ∧ noDiv (f + j) 98 2 = true
  | 0, d, _, _, _, f, h1, h2 => by omega
  | n + 1, d, h, ⟨j, hj, he, hp⟩, hd, f, h1, h2 => by
    rcases Nat.lt_or_ge f (n + 2) with z | z
    · unfold gaps at h
      cases e : noDiv (n + 1) 98 2 with
      | true =>
        rw [e] at h
        obtain ⟨i, i1, i2, i3⟩ := gaps_ok n 0 h ⟨0, Nat.le_refl _, rfl, e⟩ (by omega) f h1 (by omega)
        exact ⟨i, i1, by omega, i3⟩
      | false =>
        rw [e] at h
        have h : cond (Nat.ble 39 d) (Nat.ble (n + 1) 2) (gaps n (d + 1)) = true := h
        cases e2 : Nat.ble 39 d with
        | true =>
          rw [e2] at h
          have := Nat.le_of_ble_eq_true (show Nat.ble (n + 1) 2 = true from h)
          omega
        | false =>
          rw [e2] at h
          have hd2 : ¬ 39 ≤ d := fun q => by rw [Nat.ble_eq_true_of_le q] at e2; cases e2
          have eq : n + 1 + (d + 1) = n + 1 + 1 + d := by omega
          obtain ⟨i, i1, i2, i3⟩ := gaps_ok n (d + 1) h ⟨d + 1, Nat.le_refl _, rfl, by rw [eq]; exact hp⟩ (by omega) f h1 (by omega)
          exact ⟨i, i1, by omega, i3⟩
    · have e : f = n + 2 := by omega
      refine ⟨d, by omega, by omega, ?_⟩
      have eq : f + d = n + 1 + 1 + d := by omega
      rw [eq]
      exact hp
set_option maxRecDepth 1000000 in
theorem gaps_9973 : gaps 9972 0 = true := by decide +kernel
theorem next_prime {f : Nat} (h1 : 3 ≤ f) (h2 : f ≤ 9973) : ∃ j, j < 40 ∧ f + j ≤ 9973 ∧ primeB ((f : Int) + (j : Int)) = true := by
  obtain ⟨j, j1, j2, j3⟩ := gaps_ok 9972 0 gaps_9973 ⟨0, Nat.le_refl _, rfl, by decide +kernel⟩ (by omega) f h1 (by omega)
  refine ⟨j, j1, by omega, primeB_of (by omega) fun d d1 d2 d3 e => ?_⟩
  refine noDiv_ok j3 d.toNat (by omega) (by omega) (by omega) ?_
  have e1 : (((f + j) % d.toNat : Nat) : Int) = ((f : Int) + (j : Int)) % d := by
    rw [Int.natCast_emod, Int.natCast_add]
    congr 1
    omega
  rw [e] at e1
  omega

end Eqr
set_option maxHeartbeats 1000000
namespace Eqr
open PySem PySem.Spec L2 Ow Dl
/-! ### orders -/
/-- the order of a number -/
structure Ord (p a : Int) (d : Nat) : Prop where
  pos : 0 < d
  one : Cg p (a ^ d) 1
  no : ∀ e : Nat, 0 < e → e < d → ¬ Cg p (a ^ e) 1
theorem Cg.cong {p x y : Int} (h : Cg p x y) : Cg p x 1 ↔ Cg p y 1 := ⟨fun z => h.symm.trans z, fun z => h.trans z⟩
theorem pow_mod_one {p a : Int} {d n : Nat} (h : Cg p (a ^ d) 1) : Cg p (a ^ n) (a ^ (n % d)) := by
  have e : a ^ n = (a ^ d) ^ (n / d) * a ^ (n % d) := by
    rw [← Int.pow_mul, ← Int.pow_add, Nat.div_add_mod]
  rw [e]
  have q := (h.pow (n / d)).mul (Cg.refl p (a ^ (n % d)))
  rw [Int.one_pow, Int.one_mul] at q
  exact q
theorem Ord.dvd {p a : Int} {d n : Nat} (h : Ord p a d) : Cg p (a ^ n) 1 ↔ d ∣ n := by
  constructor
  · intro z
    have q := (pow_mod_one h.one).symm.trans z
    rcases Nat.eq_zero_or_pos (n % d) with e | e
    · exact Nat.dvd_of_mod_eq_zero e
    · exact absurd q (h.no _ e (Nat.mod_lt _ h.pos))
  · rintro ⟨k, rfl⟩
    rw [Int.pow_mul]
    have q := h.one.pow k
    rw [Int.one_pow] at q
    exact q
theorem Ord.uniq {p a : Int} {d e : Nat} (h : Ord p a d) (g : Ord p a e) : d = e := Nat.dvd_antisymm (h.dvd.mp g.one) (g.dvd.mp h.one)
theorem Ord.cong {p a b : Int} {d : Nat} (h : Ord p a d) (c : Cg p a b) : Ord p b d :=
  ⟨h.pos, (c.pow d).symm.trans h.one, fun e e0 e1 z => h.no e e0 e1 ((c.pow e).trans z)⟩
theorem pow_gcd {p a : Int} : ∀ (m n : Nat), Cg p (a ^ m) 1 → Cg p (a ^ n) 1 → Cg p (a ^ Nat.gcd m n) 1 := by
  intro m
  induction m using Nat.strongRecOn with
  | _ m ih =>
    intro n h1 h2
    rcases Nat.eq_zero_or_pos m with e | e
    · subst e
      rw [Nat.gcd_zero_left]
      exact h2
    · rw [Nat.gcd_rec]
      exact ih (n % m) (Nat.mod_lt _ e) m ((pow_mod_one h1).symm.trans h2) h1
/-- a number whose power to f is 1 and to no f / q has the order f -/
theorem Ord.of {p a : Int} {f : Nat} (h0 : 0 < f) (h1 : Cg p (a ^ f) 1) (h : ∀ d : Nat, 2 ≤ d → d ∣ f → ∃ q : Nat, 2 ≤ q ∧ q ∣ d ∧ ¬ Cg p (a ^ (f / q)) 1) : Ord p a f := by
  refine ⟨h0, h1, fun e e0 e1 z => ?_⟩
  have g := pow_gcd e f z h1
  have d1 := Nat.gcd_dvd_right e f
  have d2 : Nat.gcd e f ≤ e := Nat.le_of_dvd e0 (Nat.gcd_dvd_left e f)
  have d3 : 0 < Nat.gcd e f := Nat.gcd_pos_of_pos_left _ e0
  generalize Nat.gcd e f = c at g d1 d2 d3
  obtain ⟨k, hk⟩ := d1
  have k2 : 2 ≤ k := by
    rcases Nat.lt_or_ge k 2 with y | y
    · have : k = 0 ∨ k = 1 := by omega
      rcases this with rfl | rfl <;> omega
    · exact y
  obtain ⟨q, q2, ⟨l, hl⟩, nq⟩ := h k k2 ⟨c, by rw [hk, Nat.mul_comm]⟩
  refine nq ?_
  have e2 : f / q = c * l := by
    rw [hk, hl, Nat.mul_left_comm, Nat.mul_div_cancel_left _ (by omega)]
  rw [e2, Int.pow_mul]
  have r := g.pow l
  rw [Int.one_pow] at r
  exact r
theorem Ord.pow {p a : Int} {d m : Nat} (h : Ord p a d) : Ord p (a ^ m) (d / Nat.gcd d m) := by
  have g0 : 0 < Nat.gcd d m := Nat.gcd_pos_of_pos_left _ h.pos
  have g1 := Nat.gcd_dvd_left d m
  have g2 := Nat.gcd_dvd_right d m
  have key : ∀ e : Nat, Cg p ((a ^ m) ^ e) 1 ↔ d / Nat.gcd d m ∣ e := by
    intro e
    rw [← Int.pow_mul, h.dvd]
    obtain ⟨x, hx⟩ := g1
    obtain ⟨y, hy⟩ := g2
    have cop : Nat.Coprime (d / Nat.gcd d m) (m / Nat.gcd d m) := Nat.coprime_div_gcd_div_gcd g0
    have ex : d / Nat.gcd d m = x := by
      conv => lhs; lhs; rw [hx]
      exact Nat.mul_div_cancel_left _ g0
    have ey : m / Nat.gcd d m = y := by
      conv => lhs; lhs; rw [hy]
      exact Nat.mul_div_cancel_left _ g0
    rw [ex, ey] at cop
    rw [ex]
    constructor
    · intro z
      rw [hx] at z
      conv at z => rhs; lhs; rw [hy]
      rw [Nat.mul_assoc] at z
      have z2 := Nat.dvd_of_mul_dvd_mul_left g0 z
      exact cop.dvd_of_dvd_mul_left z2
    · rintro ⟨k, rfl⟩
      rw [hx]
      conv => rhs; lhs; rw [hy]
      exact ⟨y * k, by grind⟩
  have p0 : 0 < d / Nat.gcd d m := Nat.div_pos (Nat.le_of_dvd h.pos g1) g0
  refine ⟨p0, (key _).mpr (Nat.dvd_refl _), fun e e0 e1 z => ?_⟩
  have := Nat.le_of_dvd e0 ((key e).mp z)
  omega
theorem Ord.back {p a r : Int} {d : Nat} (h : Ord p a d) (c : Cg p (r * a) 1) : Ord p r d := by
  have key : ∀ e : Nat, Cg p (r ^ e) 1 ↔ Cg p (a ^ e) 1 := by
    intro e
    have q := c.pow e
    rw [Int.mul_pow, Int.one_pow] at q
    constructor
    · intro z
      have s := z.mul (Cg.refl p (a ^ e))
      rw [Int.one_mul] at s
      exact s.symm.trans q
    · intro z
      have s := (Cg.refl p (r ^ e)).mul z
      rw [Int.mul_one] at s
      exact s.symm.trans q
  exact ⟨h.pos, (key _).mpr h.one, fun e e0 e1 z => h.no e e0 e1 ((key e).mp z)⟩
/-- there is an order, and it divides the prime less 1 -/
theorem ord_ex {p a : Int} (h : Pr p) (a0 : 0 < a) (a1 : a < p) : ∃ d : Nat, Ord p a d := by
  have lo := h.lo
  have key : ∀ n : Nat, (∃ d, d ≤ n ∧ Ord p a d) ∨ ∀ e : Nat, 0 < e → e ≤ n → ¬ Cg p (a ^ e) 1 := by
    intro n
    induction n with
    | zero => exact .inr fun e e0 e1 => by omega
    | succ n ih =>
      rcases ih with ⟨d, d1, d2⟩ | z
      · exact .inl ⟨d, by omega, d2⟩
      · by_cases c : Cg p (a ^ (n + 1)) 1
        · exact .inl ⟨n + 1, Nat.le_refl _, by omega, c, fun e e0 e1 => z e e0 (by omega)⟩
        · refine .inr fun e e0 e1 => ?_
          rcases Nat.lt_or_ge e (n + 1) with y | y
          · exact z e e0 (by omega)
          · have : e = n + 1 := by omega
            rw [this]
            exact c
  rcases key (p - 1).toNat with ⟨d, _, d2⟩ | z
  · exact ⟨d, d2⟩
  · exact absurd (fermat h a0 a1) (z _ (by omega) (Nat.le_refl _))
theorem Ord.div {p a : Int} {d : Nat} (h : Ord p a d) (hp : Pr p) (a0 : 0 < a) (a1 : a < p) : d ∣ (p - 1).toNat := h.dvd.mp (fermat hp a0 a1)
theorem Ord.le {p a : Int} {d : Nat} (h : Ord p a d) (hp : Pr p) (a0 : 0 < a) (a1 : a < p) : d ≤ (p - 1).toNat := by
  have := hp.lo
  exact Nat.le_of_dvd (by omega) (h.div hp a0 a1)
/-- different exponents below the order, different powers -/
theorem Ord.inj {p a : Int} {d : Nat} (h : Ord p a d) (hp : Pr p) (a0 : 0 < a) (a1 : a < p) {i j : Nat} (hi : i < d) (hj : j < d) (e : Cg p (a ^ i) (a ^ j)) : i = j := by
  have key : ∀ i j : Nat, i ≤ j → j < d → Cg p (a ^ i) (a ^ j) → i = j := by
    intro i j hij hj e
    have q : Cg p (a ^ (d - j) * a ^ i) (a ^ (d - j) * a ^ j) := (Cg.refl p _).mul e
    rw [← Int.pow_add, ← Int.pow_add, show d - j + j = d by omega] at q
    have r := h.dvd.mp (q.trans h.one)
    rcases Nat.lt_or_ge i j with y | y
    · have := Nat.le_of_dvd (by omega) r
      omega
    · omega
  rcases Nat.le_total i j with z | z
  · exact key i j z hj e
  · exact (key j i z hi e.symm).symm
/-- a root: its order is the prime less 1 -/
def Root (p g : Int) : Prop := 0 < g ∧ g < p ∧ Ord p g (p - 1).toNat
/-- each number but 0 is a power of a root -/
theorem Root.all {p g : Int} (h : Root p g) (hp : Pr p) {a : Int} (a0 : 0 < a) (a1 : a < p) : ∃ e : Nat, e < (p - 1).toNat ∧ g ^ e % p = a := by
  obtain ⟨g0, g1, o⟩ := h
  have lo := hp.lo
  have im : ∀ e : Nat, 0 < g ^ e % p ∧ g ^ e % p < p := fun e => by
    have n0 := Int.emod_nonneg (g ^ e) (show p ≠ 0 by omega)
    have n1 := Int.emod_lt_of_pos (g ^ e) (show 0 < p by omega)
    have n2 := pow_ne hp g0 g1 e
    omega
  have pm : ((List.range (p - 1).toNat).map fun e => (g ^ e % p).toNat).Perm (List.range' 1 (p - 1).toNat) := by
    refine perm_of_in _ _ (nodup_map List.nodup_range fun x hx y hy e => ?_) (fun x hx => ?_) (by simp)
    · have hx := List.mem_range.mp hx
      have hy := List.mem_range.mp hy
      refine o.inj hp g0 g1 hx hy (Cg.of ?_)
      have := im x
      have := im y
      omega
    · obtain ⟨e, _, rfl⟩ := List.mem_map.mp hx
      have := im e
      exact List.mem_range'_1.mpr ⟨by omega, by omega⟩
  have m : a.toNat ∈ List.range' 1 (p - 1).toNat := List.mem_range'_1.mpr ⟨by omega, by omega⟩
  rw [← pm.mem_iff] at m
  obtain ⟨e, he, e2⟩ := List.mem_map.mp m
  refine ⟨e, List.mem_range.mp he, ?_⟩
  have := im e
  omega
/-- what divides a count, by its parts: each divisor above 1 has one of them -/
def Parts (n : Int) (qs : List Int) : Prop := (∀ q ∈ qs, 2 ≤ q ∧ q ≤ n ∧ n % q = 0) ∧ ∀ d : Int, 2 ≤ d → n % d = 0 → ∃ q ∈ qs, d % q = 0
theorem nat_dvd {x y : Int} (h : x % y = 0) (hx : 0 ≤ x) (hy : 0 ≤ y) : y.toNat ∣ x.toNat := by
  have e1 : ((x.toNat : Nat) : Int) = x := by omega
  have e2 : ((y.toNat : Nat) : Int) = y := by omega
  refine Nat.dvd_of_mod_eq_zero ?_
  have : (((x.toNat % y.toNat : Nat)) : Int) = 0 := by rw [Int.natCast_emod, e1, e2]; exact h
  omega
theorem int_dvd {x y : Nat} (h : y ∣ x) : (x : Int) % (y : Int) = 0 := by
  obtain ⟨k, rfl⟩ := h
  rw [Int.natCast_mul]
  exact Int.mul_emod_right _ _
theorem nat_div {x y : Int} (hx : 0 ≤ x) (hy : 0 ≤ y) : (x / y).toNat = x.toNat / y.toNat := by
  have e1 : ((x.toNat : Nat) : Int) = x := by omega
  have e2 : ((y.toNat : Nat) : Int) = y := by omega
  have : ((x.toNat / y.toNat : Nat) : Int) = x / y := by rw [Int.natCast_ediv, e1, e2]
  have := Int.ediv_nonneg hx hy
  omega
/-- the order by parts: the power to f is 1, to f over any of n's parts that divides f it is not -/
theorem Ord.by_parts {p a n f : Int} {qs : List Int} (hq : Parts n qs) (f0 : 0 < f) (fn : n % f = 0) (h1 : Cg p (a ^ f.toNat) 1) (h : ∀ q ∈ qs, f % q = 0 → ¬ Cg p (a ^ (f / q).toNat) 1) : Ord p a f.toNat := by
  refine Ord.of (by omega) h1 fun d d2 dv => ?_
  have e1 : f % (d : Int) = 0 := by
    have := int_dvd dv
    have e : ((f.toNat : Nat) : Int) = f := by omega
    rw [e] at this
    exact this
  have e2 : n % (d : Int) = 0 := Int.emod_eq_zero_of_dvd (Int.dvd_trans (Int.dvd_of_emod_eq_zero e1) (Int.dvd_of_emod_eq_zero fn))
  obtain ⟨q, hm, e3⟩ := hq.2 d (by omega) e2
  obtain ⟨q2, _, _⟩ := hq.1 q hm
  refine ⟨q.toNat, by omega, ?_, ?_⟩
  · have := nat_dvd e3 (by omega) (by omega)
    simpa using this
  · have e4 : f % q = 0 := Int.emod_eq_zero_of_dvd (Int.dvd_trans (Int.dvd_of_emod_eq_zero e3) (Int.dvd_of_emod_eq_zero e1))
    rw [← nat_div (by omega) (by omega)]
    exact h q hm e4

end Eqr
set_option maxHeartbeats 1000000
namespace Eqr
open PySem PySem.Spec L2 Ow Dl
/-! ### a root for each prime up to 9973, found elsewhere, looked at by the kernel -/
def pw (p : Nat) : Nat → Nat → Nat → Nat → Nat
  | 0, _, _, acc => acc
  | k + 1, b, e, acc => cond (Nat.beq (e % 2) 1) (pw p k (b * b % p) (e / 2) (acc * b % p)) (pw p k (b * b % p) (e / 2) acc)
theorem pow_modN (x p : Nat) : ∀ n : Nat, (x % p) ^ n % p = x ^ n % p
  | 0 => by rw [Nat.pow_zero, Nat.pow_zero]
  | n + 1 => by
    rw [Nat.pow_succ, Nat.pow_succ, Nat.mul_mod, pow_modN x p n, Nat.mod_mod, ← Nat.mul_mod]
theorem pw_ok (p : Nat) : ∀ (k b e acc : Nat), e < 2 ^ k → acc % p = acc → pw p k b e acc = acc * b ^ e % p
  | 0, b, e, acc, h, ha => by
    have : e = 0 := by
      rw [Nat.pow_zero] at h
      omega
    subst this
    rw [Nat.pow_zero, Nat.mul_one, ha]
    rfl
  | k + 1, b, e, acc, h, ha => by
    have h2 : e / 2 < 2 ^ k := by
      rw [Nat.pow_succ] at h
      omega
    show cond (Nat.beq (e % 2) 1) (pw p k (b * b % p) (e / 2) (acc * b % p)) (pw p k (b * b % p) (e / 2) acc) = _
    have eb : ∀ m : Nat, (b * b % p) ^ m % p = b ^ (2 * m) % p := fun m => by
      rw [pow_modN, Nat.pow_mul, Nat.pow_succ, Nat.pow_one]
    cases c : Nat.beq (e % 2) 1 with
    | true =>
      have c2 : e % 2 = 1 := Nat.eq_of_beq_eq_true c
      show pw p k (b * b % p) (e / 2) (acc * b % p) = _
      rw [pw_ok p k _ _ _ h2 (Nat.mod_mod _ _), Nat.mul_mod, eb, Nat.mod_mod, ← Nat.mul_mod]
      have e3 : e = 2 * (e / 2) + 1 := by omega
      conv => rhs; rw [e3, Nat.pow_succ]
      congr 1
      rw [Nat.mul_assoc, Nat.mul_comm b]
    | false =>
      have c2 : e % 2 ≠ 1 := Nat.ne_of_beq_eq_false c
      show pw p k (b * b % p) (e / 2) acc = _
      rw [pw_ok p k _ _ _ h2 ha, Nat.mul_mod, eb, ← Nat.mul_mod]
      have e3 : e = 2 * (e / 2) := by omega
      conv => rhs; rw [e3]
def rootLook (p g : Nat) : Nat → Nat → Bool
  | 0, _ => true
  | k + 1, c => cond (Nat.beq ((p - 1) % c) 0)
      (cond (Nat.ble (p - 1) c) true (cond (Nat.beq (pw p 14 g c 1) 1) false true) && (cond (Nat.ble c 1) true (cond (Nat.beq (pw p 14 g ((p - 1) / c) 1) 1) false true) && rootLook p g k (c + 1)))
      (rootLook p g k (c + 1))
theorem rootLook_ok {p g : Nat} : ∀ {k c : Nat}, rootLook p g k c = true → ∀ d, c ≤ d → d < c + k → (p - 1) % d = 0 → (d < p - 1 → pw p 14 g d 1 ≠ 1) ∧ (2 ≤ d → pw p 14 g ((p - 1) / d) 1 ≠ 1)
  | 0, c, _, d, h1, h2, _ => by omega
  | k + 1, c, h, d, h1, h2, h3 => by
    have h : cond (Nat.beq ((p - 1) % c) 0)
      (cond (Nat.ble (p - 1) c) true (cond (Nat.beq (pw p 14 g c 1) 1) false true) && (cond (Nat.ble c 1) true (cond (Nat.beq (pw p 14 g ((p - 1) / c) 1) 1) false true) && rootLook p g k (c + 1)))
      (rootLook p g k (c + 1)) = true := h
    have tl : rootLook p g k (c + 1) = true := by
      cases z : Nat.beq ((p - 1) % c) 0 with
      | true =>
        rw [z] at h
        simp only [cond_true, Bool.and_eq_true] at h
        exact h.2.2
      | false =>
        rw [z] at h
        exact h
    rcases Nat.lt_or_ge c d with y | y
    · exact rootLook_ok tl d (by omega) (by omega) h3
    · have e : d = c := by omega
      subst e
      have z : Nat.beq ((p - 1) % d) 0 = true := by rw [h3]; rfl
      rw [z] at h
      simp only [cond_true, Bool.and_eq_true] at h
      refine ⟨fun lt e => ?_, fun ge e => ?_⟩
      · have f1 : Nat.ble (p - 1) d = false := by
          cases q : Nat.ble (p - 1) d with
          | false => rfl
          | true => have := Nat.le_of_ble_eq_true q; omega
        have a := h.1
        rw [f1, e] at a
        exact absurd a (by decide)
      · have f1 : Nat.ble d 1 = false := by
          cases q : Nat.ble d 1 with
          | false => rfl
          | true => have := Nat.le_of_ble_eq_true q; omega
        have a := h.2.1
        rw [f1, e] at a
        exact absurd a (by decide)
def rootAt (p g : Nat) : Bool := Nat.ble 1 g && (Nat.ble (g + 1) p && rootLook p g 99 1)
def rootsAll : Nat → Nat → Nat → Bool
  | 0, _, _ => true
  | k + 1, n, G => cond (noDiv n 98 2) (rootAt n (G % 32) && rootsAll k (n + 1) (G / 32)) (rootsAll k (n + 1) G)
theorem rootsAll_ok : ∀ (k n G : Nat), rootsAll k n G = true → ∀ m, n ≤ m → m < n + k → noDiv m 98 2 = true → ∃ g, g < 32 ∧ rootAt m g = true
  | 0, n, G, _, m, h1, h2, _ => by omega
  | k + 1, n, G, h, m, h1, h2, h3 => by
    have h : cond (noDiv n 98 2) (rootAt n (G % 32) && rootsAll k (n + 1) (G / 32)) (rootsAll k (n + 1) G) = true := h
    rcases Nat.lt_or_ge n m with y | y
    · cases z : noDiv n 98 2 with
      | true =>
        rw [z] at h
        simp only [cond_true, Bool.and_eq_true] at h
        exact rootsAll_ok k (n + 1) _ h.2 m (by omega) (by omega) h3
      | false =>
        rw [z] at h
        exact rootsAll_ok k (n + 1) _ h m (by omega) (by omega) h3
    · have e : m = n := by omega
      subst e
      rw [h3] at h
      simp only [cond_true, Bool.and_eq_true] at h
      exact ⟨_, Nat.mod_lt _ (by decide), h.1⟩
set_option maxRecDepth 1000000 in
theorem roots_0 : rootsAll 1250 3 77524370747538285191828018252424493848363811657373300190107303826613589786208704631988776696961128358453075466031181466050896107606899349895224937141271242658905961191708374728041490565381521032141350144248994316792030836031164893002810639293481485393666417624328585742781454797726119800445790867328928834 = true := by decide +kernel
set_option maxRecDepth 1000000 in
theorem roots_1 : rootsAll 1250 1253 14736762440912366034979171442840117257164172603210461144226621643179561848982515204086197815146015583212993497769191034699511915049825114330587215949323886559445524332801092050158255397884759354864258044650610785924114465313578832319838108585026 = true := by decide +kernel
set_option maxRecDepth 1000000 in
theorem roots_2 : rootsAll 1250 2503 43878168537683827715473769665352468007038378509629297177058319196731488682875755122240956454616152337746567877699957000131996422439026225243828500746799872558494414085274700147534535457888726055051911461078302877773634390444599216675 = true := by decide +kernel
set_option maxRecDepth 1000000 in
theorem roots_3 : rootsAll 1250 3753 17838024250473807949757804266003866591832562110740133003134665090907986589208450980034280632614843631359466735654028969749401069992558712549675454723537148650348149577702501190642457845416588302100993409357680229104032931 = true := by decide +kernel
set_option maxRecDepth 1000000 in
theorem roots_4 : rootsAll 1250 5003 27285157427695349896870772756641860212970308944546295265427247054290450154425012229137192632659867413412180475899315882951031672595349259726670779679463500294064125820048582626382269186819364255205507669580311529570 = true := by decide +kernel
set_option maxRecDepth 1000000 in
theorem roots_5 : rootsAll 1250 6253 356981943054250081385043864297298464080000447296174416993134642388999907385216230247998740796107471633725181240798449087788418753809449301912456435844984927921538902659200493858499114856011675515830210496675 = true := by decide +kernel
set_option maxRecDepth 1000000 in
theorem roots_6 : rootsAll 1250 7503 10875051465494985609635660383508179780880885498605289788751083834273809560056578566777455171740652484770005376949282140665154275205787683923720883950117121772998007856228307846338045020238597423218858166209054786 = true := by decide +kernel
set_option maxRecDepth 1000000 in
theorem roots_7 : rootsAll 1221 8753 1781166932950555380814650639499957828326987945469982141132200189289426746020812533814311063946771942839839475027673700188468752182370885852306117525059483749744700928344904868290003488456502343459788481015523 = true := by decide +kernel
theorem roots_at : ∀ m, 3 ≤ m → m < 9974 → noDiv m 98 2 = true → ∃ g, g < 32 ∧ rootAt m g = true := by
  intro m h1 h2 h3
  rcases Nat.lt_or_ge m 1253 with z | z
  · exact rootsAll_ok 1250 3 _ roots_0 m (by omega) (by omega) h3
  rcases Nat.lt_or_ge m 2503 with z | z
  · exact rootsAll_ok 1250 1253 _ roots_1 m (by omega) (by omega) h3
  rcases Nat.lt_or_ge m 3753 with z | z
  · exact rootsAll_ok 1250 2503 _ roots_2 m (by omega) (by omega) h3
  rcases Nat.lt_or_ge m 5003 with z | z
  · exact rootsAll_ok 1250 3753 _ roots_3 m (by omega) (by omega) h3
  rcases Nat.lt_or_ge m 6253 with z | z
  · exact rootsAll_ok 1250 5003 _ roots_4 m (by omega) (by omega) h3
  rcases Nat.lt_or_ge m 7503 with z | z
  · exact rootsAll_ok 1250 6253 _ roots_5 m (by omega) (by omega) h3
  rcases Nat.lt_or_ge m 8753 with z | z
  · exact rootsAll_ok 1250 7503 _ roots_6 m (by omega) (by omega) h3
  exact rootsAll_ok 1221 8753 _ roots_7 m (by omega) (by omega) h3
theorem noDiv_of {n : Nat} (h : ∀ c : Nat, 2 ≤ c → c < n → n % c ≠ 0) : ∀ (k d : Nat), 2 ≤ d → noDiv n k d = true
  | 0, _, _ => rfl
  | k + 1, d, hd => by
    show cond (Nat.beq (n % d) 0) (Nat.ble n d) (noDiv n k (d + 1)) = true
    cases c : Nat.beq (n % d) 0 with
    | true =>
      have c2 : n % d = 0 := Nat.eq_of_beq_eq_true c
      rcases Nat.lt_or_ge d n with z | z
      · exact absurd c2 (h d hd z)
      · exact Nat.ble_eq_true_of_le z
    | false => exact noDiv_of h k (d + 1) (by omega)
/-- each prime has a root -/
theorem root_lt {p : Int} (hp : Pr p) : ∃ g, g < 32 ∧ Root p g := by
  have lo := hp.lo
  have hi := hp.hi
  obtain ⟨g, g32, hg⟩ := roots_at p.toNat (by omega) (by omega) (noDiv_of hp.nat 98 2 (by omega))
  have hg : (Nat.ble 1 g && (Nat.ble (g + 1) p.toNat && rootLook p.toNat g 99 1)) = true := hg
  simp only [Bool.and_eq_true] at hg
  have g0 := Nat.le_of_ble_eq_true hg.1
  have g1 := Nat.le_of_ble_eq_true hg.2.1
  have look := @rootLook_ok p.toNat g 99 1 hg.2.2
  have a0 : (0 : Int) < (g : Int) := by omega
  have a1 : (g : Int) < p := by omega
  have ep : ((p.toNat : Nat) : Int) = p := by omega
  have en : (p - 1).toNat = p.toNat - 1 := by omega
  refine ⟨(g : Int), by omega, a0, a1, ?_⟩
  obtain ⟨d, hd⟩ := ord_ex hp a0 a1
  have dv := hd.div hp a0 a1
  have dle := hd.le hp a0 a1
  have d0 := hd.pos
  have pwE : ∀ e : Nat, e < 2 ^ 14 → Cg p ((g : Int) ^ e) 1 → pw p.toNat 14 g e 1 = 1 := by
    intro e he c
    rw [pw_ok p.toNat 14 g e 1 he (Nat.mod_eq_of_lt (by omega)), Nat.one_mul]
    have q := c.emod
    rw [Int.emod_eq_of_lt (show (0 : Int) ≤ 1 by omega) (show (1 : Int) < p by omega)] at q
    have e2 : (((g ^ e % p.toNat : Nat)) : Int) = 1 := by rw [Int.natCast_emod, Int.natCast_pow, ep]; exact q
    omega
  rcases Nat.lt_or_ge d (p - 1).toNat with y | y
  · exfalso
    rw [en] at dv dle y
    rcases Nat.lt_or_ge d 100 with z | z
    · exact (look d d0 (by omega) (Nat.mod_eq_zero_of_dvd dv)).1 (by omega) (pwE d (by omega) hd.one)
    · obtain ⟨c, hc⟩ := dv
      have c2 : 2 ≤ c := by
        rcases Nat.lt_or_ge c 2 with x | x
        · have : c = 0 ∨ c = 1 := by omega
          rcases this with rfl | rfl <;> omega
        · exact x
      have c3 : c < 100 := by
        rcases Nat.lt_or_ge c 100 with x | x
        · exact x
        · have : 100 * 100 ≤ d * c := Nat.mul_le_mul z x
          omega
      have hm : (p.toNat - 1) % c = 0 := by rw [hc]; exact Nat.mul_mod_left d c
      have hq : (p.toNat - 1) / c = d := by rw [hc]; exact Nat.mul_div_cancel d (by omega)
      have := (look c (by omega) (by omega) hm).2 c2
      rw [hq] at this
      exact this (pwE d (by omega) hd.one)
  · have e : d = (p - 1).toNat := by omega
    rw [e] at hd
    exact hd
theorem root_ex {p : Int} (hp : Pr p) : ∃ g, Root p g := let ⟨g, _, h⟩ := root_lt hp; ⟨g, h⟩

end Eqr
set_option maxHeartbeats 1000000
namespace Eqr
open PySem PySem.Spec L2 Ow Dl
/-! ### orders, roots, logs: the parts of cycles -/
theorem Least.own {n r : Int} (h : Least n r) : ∀ x : Int, 2 ≤ x → x < r → r % x ≠ 0 := fun x x1 x2 e => h.no x x1 x2 (Int.emod_eq_zero_of_dvd (Int.dvd_trans (Int.dvd_of_emod_eq_zero e) (Int.dvd_of_emod_eq_zero h.dv)))
theorem part_step {r d c : Int} (hr : ∀ x : Int, 2 ≤ x → x < r → r % x ≠ 0) (r2 : 2 ≤ r) (d0 : 0 < d) (c0 : 0 < c) (nd : d % r ≠ 0) (h : r * c % d = 0) : c % d = 0 := by
  have er : ((r.toNat : Nat) : Int) = r := by omega
  have ed : ((d.toNat : Nat) : Int) = d := by omega
  have ec : ((c.toNat : Nat) : Int) = c := by omega
  have g1 := Nat.gcd_dvd_left d.toNat r.toNat
  have g2 := Nat.gcd_dvd_right d.toNat r.toNat
  have g3 : 0 < Nat.gcd d.toNat r.toNat := Nat.gcd_pos_of_pos_left _ (by omega)
  have g4 : Nat.gcd d.toNat r.toNat ≤ r.toNat := Nat.le_of_dvd (by omega) g2
  have cop : Nat.Coprime d.toNat r.toNat := by
    show Nat.gcd d.toNat r.toNat = 1
    rcases Nat.lt_or_ge (Nat.gcd d.toNat r.toNat) 2 with z | z
    · omega
    · rcases Nat.lt_or_ge (Nat.gcd d.toNat r.toNat) r.toNat with y | y
      · have := int_dvd g2
        rw [er] at this
        exact absurd this (hr _ (by omega) (by omega))
      · have e : Nat.gcd d.toNat r.toNat = r.toNat := by omega
        rw [e] at g1
        have := int_dvd g1
        rw [er, ed] at this
        exact absurd this nd
  have hd : d.toNat ∣ r.toNat * c.toNat := by
    refine Nat.dvd_of_mod_eq_zero ?_
    have e : (((r.toNat * c.toNat % d.toNat : Nat)) : Int) = 0 := by rw [Int.natCast_emod, Int.natCast_mul, er, ed, ec]; exact h
    omega
  have := int_dvd (cop.dvd_of_dvd_mul_left hd)
  rw [ec, ed] at this
  exact this
theorem div_of {n r : Int} (h : n % r = 0) : n = r * (n / r) := by have := Int.mul_ediv_add_emod n r; omega
theorem div_pos' {n r : Int} (h : n % r = 0) (n0 : 0 < n) (r0 : 0 < r) : 0 < n / r := by
  have e := div_of h
  rcases Int.lt_or_le 0 (n / r) with z | z
  · exact z
  · have : r * (n / r) ≤ r * 0 := Int.mul_le_mul_of_nonneg_left z (by omega)
    omega
theorem emod_trans {n a b : Int} (h : n % a = 0) (g : a % b = 0) : n % b = 0 := Int.emod_eq_zero_of_dvd (Int.dvd_trans (Int.dvd_of_emod_eq_zero g) (Int.dvd_of_emod_eq_zero h))
theorem emod_quot {n r : Int} (h : n % r = 0) : n % (n / r) = 0 := by
  have e := div_of h
  conv => lhs; lhs; rw [e]
  exact Int.mul_emod_left r (n / r)
theorem one_part {n : Int} (h : n = 1) : Parts n [] := ⟨fun q hq => (nomatch hq), fun d d2 e => by subst h; rw [Int.emod_eq_of_lt (by omega) (by omega)] at e; omega⟩
theorem pow_le_one {l : Int} {k : Nat} {n : Int} (h : l * 2 ^ k ≤ n) (l0 : 0 < l) (hn : n < 10201) : k ≤ 14 := by
  rcases Nat.lt_or_ge k 15 with z | z
  · omega
  · exfalso
    have p1 : (2 : Int) ^ 15 ≤ 2 ^ k := by
      have : (2 : Nat) ^ 15 ≤ 2 ^ k := Nat.pow_le_pow_right (by decide) z
      exact_mod_cast this
    have p2 : 1 * 2 ^ k ≤ l * 2 ^ k := Int.mul_le_mul_of_nonneg_right (by omega) (by omega)
    omega
/-- the look that tells a full order, by parts -/
def fullB (p a : Int) (qs : List Int) : Bool := decide (a ^ (p - 1).toNat % p = 1 % p) && qs.all fun q => !decide (a ^ ((p - 1) / q).toNat % p = 1)
theorem fullB_iff {p a : Int} {qs : List Int} (p2 : 2 ≤ p) (hq : Parts (p - 1) qs) : fullB p a qs = true ↔ Ord p a (p - 1).toNat := by
  have e1 : (1 : Int) % p = 1 := Int.emod_eq_of_lt (by omega) (by omega)
  have one : ∀ k : Nat, Cg p (a ^ k) 1 ↔ a ^ k % p = 1 := fun k => ⟨fun z => by rw [z.emod, e1], fun z => Cg.of (by rw [z, e1])⟩
  unfold fullB
  simp only [Bool.and_eq_true, decide_eq_true_eq, List.all_eq_true, Bool.not_eq_true', decide_eq_false_iff_not]
  constructor
  · rintro ⟨h1, h2⟩
    refine Ord.by_parts hq (by omega) Int.emod_self ((one _).mpr (h1.trans e1)) fun q hm _ z => h2 q hm ((one _).mp z)
  · intro o
    refine ⟨((one _).mp o.one).trans e1.symm, fun q hm z => ?_⟩
    obtain ⟨q2, qn, qd⟩ := hq.1 q hm
    have d := div_of qd
    have d0 := div_pos' qd (by omega) (by omega)
    have d1 : 2 * ((p - 1) / q) ≤ q * ((p - 1) / q) := Int.mul_le_mul_of_nonneg_right q2 (by omega)
    exact o.no ((p - 1) / q).toNat (by omega) (by omega) ((one _).mpr z)
theorem nm_eq {p r x : Int} (hr : Nm p r) (hc : Cg p r x) (hp : 0 < p) : r = x % p := by
  rw [← hc.emod, Int.emod_eq_of_lt hr.1 hr.2]
theorem bool_iff {a b : Bool} (h : a = true ↔ b = true) : a = b := by cases a <;> cases b <;> simp_all
theorem keeps_no {p a f g q : Int} (h : f % q = 0 → ¬ Cg p (a ^ (f / q).toNat) 1) (hg : f % g = 0) (f0 : 0 < f) (g0 : 0 < g) (q2 : 2 ≤ q) (e : g % q = 0) : ¬ Cg p (a ^ (g / q).toNat) 1 := by
  intro z
  have e1 := emod_trans hg e
  refine h e1 ?_
  have d1 := div_of hg
  have d2 := div_of e
  have d3 : f / q = (g / q) * (f / g) := by
    refine Int.ediv_eq_of_eq_mul_right (by omega) ?_
    rw [← Int.mul_assoc, ← d2]
    exact d1
  have p1 := div_pos' hg f0 g0
  have p2 := div_pos' e g0 (by omega)
  rw [d3, Int.toNat_mul (by omega) (by omega), Int.pow_mul]
  have r := z.pow (f / g).toNat
  rw [Int.one_pow] at r
  exact r

end Eqr
set_option maxHeartbeats 1000000
namespace Eqr
open PySem PySem.Spec L2 Ow Dl
/-! ### prime counts by orders, parts in their sequence, squares -/
theorem Ord.inj' {p a : Int} {d : Nat} (h : Ord p a d) {i j : Nat} (hi : i < d) (hj : j < d) (e : Cg p (a ^ i) (a ^ j)) : i = j := by
  have key : ∀ i j : Nat, i ≤ j → j < d → Cg p (a ^ i) (a ^ j) → i = j := by
    intro i j hij hj e
    have q : Cg p (a ^ (d - j) * a ^ i) (a ^ (d - j) * a ^ j) := (Cg.refl p _).mul e
    rw [← Int.pow_add, ← Int.pow_add, show d - j + j = d by omega] at q
    have r := h.dvd.mp (q.trans h.one)
    rcases Nat.lt_or_ge i j with y | y
    · have := Nat.le_of_dvd (by omega) r
      omega
    · omega
  rcases Nat.le_total i j with z | z
  · exact key i j z hj e
  · exact (key j i z hi e.symm).symm
/-- a count with a number of the whole order has no divisor -/
theorem lucas {c a : Int} (c2 : 2 ≤ c) (h : Ord c a (c - 1).toNat) : ∀ d : Int, 2 ≤ d → d < c → c % d ≠ 0 := by
  intro d d2 dc e
  have c0 : c ≠ 0 := by omega
  have un : ∀ e : Nat, e ≤ (c - 1).toNat → Cg c (a ^ e * a ^ ((c - 1).toNat - e)) 1 := fun e he => by
    rw [← Int.pow_add, show e + ((c - 1).toNat - e) = (c - 1).toNat by omega]
    exact h.one
  have one : (1 : Int) % c = 1 := Int.emod_eq_of_lt (by omega) (by omega)
  have im : ∀ e : Nat, e < (c - 1).toNat → 0 < a ^ e % c ∧ a ^ e % c < c := fun e he => by
    have n0 := Int.emod_nonneg (a ^ e) c0
    have n1 := Int.emod_lt_of_pos (a ^ e) (show 0 < c by omega)
    have n2 : a ^ e % c ≠ 0 := fun z => by
      have u := (un e (by omega)).emod
      rw [one, Int.mul_emod, z, Int.zero_mul, Int.zero_emod] at u
      omega
    omega
  have pm : ((List.range (c - 1).toNat).map fun e => (a ^ e % c).toNat).Perm (List.range' 1 (c - 1).toNat) := by
    refine perm_of_in _ _ (nodup_map List.nodup_range fun x hx y hy e => ?_) (fun x hx => ?_) (by simp)
    · have hx := List.mem_range.mp hx
      have hy := List.mem_range.mp hy
      refine h.inj' hx hy (Cg.of ?_)
      have := im x hx
      have := im y hy
      omega
    · obtain ⟨e, he, rfl⟩ := List.mem_map.mp hx
      have := im e (List.mem_range.mp he)
      exact List.mem_range'_1.mpr ⟨by omega, by omega⟩
  have m : d.toNat ∈ List.range' 1 (c - 1).toNat := List.mem_range'_1.mpr ⟨by omega, by omega⟩
  rw [← pm.mem_iff] at m
  obtain ⟨k, hk, e2⟩ := List.mem_map.mp m
  have hk := List.mem_range.mp hk
  have ik := im k hk
  have e3 : a ^ k % c = d := by omega
  have u := ((Cg.rest c (a ^ k)).mul (Cg.refl c (a ^ ((c - 1).toNat - k)))).trans (un k (by omega))
  rw [e3] at u
  obtain ⟨t, et⟩ := u
  have dv : d ∣ c := Int.dvd_of_emod_eq_zero e
  obtain ⟨s, es⟩ := dv
  have : d ∣ 1 := ⟨a ^ ((c - 1).toNat - k) - s * t, by rw [es] at et; grind⟩
  have := Int.le_of_dvd (by omega) this
  omega
theorem primeB_all {n : Int} (h2 : n < 10000) (h : primeB n = true) : ∀ d : Int, 2 ≤ d → d < n → n % d ≠ 0 := by
  intro d d2 dn e
  rcases Int.lt_or_le d 100 with z | z
  · exact primeB_no h d2 z dn e
  · have e2 : n = d * (n / d) := by have := Int.mul_ediv_add_emod n d; omega
    have k1 : 2 ≤ n / d := by
      rcases Int.lt_or_le (n / d) 2 with y | y
      · rcases Int.lt_or_le (n / d) 1 with x | x
        · have : d * (n / d) ≤ d * 0 := Int.mul_le_mul_of_nonneg_left (by omega) (by omega)
          omega
        · have : n / d = 1 := by omega
          rw [this] at e2
          omega
      · exact y
    have k2 : n / d < 100 := by
      rcases Int.lt_or_le (n / d) 100 with y | y
      · exact y
      · have : 100 * 100 ≤ d * (n / d) := Int.mul_le_mul z y (by omega) (by omega)
        omega
    have k3 : n / d < n := by
      have : 2 * (n / d) ≤ d * (n / d) := Int.mul_le_mul_of_nonneg_right d2 (by omega)
      omega
    have k4 : n % (n / d) = 0 := by
      generalize n / d = k at e2
      rw [e2]
      exact Int.mul_emod_left d k
    exact primeB_no h k1 k2 k3 k4
theorem primeB_iff {n : Int} (h1 : 1 < n) (h2 : n < 10000) : primeB n = true ↔ ∀ d : Int, 2 ≤ d → d < n → n % d ≠ 0 :=
  ⟨primeB_all h2, fun h => primeB_of h1 fun d d2 _ dn => h d d2 dn⟩
theorem pr_of {n : Int} (h0 : 3 ≤ n) (h1 : n ≤ 9973) (h : primeB n = true) : Pr n := by
  show (decide (3 ≤ n) && decide (n ≤ 9973) && primeB n) = true
  rw [decide_eq_true h0, decide_eq_true h1, h]
  rfl
/-- each count has a least divisor -/
theorem least_ex {d : Int} (d2 : 2 ≤ d) : ∃ r, Least d r := by
  have key : ∀ k : Nat, (∃ r, Least d r) ∨ ∀ c : Int, 2 ≤ c → c < (k : Int) → d % c ≠ 0 := by
    intro k
    induction k with
    | zero => exact .inr fun c c1 c2 => by omega
    | succ k ih =>
      rcases ih with z | z
      · exact .inl z
      · by_cases y : 2 ≤ (k : Int) ∧ d % (k : Int) = 0
        · exact .inl ⟨k, y.1, Int.le_of_dvd (by omega) (Int.dvd_of_emod_eq_zero y.2), y.2, z⟩
        · refine .inr fun c c1 c2 => ?_
          rcases Int.lt_or_le c (k : Int) with x | x
          · exact z c c1 x
          · have e : c = (k : Int) := by omega
            subst e
            exact fun w => y ⟨c1, w⟩
  rcases key (d.toNat + 1) with z | z
  · exact z
  · exact absurd Int.emod_self (z d d2 (by omega))
theorem least_prime {n r : Int} (h : Least n r) (hn : n < 10000) : primeB r = true := (primeB_iff (by have := h.lo; omega) (by have := h.hi; omega)).mpr h.own
/-- the numbers from lo on -/
def rangeL (lo : Int) (k : Nat) : List Int := (List.range k).map fun (i : Nat) => lo + (i : Int)
theorem rangeL_mem {lo : Int} {k : Nat} {x : Int} : x ∈ rangeL lo k ↔ lo ≤ x ∧ x < lo + (k : Int) := by
  unfold rangeL
  rw [List.mem_map]
  constructor
  · rintro ⟨i, hi, rfl⟩
    have := List.mem_range.mp hi
    omega
  · rintro ⟨h1, h2⟩
    exact ⟨(x - lo).toNat, List.mem_range.mpr (by omega), by omega⟩
theorem rangeL_asc (lo : Int) (k : Nat) : (rangeL lo k).Pairwise (· < ·) := by
  unfold rangeL
  rw [List.pairwise_map]
  exact List.Pairwise.imp (fun {a b} h => by omega) List.pairwise_lt_range
/-- rising lists with the same numbers are one -/
theorem asc_ext : ∀ {l m : List Int}, l.Pairwise (· < ·) → m.Pairwise (· < ·) → (∀ x, x ∈ l ↔ x ∈ m) → l = m
  | [], [], _, _, _ => rfl
  | [], y :: m, _, _, h => nomatch (h y).mpr List.mem_cons_self
  | x :: l, [], _, _, h => nomatch (h x).mp List.mem_cons_self
  | x :: l, y :: m, hl, hm, h => by
    have hl := List.pairwise_cons.mp hl
    have hm := List.pairwise_cons.mp hm
    have e : x = y := by
      rcases List.mem_cons.mp ((h x).mp List.mem_cons_self) with z | z
      · exact z
      · rcases List.mem_cons.mp ((h y).mpr List.mem_cons_self) with w | w
        · exact w.symm
        · have := hl.1 y w
          have := hm.1 x z
          omega
    subst e
    rw [asc_ext hl.2 hm.2 fun z => ⟨fun hz => ?_, fun hz => ?_⟩]
    · rcases List.mem_cons.mp ((h z).mp (List.mem_cons_of_mem _ hz)) with w | w
      · have := hl.1 z hz
        omega
      · exact w
    · rcases List.mem_cons.mp ((h z).mpr (List.mem_cons_of_mem _ hz)) with w | w
      · have := hm.1 z hz
        omega
      · exact w
/-- the prime divisors -/
def partsL (n : Int) : List Int := (rangeL 2 (n - 1).toNat).filter fun q => decide (n % q = 0) && primeB q
theorem partsL_mem {n x : Int} : x ∈ partsL n ↔ 2 ≤ x ∧ x ≤ n ∧ n % x = 0 ∧ primeB x = true := by
  unfold partsL
  rw [List.mem_filter, rangeL_mem, Bool.and_eq_true, decide_eq_true_eq]
  constructor
  · rintro ⟨⟨a, b⟩, c, d⟩
    exact ⟨a, by omega, c, d⟩
  · rintro ⟨a, b, c, d⟩
    exact ⟨⟨a, by omega⟩, c, d⟩
theorem partsL_asc (n : Int) : (partsL n).Pairwise (· < ·) := (rangeL_asc _ _).filter _
theorem parts_of {n : Int} (n0 : 0 < n) (hn : n < 10000) : Parts n (partsL n) := by
  refine ⟨fun q hq => ?_, fun d d2 e => ?_⟩
  · obtain ⟨a, b, c, _⟩ := partsL_mem.mp hq
    exact ⟨a, b, c⟩
  · obtain ⟨r, hr⟩ := least_ex d2
    have dn : d ≤ n := Int.le_of_dvd n0 (Int.dvd_of_emod_eq_zero e)
    have := hr.hi
    exact ⟨r, partsL_mem.mpr ⟨hr.lo, by omega, emod_trans e hr.dv, least_prime hr (by omega)⟩, hr.dv⟩
theorem partsL_len {n : Int} (hn : n ≤ 10000) : (partsL n).length ≤ 10000 := by
  refine Nat.le_trans (List.length_filter_le _ _) ?_
  unfold rangeL
  rw [List.length_map, List.length_range]
  omega
/-- few of them -/
theorem asc_prod : ∀ {l : List Int} {n : Int}, l.Pairwise (· < ·) → (∀ q ∈ l, 2 ≤ q ∧ n % q = 0 ∧ primeB q = true) → 0 < n → n < 10000 → 2 ^ l.length ≤ n
  | [], n, _, _, n0, _ => by show (1 : Int) ≤ n; omega
  | q :: l, n, hl, h, n0, hn => by
    have hl := List.pairwise_cons.mp hl
    obtain ⟨q2, qd, qp⟩ := h q List.mem_cons_self
    have e := div_of qd
    have d0 := div_pos' qd n0 (by omega)
    have m : 2 * (n / q) ≤ q * (n / q) := Int.mul_le_mul_of_nonneg_right q2 (by omega)
    have qn : q ≤ n := Int.le_of_dvd n0 (Int.dvd_of_emod_eq_zero qd)
    have ih := asc_prod (n := n / q) hl.2 (fun x hx => by
      obtain ⟨x2, xd, xp⟩ := h x (List.mem_cons_of_mem _ hx)
      refine ⟨x2, ?_, xp⟩
      have xq := hl.1 x hx
      have xn : x ≤ n := Int.le_of_dvd n0 (Int.dvd_of_emod_eq_zero xd)
      have own : ∀ y : Int, 2 ≤ y → y < q → q % y ≠ 0 := primeB_all (by omega) qp
      refine part_step (r := q) own q2 (by omega) d0 (primeB_all (by omega) xp q q2 xq) ?_
      rw [← e]
      exact xd) d0 (by omega)
    have e2 : (2 : Int) ^ (q :: l).length = 2 ^ l.length * 2 := Int.pow_succ 2 _
    rw [e2]
    omega
theorem partsL_few {n : Int} (n0 : 0 < n) (hn : n < 10000) : (partsL n).length ≤ 14 := by
  have h := asc_prod (partsL_asc n) (fun q hq => let ⟨a, _, c, d⟩ := partsL_mem.mp hq; ⟨a, c, d⟩) n0 hn
  exact pow_le_one (l := 1) (by rw [Int.one_mul]; exact h) (by omega) (by omega)
/-- what a rising list of primes is -/
theorem parts_eq {n : Int} {qs : List Int} (ha : qs.Pairwise (· < ·)) (h1 : ∀ q ∈ qs, 2 ≤ q ∧ q ≤ n ∧ n % q = 0 ∧ primeB q = true) (h2 : ∀ q : Int, 2 ≤ q → primeB q = true → n % q = 0 → q ∈ qs) : qs = partsL n :=
  asc_ext ha (partsL_asc n) fun x => ⟨fun h => partsL_mem.mpr (h1 x h), fun h => let ⟨a, _, c, d⟩ := partsL_mem.mp h; h2 x a d c⟩
/-! ### full numbers -/
theorem full_prime {c g : Int} (c2 : 2 ≤ c) (hc : c < 10000) (h : fullB c g (partsL (c - 1)) = true) : primeB c = true :=
  (primeB_iff (by omega) hc).mpr (lucas c2 ((fullB_iff c2 (parts_of (by omega) (by omega))).mp h))
theorem full_ex {c : Int} (c2 : 2 ≤ c) (hc : c ≤ 9973) (h : primeB c = true) : ∃ g, 0 < g ∧ g < c ∧ g < 32 ∧ fullB c g (partsL (c - 1)) = true := by
  rcases Int.lt_or_le c 3 with z | z
  · have e : c = 2 := by omega
    subst e
    exact ⟨1, by omega, by omega, by omega, by decide⟩
  · obtain ⟨g, g32, g0, g1, o⟩ := root_lt (pr_of z hc h)
    exact ⟨g, g0, g1, g32, (fullB_iff c2 (parts_of (by omega) (by omega))).mpr o⟩
/-- the least number with a mark -/
theorem first_of {f : Int → Bool} {g : Int} (g0 : 0 < g) (hg : f g = true) : ∃ h, 0 < h ∧ h ≤ g ∧ f h = true ∧ ∀ x, 0 < x → x < h → f x = false := by
  have key : ∀ k : Nat, (∃ h, 0 < h ∧ h ≤ (k : Int) ∧ f h = true ∧ ∀ x, 0 < x → x < h → f x = false) ∨ ∀ x, 0 < x → x ≤ (k : Int) → f x = false := by
    intro k
    induction k with
    | zero => exact .inr fun x x0 x1 => by omega
    | succ k ih =>
      rcases ih with ⟨h, a, b, c, d⟩ | z
      · exact .inl ⟨h, a, by omega, c, d⟩
      · cases y : f ((k : Int) + 1) with
        | true => exact .inl ⟨(k : Int) + 1, by omega, by omega, y, fun x x0 x1 => z x x0 (by omega)⟩
        | false =>
          refine .inr fun x x0 x1 => ?_
          rcases Int.lt_or_le x ((k : Int) + 1) with w | w
          · exact z x x0 (by omega)
          · have e : x = (k : Int) + 1 := by omega
            rw [e]
            exact y
  rcases key g.toNat with ⟨h, a, b, c, d⟩ | z
  · exact ⟨h, a, by omega, c, d⟩
  · rw [z g g0 (by omega)] at hg
    cases hg
theorem filter_first {f : Int → Bool} : ∀ {k : Nat} {lo h : Int}, lo ≤ h → h < lo + (k : Int) → f h = true → (∀ x, lo ≤ x → x < h → f x = false) → ∃ r, (rangeL lo k).filter f = h :: r
  | 0, lo, h, h1, h2, _, _ => by omega
  | k + 1, lo, h, h1, h2, h3, h4 => by
    have e : rangeL lo (k + 1) = lo :: rangeL (lo + 1) k := by
      unfold rangeL
      rw [List.range_succ_eq_map, List.map_cons, List.map_map]
      simp only [Int.natCast_zero, Int.add_zero, List.cons.injEq, true_and]
      refine List.map_congr_left fun i _ => ?_
      show lo + ((i + 1 : Nat) : Int) = lo + 1 + (i : Int)
      omega
    rw [e]
    rcases Int.lt_or_le lo h with z | z
    · rw [List.filter_cons_of_neg (by rw [h4 lo (Int.le_refl _) z]; decide)]
      exact filter_first (by omega) (by omega) h3 fun x x1 x2 => h4 x (by omega) x2
    · have e2 : h = lo := by omega
      subst e2
      rw [List.filter_cons_of_pos h3]
      exact ⟨_, rfl⟩
/-! ### squares -/
/-- the roots of a number -/
def sqL (p : Int) (k : Nat) (q : Int) : List Int := (rangeL 0 k).filter fun x => decide (x * x % p = q)
theorem rangeL_succ (lo : Int) (k : Nat) : rangeL lo (k + 1) = rangeL lo k ++ [lo + (k : Int)] := by
  unfold rangeL
  rw [List.range_succ, List.map_append]
  rfl
theorem sqL_succ (p : Int) (k : Nat) (q : Int) : sqL p (k + 1) q = if (k : Int) * (k : Int) % p = q then sqL p k q ++ [(k : Int)] else sqL p k q := by
  unfold sqL
  rw [rangeL_succ, List.filter_append, Int.zero_add]
  by_cases h : (k : Int) * (k : Int) % p = q
  · rw [if_pos h, List.filter_cons_of_pos (by rw [decide_eq_true h]), List.filter_nil]
  · rw [if_neg h, List.filter_cons_of_neg (by rw [decide_eq_false h]; decide), List.filter_nil, List.append_nil]
theorem sqL_mem {p q x : Int} {k : Nat} : x ∈ sqL p k q ↔ 0 ≤ x ∧ x < (k : Int) ∧ x * x % p = q := by
  unfold sqL
  rw [List.mem_filter, rangeL_mem, decide_eq_true_eq, Int.zero_add, and_assoc]
theorem pr_split {p x y : Int} (hp : Pr p) (h : x * y % p = 0) : x % p = 0 ∨ y % p = 0 := by
  have lo := hp.lo
  by_cases c : x % p = 0
  · exact .inl c
  · refine .inr ?_
    have x0 := Int.emod_nonneg x (show p ≠ 0 by omega)
    have x1 := Int.emod_lt_of_pos x (show 0 < p by omega)
    have f := fermat hp (show 0 < x % p by omega) x1
    -- x^(p-2) * x * y = y
    have e : (p - 1).toNat = (p - 2).toNat + 1 := by omega
    rw [e, Int.pow_succ] at f
    have g : Cg p ((x % p) ^ (p - 2).toNat * (x % p) * y) (1 * y) := f.mul (Cg.refl p y)
    have h2 : Cg p (x % p * y) 0 := ((Cg.rest p x).mul (Cg.refl p y)).trans (Cg.of (by rw [h, Int.zero_emod]))
    have h3 : Cg p ((x % p) ^ (p - 2).toNat * (x % p) * y) ((x % p) ^ (p - 2).toNat * 0) := by
      rw [Int.mul_assoc]
      exact (Cg.refl p _).mul h2
    have := (h3.symm.trans g).emod
    rw [Int.mul_zero, Int.zero_emod, Int.one_mul] at this
    exact this.symm
theorem sq_two {p x y : Int} (hp : Pr p) (x0 : 0 ≤ x) (x1 : x < p) (y0 : 0 ≤ y) (y1 : y < p) (h : x * x % p = y * y % p) : x = y ∨ x + y = p ∨ (x = 0 ∧ y = 0) := by
  have lo := hp.lo
  have d : (x - y) * (x + y) % p = 0 := by
    obtain ⟨t, e⟩ := Cg.of h
    have : (x - y) * (x + y) = p * t := by grind
    rw [this]
    exact Int.mul_emod_right p t
  rcases pr_split hp d with z | z
  · left
    obtain ⟨t, e⟩ := Int.dvd_of_emod_eq_zero z
    have : t = 0 := by
      rcases Int.lt_trichotomy t 0 with w | w | w
      · have : p * t ≤ p * (-1) := Int.mul_le_mul_of_nonneg_left (by omega) (by omega)
        omega
      · exact w
      · have : p * 1 ≤ p * t := Int.mul_le_mul_of_nonneg_left (by omega) (by omega)
        omega
    rw [this, Int.mul_zero] at e
    omega
  · right
    obtain ⟨t, e⟩ := Int.dvd_of_emod_eq_zero z
    rcases Int.lt_or_le t 1 with w | w
    · have : p * t ≤ p * 0 := Int.mul_le_mul_of_nonneg_left (by omega) (by omega)
      right
      omega
    · rcases Int.lt_or_le t 2 with v | v
      · have : t = 1 := by omega
        subst this
        left
        omega
      · have : p * 2 ≤ p * t := Int.mul_le_mul_of_nonneg_left (by omega) (by omega)
        omega
theorem Pr.odd {p : Int} (hp : Pr p) : p % 2 = 1 := by
  have lo := hp.lo
  have := hp.nodiv (show (2 : Int) ≤ 2 by omega) (by omega)
  omega
theorem sub_len {α : Type} [DecidableEq α] : ∀ {l m : List α}, l.Nodup → (∀ x ∈ l, x ∈ m) → l.length ≤ m.length
  | [], m, _, _ => Nat.zero_le _
  | a :: l, m, nd, hs => by
    have am : a ∈ m := hs a List.mem_cons_self
    have nd' := List.nodup_cons.mp nd
    have := sub_len (m := m.erase a) nd'.2 fun x hx => (List.mem_erase_of_ne (fun e : x = a => nd'.1 (by rw [← e]; exact hx))).mpr (hs x (List.mem_cons_of_mem _ hx))
    rw [List.length_erase_of_mem am] at this
    have := List.length_pos_of_mem am
    simp only [List.length_cons]
    omega
theorem nodup_mapI {f : Int → Int} : ∀ {l : List Int}, l.Nodup → (∀ x ∈ l, ∀ y ∈ l, f x = f y → x = y) → (l.map f).Nodup
  | [], _, _ => List.nodup_nil
  | a :: l, nd, h => by
    have nd := List.nodup_cons.mp nd
    rw [List.map_cons, List.nodup_cons]
    refine ⟨fun hm => ?_, nodup_mapI nd.2 fun x hx y hy => h x (List.mem_cons_of_mem _ hx) y (List.mem_cons_of_mem _ hy)⟩
    obtain ⟨x, hx, e⟩ := List.mem_map.mp hm
    have := h x (List.mem_cons_of_mem _ hx) a List.mem_cons_self e
    subst this
    exact nd.1 hx
/-- so many squares -/
theorem squares_many {p : Int} {ks : List Int} (hp : Pr p) (nd : ks.Nodup) (h : ∀ q, q ∈ ks ↔ sqL p p.toNat q ≠ []) : (ks.length : Int) = (p + 1) / 2 := by
  have lo := hp.lo
  have od := hp.odd
  have ne : ∀ q, sqL p p.toNat q ≠ [] ↔ ∃ x, 0 ≤ x ∧ x < p ∧ x * x % p = q := fun q => by
    rw [ne_eq, List.eq_nil_iff_forall_not_mem]
    constructor
    · intro z
      by_cases c : ∃ x, x ∈ sqL p p.toNat q
      · obtain ⟨x, hx⟩ := c
        obtain ⟨a, b, c⟩ := sqL_mem.mp hx
        exact ⟨x, a, by omega, c⟩
      · exact absurd (fun x hx => c ⟨x, hx⟩) z
    · rintro ⟨x, a, b, c⟩ z
      exact z x (sqL_mem.mpr ⟨a, by omega, c⟩)
  have hn : ((rangeL 0 ((p + 1) / 2).toNat).map fun x => x * x % p).Nodup := nodup_mapI ((rangeL_asc _ _).imp fun {a b} h => by show a ≠ b; omega) fun x hx y hy e => by
    have hx := rangeL_mem.mp hx
    have hy := rangeL_mem.mp hy
    rcases sq_two hp (by omega) (by omega) (by omega) (by omega) e with z | z | z <;> omega
  have l1 := sub_len nd fun q hq => show q ∈ (rangeL 0 ((p + 1) / 2).toNat).map fun x => x * x % p by
    obtain ⟨x, a, b, c⟩ := (ne q).mp ((h q).mp hq)
    rw [List.mem_map]
    rcases Int.lt_or_le x ((p + 1) / 2) with z | z
    · exact ⟨x, rangeL_mem.mpr (by omega), c⟩
    · refine ⟨p - x, rangeL_mem.mpr (by omega), ?_⟩
      rw [← c]
      exact (show Cg p ((p - x) * (p - x)) (x * x) from ⟨p - 2 * x, by grind⟩).emod
  have l2 := sub_len hn fun q hq => by
    obtain ⟨x, hx, rfl⟩ := List.mem_map.mp hq
    have hx := rangeL_mem.mp hx
    exact (h _).mpr ((ne _).mpr ⟨x, by omega, by omega, rfl⟩)
  have l3 : (rangeL 0 ((p + 1) / 2).toNat).length = ((p + 1) / 2).toNat := by unfold rangeL; rw [List.length_map, List.length_range]
  rw [List.length_map, l3] at l1 l2
  omega
/-- the power to half -/
theorem euler {p a : Int} (hp : Pr p) (a0 : 0 < a) (a1 : a < p) : (Cg p (a ^ ((p - 1) / 2).toNat) 1 ↔ sqL p p.toNat a ≠ []) ∧ (Cg p (a ^ ((p - 1) / 2).toNat) 1 ∨ Cg p (a ^ ((p - 1) / 2).toNat) (p - 1)) := by
  have lo := hp.lo
  have od := hp.odd
  have fm := fermat hp a0 a1
  have two : (p - 1).toNat = ((p - 1) / 2).toNat + ((p - 1) / 2).toNat := by omega
  refine ⟨⟨fun c => ?_, fun h => ?_⟩, ?_⟩
  · obtain ⟨g, hg⟩ := root_ex hp
    obtain ⟨e, he, ea⟩ := hg.all hp a0 a1
    have ca : Cg p (g ^ e) a := by rw [← ea]; exact (Cg.rest p _).symm
    have c2 := ((ca.pow ((p - 1) / 2).toNat)).trans c
    rw [← Int.pow_mul] at c2
    have dv := hg.2.2.dvd.mp c2
    obtain ⟨t, et⟩ := dv
    have ev : e = 2 * t := by
      have h0 : 0 < ((p - 1) / 2).toNat := by omega
      have : e * ((p - 1) / 2).toNat = (2 * t) * ((p - 1) / 2).toNat := by rw [et, two]; grind
      exact Nat.eq_of_mul_eq_mul_right h0 this
    have im := Int.emod_nonneg (g ^ t) (show p ≠ 0 by omega)
    have im2 := Int.emod_lt_of_pos (g ^ t) (show 0 < p by omega)
    intro z
    have m : g ^ t % p ∈ sqL p p.toNat a := sqL_mem.mpr ⟨im, by omega, by
      rw [← Int.emod_eq_of_lt (Int.le_of_lt a0) a1]
      refine (((Cg.rest p (g ^ t)).mul (Cg.rest p (g ^ t))).trans ?_).emod
      rw [← Int.pow_add, show t + t = e by omega]
      exact ca⟩
    rw [z] at m
    cases m
  · have : ∃ x, x ∈ sqL p p.toNat a := by
      cases e : sqL p p.toNat a with
      | nil => exact absurd e h
      | cons x r => exact ⟨x, List.mem_cons_self⟩
    obtain ⟨x, hx⟩ := this
    obtain ⟨x0, x1, ex⟩ := sqL_mem.mp hx
    have xp : 0 < x := by
      rcases Int.lt_or_le 0 x with z | z
      · exact z
      · have : x = 0 := by omega
        subst this
        rw [Int.zero_mul, Int.zero_emod] at ex
        omega
    have cx : Cg p (x * x) a := by rw [← ex]; exact (Cg.rest p _).symm
    refine (cx.pow _).symm.trans ?_
    have : (x * x) ^ ((p - 1) / 2).toNat = x ^ (p - 1).toNat := by rw [two, Int.pow_add, Int.mul_pow]
    rw [this]
    exact fermat hp xp (by omega)
  · rw [two, Int.pow_add] at fm
    have h0 := Int.emod_nonneg (a ^ ((p - 1) / 2).toNat) (show p ≠ 0 by omega)
    have h1 := Int.emod_lt_of_pos (a ^ ((p - 1) / 2).toNat) (show 0 < p by omega)
    generalize a ^ ((p - 1) / 2).toNat = h at fm h0 h1
    have e : (h % p) * (h % p) % p = 1 * 1 % p := (((Cg.rest p h).mul (Cg.rest p h)).trans fm).emod
    rcases sq_two hp h0 h1 (show (0 : Int) ≤ 1 by omega) (show (1 : Int) < p by omega) e with z | z | z
    · left
      have := Cg.rest p h
      rw [z] at this
      exact this.symm
    · right
      have := Cg.rest p h
      rw [show h % p = p - 1 by omega] at this
      exact this.symm
    · omega

end Eqr
set_option maxHeartbeats 1000000
namespace Eqr
open PySem PySem.Spec L2 Ow Dl
/-! ### slices of data -/
theorem cut_drop (xs : List PyData) (k : Nat) : cutD xs (some (k : Int)) none = xs.drop k := by
  unfold cutD
  have e1 : HT.sIx xs.length 0 (some (k : Int)) = min k xs.length := HT.sIx_nat xs.length 0 k
  rw [e1, HT.sIx_none, List.take_of_length_le (by rw [List.length_drop]; exact Nat.le_refl _)]
  rcases Nat.lt_or_ge k xs.length with z | z
  · rw [Nat.min_eq_left (by omega)]
  · rw [Nat.min_eq_right z, List.drop_length, List.drop_of_length_le z]
theorem cut_take (xs : List PyData) (k : Nat) : cutD xs none (some (k : Int)) = xs.take k := by
  unfold cutD
  have e1 : HT.sIx xs.length xs.length (some (k : Int)) = min k xs.length := HT.sIx_nat xs.length xs.length k
  rw [e1, HT.sIx_none]
  show (xs.drop 0).take (min k xs.length - 0) = _
  rw [List.drop_zero, Nat.sub_zero]
  rcases Nat.lt_or_ge k xs.length with z | z
  · rw [Nat.min_eq_left (by omega)]
  · rw [Nat.min_eq_right z, List.take_length, List.take_of_length_le z]
theorem cut_init (xs : List PyData) : cutD xs none (some (-1)) = xs.dropLast := by
  unfold cutD
  have e1 : HT.sIx xs.length xs.length (some (-1)) = xs.length - 1 := by
    show (if (-1 : Int) < 0 then ((-1 : Int) + (xs.length : Int)).toNat else min (-1 : Int).toNat xs.length) = _
    rw [if_pos (by decide)]
    omega
  rw [e1, HT.sIx_none]
  show (xs.drop 0).take (xs.length - 1 - 0) = _
  rw [List.drop_zero, Nat.sub_zero, List.dropLast_eq_take]
theorem cut_span (xs : List PyData) (k j : Nat) : cutD xs (some (k : Int)) (some (j : Int)) = (xs.drop k).take (j - k) := by
  unfold cutD
  have e1 : HT.sIx xs.length 0 (some (k : Int)) = min k xs.length := HT.sIx_nat xs.length 0 k
  have e2 : HT.sIx xs.length xs.length (some (j : Int)) = min j xs.length := HT.sIx_nat xs.length xs.length j
  rw [e1, e2]
  rcases Nat.lt_or_ge k xs.length with z | z
  · have m1 : min k xs.length = k := by omega
    rw [m1]
    rcases Nat.lt_or_ge j xs.length with y | y
    · have m2 : min j xs.length = j := by omega
      rw [m2]
    · have m2 : min j xs.length = xs.length := by omega
      rw [m2, List.take_of_length_le (by rw [List.length_drop]; exact Nat.le_refl _), List.take_of_length_le (by rw [List.length_drop]; omega)]
  · have m1 : min k xs.length = xs.length := by omega
    rw [m1, List.drop_length, List.drop_of_length_le z, List.take_nil, List.take_nil]
theorem il_drop (f : List Int) (k : Nat) : (il f).drop k = il (f.drop k) := by rw [il, ← List.map_drop]
theorem il_take (f : List Int) (k : Nat) : (il f).take k = il (f.take k) := by rw [il, ← List.map_take]
theorem il_init (f : List Int) : (il f).dropLast = il f.dropLast := by rw [il, ← List.map_dropLast]
theorem range_ints (a : Int) (n : Nat) : rangeD a n = il ((List.range n).map fun (i : Nat) => a + (i : Int)) := by
  unfold rangeD
  rw [il, List.map_map]
  rfl

end Eqr
set_option maxHeartbeats 1000000
namespace Eqr
open PySem PySem.Spec L2 Ow Dl
/-! ### the shape of data that a law bends: scalars, lists and tuples of bounded depth -/
/-- a short text of plain signs -/
def WordOk (x : Str) : Prop := (PyData.str x).leavesShort 40 = true
def Scal (N : Int) (d : PyData) : Prop := d = .none ∨ (∃ b, d = .bool b) ∨ (∃ i, d = .int i ∧ -N ≤ i ∧ i ≤ N) ∨ (∃ x, d = .str x ∧ WordOk x) ∨ d = .dict []
def Shp (N : Int) : Nat → PyData → Prop
  | 0, d => Scal N d
  | k + 1, d => Scal N d ∨ ∃ xs, Sq d xs ∧ ∀ x ∈ xs, Shp N k x
theorem Scal.mono {N M : Int} (h : N ≤ M) {d : PyData} (s : Scal N d) : Scal M d := by
  rcases s with e | e | ⟨i, e, a, b⟩ | e | e
  · exact .inl e
  · exact .inr (.inl e)
  · exact .inr (.inr (.inl ⟨i, e, by omega, by omega⟩))
  · exact .inr (.inr (.inr (.inl e)))
  · exact .inr (.inr (.inr (.inr e)))
theorem Shp.sc {N : Int} {k : Nat} {d : PyData} (s : Scal N d) : Shp N k d := by
  cases k with
  | zero => exact s
  | succ k => exact .inl s
theorem Shp.mono {N M : Int} (h : N ≤ M) : ∀ {k j : Nat} {d : PyData}, k ≤ j → Shp N k d → Shp M j d
  | 0, j, d, _, s => Shp.sc (Scal.mono h s)
  | k + 1, 0, d, l, s => by omega
  | k + 1, j + 1, d, l, s => by
    rcases s with s | ⟨xs, e, a⟩
    · exact .inl (s.mono h)
    · exact .inr ⟨xs, e, fun x hx => Shp.mono h (Nat.le_of_succ_le_succ l) (a x hx)⟩
theorem Shp.seq {N : Int} {k : Nat} {d : PyData} {xs : List PyData} (e : Sq d xs) (h : ∀ x ∈ xs, Shp N k x) : Shp N (k + 1) d := .inr ⟨xs, e, h⟩
/-- the items of such a list -/
theorem Shp.item {N : Int} {k : Nat} {d x : PyData} {xs : List PyData} (s : Shp N k d) (e : Sq d xs) (h : x ∈ xs) : ∃ j, k = j + 1 ∧ Shp N j x := by
  cases k with
  | zero =>
    rcases s with z | ⟨_, z⟩ | ⟨_, z, _⟩ | ⟨_, z, _⟩ | z <;> rcases e with e | e <;> rw [e] at z <;> cases z
  | succ k =>
    rcases s with s | ⟨ys, e2, a⟩
    · rcases s with z | ⟨_, z⟩ | ⟨_, z, _⟩ | ⟨_, z, _⟩ | z <;> rcases e with e | e <;> rw [e] at z <;> cases z
    · have : xs = ys := by
        rcases e with e | e <;> rcases e2 with e2 | e2 <;> rw [e] at e2 <;> cases e2 <;> rfl
      exact ⟨k, rfl, a x (this ▸ h)⟩
theorem Shp.int {N : Int} {k : Nat} {i : Int} (s : Shp N k (.int i)) : -N ≤ i ∧ i ≤ N := by
  have key : Scal N (.int i) → -N ≤ i ∧ i ≤ N := fun s => by
    rcases s with z | ⟨_, z⟩ | ⟨j, z, a, b⟩ | ⟨_, z, _⟩ | z
    · cases z
    · cases z
    · cases z
      exact ⟨a, b⟩
    · cases z
    · cases z
  cases k with
  | zero => exact key s
  | succ k =>
    rcases s with s | ⟨ys, e2, a⟩
    · exact key s
    · rcases e2 with e | e <;> cases e
theorem bulk_seq {d : PyData} {xs : List PyData} (e : Sq d xs) : d.bulk = PyData.bulkAll xs := by
  rcases e with rfl | rfl <;> simp only [PyData.bulk]
theorem bulk_app : ∀ (a b : List PyData), PyData.bulkAll (a ++ b) = PyData.bulkAll a + PyData.bulkAll b
  | [], b => by simp only [List.nil_append, PyData.bulkAll, Nat.zero_add]
  | x :: a, b => by
    simp only [List.cons_append, PyData.bulkAll, bulk_app a b]
    omega
theorem bulk_rev : ∀ a : List PyData, PyData.bulkAll a.reverse = PyData.bulkAll a
  | [] => rfl
  | x :: a => by
    rw [List.reverse_cons, bulk_app, bulk_rev a]
    simp only [PyData.bulkAll]
    omega
theorem bulk_len : ∀ a : List PyData, a.length ≤ PyData.bulkAll a
  | [] => Nat.le_refl _
  | x :: a => by
    have := bulk_len a
    simp only [List.length_cons, PyData.bulkAll]
    omega
theorem bulk_take (a : List PyData) (k : Nat) : PyData.bulkAll (a.take k) + PyData.bulkAll (a.drop k) = PyData.bulkAll a := by rw [← bulk_app, List.take_append_drop]
theorem bulk_at {a : List PyData} {k : Nat} {x : PyData} (h : a[k]? = some x) : PyData.bulkAll (a.take k) + (x.bulk + 1 + PyData.bulkAll (a.drop (k + 1))) = PyData.bulkAll a := by
  have hk := (List.getElem?_eq_some_iff.mp h).1
  have e := bulk_take a k
  rw [List.drop_eq_getElem_cons hk, (List.getElem?_eq_some_iff.mp h).2] at e
  simpa only [PyData.bulkAll] using e
theorem scal_vw {N : Int} (hN : N < 10 ^ 38) {d : PyData} (s : Scal N d) : d.showable = true ∧ d.leavesShort 40 = true ∧ d.depth ≤ 1 := by
  rcases s with rfl | ⟨b, rfl⟩ | ⟨i, rfl, a, b⟩ | ⟨x, rfl, h⟩ | rfl
  · exact ⟨Vw.none.shw, Vw.none.leaf, by decide⟩
  · exact ⟨(Vw.bool b).shw, (Vw.bool b).leaf, by have := (Vw.bool b).dep; omega⟩
  · have v := Vw.int (i := i) (by omega) (by omega)
    exact ⟨v.shw, v.leaf, by have := v.dep; omega⟩
  · exact ⟨rfl, h, Nat.zero_le _⟩
  · exact ⟨Vw.dict0.shw, Vw.dict0.leaf, Vw.dict0.dep⟩
theorem all_vw {k : Nat} : ∀ {xs : List PyData}, (∀ x ∈ xs, x.showable = true ∧ x.leavesShort 40 = true ∧ x.depth ≤ k) → PyData.showableAll xs = true ∧ PyData.leavesShortAll 40 xs = true ∧ PyData.depthAll xs ≤ k
  | [], _ => ⟨rfl, rfl, Nat.zero_le _⟩
  | x :: xs, h => by
    obtain ⟨a, b, c⟩ := h x List.mem_cons_self
    obtain ⟨d, e, f⟩ := all_vw fun y hy => h y (List.mem_cons_of_mem _ hy)
    refine ⟨?_, ?_, ?_⟩
    · simp only [PyData.showableAll, a, d, Bool.and_self]
    · simp only [PyData.leavesShortAll, b, e, Bool.and_self]
    · simp only [PyData.depthAll]
      omega
theorem shp_vw {N : Int} (hN : N < 10 ^ 38) : ∀ {k : Nat} {d : PyData}, Shp N k d → d.showable = true ∧ d.leavesShort 40 = true ∧ d.depth ≤ k + 1
  | 0, d, s => scal_vw hN s
  | k + 1, d, s => by
    rcases s with s | ⟨xs, e, a⟩
    · obtain ⟨x, y, z⟩ := scal_vw hN s
      exact ⟨x, y, by omega⟩
    · obtain ⟨x, y, z⟩ := all_vw fun x hx => shp_vw hN (a x hx)
      rcases e with rfl | rfl
      · refine ⟨?_, ?_, ?_⟩
        · simpa only [PyData.showable] using x
        · simpa only [PyData.leavesShort] using y
        · simp only [PyData.depth]
          omega
      · refine ⟨?_, ?_, ?_⟩
        · simpa only [PyData.showable] using x
        · simpa only [PyData.leavesShort] using y
        · simp only [PyData.depth]
          omega
theorem Shp.vw {N : Int} (hN : N < 10 ^ 38) {k n : Nat} {d : PyData} (s : Shp N k d) (h : d.bulk ≤ n) : Vw (k + 1) n d :=
  let ⟨a, b, c⟩ := shp_vw hN s
  ⟨a, b, c, h⟩
theorem Shp.ints {N : Int} {k : Nat} {g : List Int} {d : PyData} (e : Sq d (il g)) (h : ∀ n ∈ g, -N ≤ n ∧ n ≤ N) : Shp N (k + 1) d := .seq e fun x hx => by
  obtain ⟨n, hn, rfl⟩ := List.mem_map.mp hx
  exact Shp.sc (.inr (.inr (.inl ⟨n, rfl, (h n hn).1, (h n hn).2⟩)))
theorem bulk_ints : ∀ g : List Int, PyData.bulkAll (il g) = g.length
  | [] => rfl
  | a :: g => by
    have ih := bulk_ints g
    rw [il, List.map_cons, List.length_cons]
    simp only [PyData.bulkAll, PyData.bulk]
    rw [show PyData.bulkAll (List.map PyData.int g) = g.length from ih]
    omega

end Eqr
set_option maxHeartbeats 1000000
namespace Eqr
open PySem PySem.Spec L2 Ow Dl
def top (i : Nat) : Stmt := PySem.Challenge.pw_equalruns_k13_whole_prime_papers_and_squ.main.body.getD i (.Pass ⟨0, 0, 0, 0⟩)
abbrev s_is_integer : Stmt := top 12
theorem sc_is_integer : FnScope ["value"] ["value"] (defScope s_is_integer) := ⟨rfl, rfl, rfl, by decide +kernel, rfl, by decide +kernel, by decide +kernel⟩
theorem bd_is_integer : Ow.Bind "is_integer" s_is_integer ["value"] := fun _ _ _ _ _ _ us hl => match us, hl with | [_], _ => rfl
abbrev s_is_within : Stmt := top 13
theorem sc_is_within : FnScope ["value", "least", "most"] ["value", "least", "most"] (defScope s_is_within) := ⟨rfl, rfl, rfl, by decide +kernel, rfl, by decide +kernel, by decide +kernel⟩
theorem bd_is_within : Ow.Bind "is_within" s_is_within ["value", "least", "most"] := fun _ _ _ _ _ _ us hl => match us, hl with | [_, _, _], _ => rfl
abbrev s_least_divisor : Stmt := top 14
theorem sc_least_divisor : FnScope ["count", "found"] ["count"] (defScope s_least_divisor) := ⟨rfl, rfl, rfl, by decide +kernel, rfl, by decide +kernel, by decide +kernel⟩
theorem bd_least_divisor : Ow.Bind "least_divisor" s_least_divisor ["count"] := fun _ _ _ _ _ _ us hl => match us, hl with | [_], _ => rfl
abbrev s_is_prime_of : Stmt := top 15
theorem sc_is_prime_of : FnScope ["value"] ["value"] (defScope s_is_prime_of) := ⟨rfl, rfl, rfl, by decide +kernel, rfl, by decide +kernel, by decide +kernel⟩
theorem bd_is_prime_of : Ow.Bind "is_prime_of" s_is_prime_of ["value"] := fun _ _ _ _ _ _ us hl => match us, hl with | [_], _ => rfl
abbrev s_check_prime : Stmt := top 16
theorem sc_check_prime : FnScope ["value"] ["value"] (defScope s_check_prime) := ⟨rfl, rfl, rfl, by decide +kernel, rfl, by decide +kernel, by decide +kernel⟩
theorem bd_check_prime : Ow.Bind "check_prime" s_check_prime ["value"] := fun _ _ _ _ _ _ us hl => match us, hl with | [_], _ => rfl
abbrev s_is_number_of : Stmt := top 17
theorem sc_is_number_of : FnScope ["prime", "value"] ["prime", "value"] (defScope s_is_number_of) := ⟨rfl, rfl, rfl, by decide +kernel, rfl, by decide +kernel, by decide +kernel⟩
theorem bd_is_number_of : Ow.Bind "is_number_of" s_is_number_of ["prime", "value"] := fun _ _ _ _ _ _ us hl => match us, hl with | [_, _], _ => rfl
abbrev s_check_number : Stmt := top 18
theorem sc_check_number : FnScope ["prime", "value"] ["prime", "value"] (defScope s_check_number) := ⟨rfl, rfl, rfl, by decide +kernel, rfl, by decide +kernel, by decide +kernel⟩
theorem bd_check_number : Ow.Bind "check_number" s_check_number ["prime", "value"] := fun _ _ _ _ _ _ us hl => match us, hl with | [_, _], _ => rfl
abbrev s_check_count : Stmt := top 19
theorem sc_check_count : FnScope ["value", "least", "most"] ["value", "least", "most"] (defScope s_check_count) := ⟨rfl, rfl, rfl, by decide +kernel, rfl, by decide +kernel, by decide +kernel⟩
theorem bd_check_count : Ow.Bind "check_count" s_check_count ["value", "least", "most"] := fun _ _ _ _ _ _ us hl => match us, hl with | [_, _, _], _ => rfl
abbrev s_powered : Stmt := top 22
theorem sc_powered : FnScope ["prime", "one", "many", "found", "square", "left", "odd"] ["prime", "one", "many"] (defScope s_powered) := ⟨rfl, rfl, rfl, by decide +kernel, rfl, by decide +kernel, by decide +kernel⟩
theorem bd_powered : Ow.Bind "powered" s_powered ["prime", "one", "many"] := fun _ _ _ _ _ _ us hl => match us, hl with | [_, _, _], _ => rfl
abbrev s_back_of : Stmt := top 23
theorem sc_back_of : FnScope ["prime", "one", "high", "low", "many", "late", "share"] ["prime", "one"] (defScope s_back_of) := ⟨rfl, rfl, rfl, by decide +kernel, rfl, by decide +kernel, by decide +kernel⟩
theorem bd_back_of : Ow.Bind "back_of" s_back_of ["prime", "one"] := fun _ _ _ _ _ _ us hl => match us, hl with | [_, _], _ => rfl
abbrev s_is_prime : Stmt := top 24
theorem sc_is_prime : FnScope ["value"] ["value"] (defScope s_is_prime) := ⟨rfl, rfl, rfl, by decide +kernel, rfl, by decide +kernel, by decide +kernel⟩
theorem bd_is_prime : Ow.Bind "is_prime" s_is_prime ["value"] := fun _ _ _ _ _ _ us hl => match us, hl with | [_], _ => rfl
abbrev s_power : Stmt := top 25
theorem sc_power : FnScope ["prime", "one", "many"] ["prime", "one", "many"] (defScope s_power) := ⟨rfl, rfl, rfl, by decide +kernel, rfl, by decide +kernel, by decide +kernel⟩
theorem bd_power : Ow.Bind "power" s_power ["prime", "one", "many"] := fun _ _ _ _ _ _ us hl => match us, hl with | [_, _, _], _ => rfl
abbrev s_primes_of : Stmt := top 29
theorem sc_primes_of : FnScope ["count", "found", "left", "one"] ["count"] (defScope s_primes_of) := ⟨rfl, rfl, rfl, by decide +kernel, rfl, by decide +kernel, by decide +kernel⟩
theorem bd_primes_of : Ow.Bind "primes_of" s_primes_of ["count"] := fun _ _ _ _ _ _ us hl => match us, hl with | [_], _ => rfl
abbrev s_is_full : Stmt := top 30
theorem sc_is_full : FnScope ["count", "one", "parts", "part"] ["count", "one", "parts"] (defScope s_is_full) := ⟨rfl, rfl, rfl, by decide +kernel, rfl, by decide +kernel, by decide +kernel⟩
theorem bd_is_full : Ow.Bind "is_full" s_is_full ["count", "one", "parts"] := fun _ _ _ _ _ _ us hl => match us, hl with | [_, _, _], _ => rfl
abbrev s_least_full : Stmt := top 31
theorem sc_least_full : FnScope ["count", "parts", "one"] ["count", "parts"] (defScope s_least_full) := ⟨rfl, rfl, rfl, by decide +kernel, rfl, by decide +kernel, by decide +kernel⟩
theorem bd_least_full : Ow.Bind "least_full" s_least_full ["count", "parts"] := fun _ _ _ _ _ _ us hl => match us, hl with | [_, _], _ => rfl
abbrev s_halves_of : Stmt := top 32
theorem sc_halves_of : FnScope ["prime", "one", "half"] ["prime", "one"] (defScope s_halves_of) := ⟨rfl, rfl, rfl, by decide +kernel, rfl, by decide +kernel, by decide +kernel⟩
theorem bd_halves_of : Ow.Bind "halves_of" s_halves_of ["prime", "one"] := fun _ _ _ _ _ _ us hl => match us, hl with | [_, _], _ => rfl
abbrev s_paper_of : Stmt := top 33
theorem sc_paper_of : FnScope ["count", "one", "parts"] ["count"] (defScope s_paper_of) := ⟨rfl, rfl, rfl, by decide +kernel, rfl, by decide +kernel, by decide +kernel⟩
theorem bd_paper_of : Ow.Bind "paper_of" s_paper_of ["count"] := fun _ _ _ _ _ _ us hl => match us, hl with | [_], _ => rfl
abbrev s_is_parts_paper : Stmt := top 34
theorem sc_is_parts_paper : FnScope ["count", "one", "other"] ["count", "one", "other"] (defScope s_is_parts_paper) := ⟨rfl, rfl, rfl, by decide +kernel, rfl, by decide +kernel, by decide +kernel⟩
theorem bd_is_parts_paper : Ow.Bind "is_parts_paper" s_is_parts_paper ["count", "one", "other"] := fun _ _ _ _ _ _ us hl => match us, hl with | [_, _, _], _ => rfl
abbrev s_are_parts : Stmt := top 35
theorem sc_are_parts : FnScope ["value", "parts", "one"] ["value", "parts"] (defScope s_are_parts) := ⟨rfl, rfl, rfl, by decide +kernel, rfl, by decide +kernel, by decide +kernel⟩
theorem bd_are_parts : Ow.Bind "are_parts" s_are_parts ["value", "parts"] := fun _ _ _ _ _ _ us hl => match us, hl with | [_, _], _ => rfl
abbrev s_check_one : Stmt := top 36
theorem sc_check_one : FnScope ["prime", "one"] ["prime", "one"] (defScope s_check_one) := ⟨rfl, rfl, rfl, by decide +kernel, rfl, by decide +kernel, by decide +kernel⟩
theorem bd_check_one : Ow.Bind "check_one" s_check_one ["prime", "one"] := fun _ _ _ _ _ _ us hl => match us, hl with | [_, _], _ => rfl
abbrev s_prime_paper : Stmt := top 37
theorem sc_prime_paper : FnScope ["count"] ["count"] (defScope s_prime_paper) := ⟨rfl, rfl, rfl, by decide +kernel, rfl, by decide +kernel, by decide +kernel⟩
theorem bd_prime_paper : Ow.Bind "prime_paper" s_prime_paper ["count"] := fun _ _ _ _ _ _ us hl => match us, hl with | [_], _ => rfl
abbrev s_is_prime_paper : Stmt := top 38
theorem sc_is_prime_paper : FnScope ["count", "value", "parts"] ["count", "value"] (defScope s_is_prime_paper) := ⟨rfl, rfl, rfl, by decide +kernel, rfl, by decide +kernel, by decide +kernel⟩
theorem bd_is_prime_paper : Ow.Bind "is_prime_paper" s_is_prime_paper ["count", "value"] := fun _ _ _ _ _ _ us hl => match us, hl with | [_, _], _ => rfl
abbrev s_is_square : Stmt := top 39
theorem sc_is_square : FnScope ["prime", "one"] ["prime", "one"] (defScope s_is_square) := ⟨rfl, rfl, rfl, by decide +kernel, rfl, by decide +kernel, by decide +kernel⟩
theorem bd_is_square : Ow.Bind "is_square" s_is_square ["prime", "one"] := fun _ _ _ _ _ _ us hl => match us, hl with | [_, _], _ => rfl
abbrev s_halves : Stmt := top 40
theorem sc_halves : FnScope ["prime", "one", "found"] ["prime", "one"] (defScope s_halves) := ⟨rfl, rfl, rfl, by decide +kernel, rfl, by decide +kernel, by decide +kernel⟩
theorem bd_halves : Ow.Bind "halves" s_halves ["prime", "one"] := fun _ _ _ _ _ _ us hl => match us, hl with | [_, _], _ => rfl
abbrev s_law_pot : Stmt := top 42
theorem sc_law_pot : FnScope ["script", "k", "cell"] ["script", "k"] (defScope s_law_pot) := ⟨rfl, rfl, rfl, by decide +kernel, rfl, by decide +kernel, by decide +kernel⟩
theorem bd_law_pot : Ow.Bind "_law_pot" s_law_pot ["script", "k"] := fun _ _ _ _ _ _ us hl => match us, hl with | [_, _], _ => rfl
abbrev s_law_draw : Stmt := top 43
theorem sc_law_draw : FnScope ["pot", "many", "digit"] ["pot", "many"] (defScope s_law_draw) := ⟨rfl, rfl, rfl, by decide +kernel, rfl, by decide +kernel, by decide +kernel⟩
theorem bd_law_draw : Ow.Bind "_law_draw" s_law_draw ["pot", "many"] := fun _ _ _ _ _ _ us hl => match us, hl with | [_, _], _ => rfl
abbrev s_law_pick : Stmt := top 44
theorem sc_law_pick : FnScope ["pot", "some"] ["pot", "some"] (defScope s_law_pick) := ⟨rfl, rfl, rfl, by decide +kernel, rfl, by decide +kernel, by decide +kernel⟩
theorem bd_law_pick : Ow.Bind "_law_pick" s_law_pick ["pot", "some"] := fun _ _ _ _ _ _ us hl => match us, hl with | [_, _], _ => rfl
abbrev s_law_is_prime : Stmt := top 45
theorem sc_law_is_prime : FnScope ["number", "part"] ["number"] (defScope s_law_is_prime) := ⟨rfl, rfl, rfl, by decide +kernel, rfl, by decide +kernel, by decide +kernel⟩
theorem bd_law_is_prime : Ow.Bind "_law_is_prime" s_law_is_prime ["number"] := fun _ _ _ _ _ _ us hl => match us, hl with | [_], _ => rfl
abbrev s_law_prime : Stmt := top 46
theorem sc_law_prime : FnScope ["pot", "first", "number"] ["pot"] (defScope s_law_prime) := ⟨rfl, rfl, rfl, by decide +kernel, rfl, by decide +kernel, by decide +kernel⟩
theorem bd_law_prime : Ow.Bind "_law_prime" s_law_prime ["pot"] := fun _ _ _ _ _ _ us hl => match us, hl with | [_], _ => rfl
abbrev s_law_parts : Stmt := top 47
theorem sc_law_parts : FnScope ["number", "part"] ["number"] (defScope s_law_parts) := ⟨rfl, rfl, rfl, by decide +kernel, rfl, by decide +kernel, by decide +kernel⟩
theorem bd_law_parts : Ow.Bind "_law_parts" s_law_parts ["number"] := fun _ _ _ _ _ _ us hl => match us, hl with | [_], _ => rfl
abbrev s_law_power : Stmt := top 48
theorem sc_law_power : FnScope ["count", "base", "many", "found", "here", "left", "turn"] ["count", "base", "many"] (defScope s_law_power) := ⟨rfl, rfl, rfl, by decide +kernel, rfl, by decide +kernel, by decide +kernel⟩
theorem bd_law_power : Ow.Bind "_law_power" s_law_power ["count", "base", "many"] := fun _ _ _ _ _ _ us hl => match us, hl with | [_, _, _], _ => rfl
abbrev s_law_is_full : Stmt := top 49
theorem sc_law_is_full : FnScope ["count", "one", "parts", "part"] ["count", "one", "parts"] (defScope s_law_is_full) := ⟨rfl, rfl, rfl, by decide +kernel, rfl, by decide +kernel, by decide +kernel⟩
theorem bd_law_is_full : Ow.Bind "_law_is_full" s_law_is_full ["count", "one", "parts"] := fun _ _ _ _ _ _ us hl => match us, hl with | [_, _, _], _ => rfl
abbrev s_law_paper : Stmt := top 50
theorem sc_law_paper : FnScope ["count", "parts", "one", "least", "part"] ["count", "parts"] (defScope s_law_paper) := ⟨rfl, rfl, rfl, by decide +kernel, rfl, by decide +kernel, by decide +kernel⟩
theorem bd_law_paper : Ow.Bind "_law_paper" s_law_paper ["count", "parts"] := fun _ _ _ _ _ _ us hl => match us, hl with | [_, _], _ => rfl
abbrev s_law_is_integer : Stmt := top 51
theorem sc_law_is_integer : FnScope ["value"] ["value"] (defScope s_law_is_integer) := ⟨rfl, rfl, rfl, by decide +kernel, rfl, by decide +kernel, by decide +kernel⟩
theorem bd_law_is_integer : Ow.Bind "_law_is_integer" s_law_is_integer ["value"] := fun _ _ _ _ _ _ us hl => match us, hl with | [_], _ => rfl
abbrev s_law_is_paper : Stmt := top 52
theorem sc_law_is_paper : FnScope ["count", "parts", "value", "one"] ["count", "parts", "value"] (defScope s_law_is_paper) := ⟨rfl, rfl, rfl, by decide +kernel, rfl, by decide +kernel, by decide +kernel⟩
theorem bd_law_is_paper : Ow.Bind "_law_is_paper" s_law_is_paper ["count", "parts", "value"] := fun _ _ _ _ _ _ us hl => match us, hl with | [_, _, _], _ => rfl
abbrev s_law_bent : Stmt := top 53
theorem sc_law_bent : FnScope ["pot", "value", "at", "way"] ["pot", "value"] (defScope s_law_bent) := ⟨rfl, rfl, rfl, by decide +kernel, rfl, by decide +kernel, by decide +kernel⟩
theorem bd_law_bent : Ow.Bind "_law_bent" s_law_bent ["pot", "value"] := fun _ _ _ _ _ _ us hl => match us, hl with | [_, _], _ => rfl
abbrev s_law_papers_right : Stmt := top 54
theorem sc_law_papers_right : FnScope ["pot", "count", "parts", "due", "other", "values", "turn", "right", "value", "is_so", "shown"] ["pot", "count"] (defScope s_law_papers_right) := ⟨rfl, rfl, rfl, by decide +kernel, rfl, by decide +kernel, by decide +kernel⟩
theorem bd_law_papers_right : Ow.Bind "_law_papers_right" s_law_papers_right ["pot", "count"] := fun _ _ _ _ _ _ us hl => match us, hl with | [_, _], _ => rfl
abbrev s_law_heard : Stmt := top 55
theorem sc_law_heard : FnScope ["prime", "one", "told"] ["prime", "one"] (defScope s_law_heard) := ⟨rfl, rfl, rfl, by decide +kernel, rfl, by decide +kernel, by decide +kernel⟩
theorem bd_law_heard : Ow.Bind "_law_heard" s_law_heard ["prime", "one"] := fun _ _ _ _ _ _ us hl => match us, hl with | [_, _], _ => rfl
abbrev s_law_squares_right : Stmt := top 56
theorem sc_law_squares_right : FnScope ["pot", "prime", "roots", "one", "turn", "due", "is_so", "half", "told"] ["pot", "prime"] (defScope s_law_squares_right) := ⟨rfl, rfl, rfl, by decide +kernel, rfl, by decide +kernel, by decide +kernel⟩
theorem bd_law_squares_right : Ow.Bind "_law_squares_right" s_law_squares_right ["pot", "prime"] := fun _ _ _ _ _ _ us hl => match us, hl with | [_, _], _ => rfl
abbrev s_law_right : Stmt := top 57
theorem sc_law_right : FnScope ["pot", "prime", "small", "number", "counts", "count"] ["pot"] (defScope s_law_right) := ⟨rfl, rfl, rfl, by decide +kernel, rfl, by decide +kernel, by decide +kernel⟩
theorem bd_law_right : Ow.Bind "_law_right" s_law_right ["pot"] := fun _ _ _ _ _ _ us hl => match us, hl with | [_], _ => rfl
abbrev s_law : Stmt := top 58
theorem sc_law : FnScope ["script", "k"] ["script"] (defScope s_law) := ⟨rfl, rfl, rfl, by decide +kernel, rfl, by decide +kernel, by decide +kernel⟩
theorem bd_law : Ow.Bind "law" s_law ["script"] := fun _ _ _ _ _ _ us hl => match us, hl with | [_], _ => rfl
theorem w_prime_paper_0_count : Ow.Way "prime_paper" s_prime_paper ["count"] 0 ["count"] [0] := fun _ _ _ _ _ _ us ws h1 h2 => match us, ws, h1, h2 with | [], [_], _, _ => rfl
theorem w_is_prime_paper_0_value_count : Ow.Way "is_prime_paper" s_is_prime_paper ["count", "value"] 0 ["value", "count"] [1, 0] := fun _ _ _ _ _ _ us ws h1 h2 => match us, ws, h1, h2 with | [], [_, _], _, _ => rfl
theorem w_halves_0_one_prime : Ow.Way "halves" s_halves ["prime", "one"] 0 ["one", "prime"] [1, 0] := fun _ _ _ _ _ _ us ws h1 h2 => match us, ws, h1, h2 with | [], [_, _], _, _ => rfl
theorem w_is_square_0_one_prime : Ow.Way "is_square" s_is_square ["prime", "one"] 0 ["one", "prime"] [1, 0] := fun _ _ _ _ _ _ us ws h1 h2 => match us, ws, h1, h2 with | [], [_, _], _, _ => rfl
/-- what the top has written -/
structure Tx (K : PySem.W.Frag) (mg : Str → Option Value) : Prop where
  b_abs : mg "abs" = none
  b_all : mg "all" = none
  b_any : mg "any" = none
  b_bool : mg "bool" = none
  b_divmod : mg "divmod" = none
  b_int : mg "int" = none
  b_isinstance : mg "isinstance" = none
  b_len : mg "len" = none
  b_list : mg "list" = none
  b_max : mg "max" = none
  b_min : mg "min" = none
  b_range : mg "range" = none
  b_repr : mg "repr" = none
  b_str : mg "str" = none
  b_tuple : mg "tuple" = none
  c_LEAST_COUNT : ∃ t, mg "LEAST_COUNT" = some (.int 2 t)
  c_LEAST_PRIME : ∃ t, mg "LEAST_PRIME" = some (.int 3 t)
  c_MOST_COUNT : ∃ t, mg "MOST_COUNT" = some (.int 9973 t)
  c_MOST_EXPONENT : ∃ t, mg "MOST_EXPONENT" = some (.int 1000000 t)
  c_MOST_PRIME : ∃ t, mg "MOST_PRIME" = some (.int 9973 t)
  x_NoSquare : Dl.Exc0 K mg "NoSquare"
  m_NoSquare_NoSquare : Dl.Mat K mg "NoSquare" "NoSquare" true
  f_is_integer : Ow.Stands K mg "is_integer" s_is_integer
  f_is_within : Ow.Stands K mg "is_within" s_is_within
  f_least_divisor : Ow.Stands K mg "least_divisor" s_least_divisor
  f_is_prime_of : Ow.Stands K mg "is_prime_of" s_is_prime_of
  f_check_prime : Ow.Stands K mg "check_prime" s_check_prime
  f_is_number_of : Ow.Stands K mg "is_number_of" s_is_number_of
  f_check_number : Ow.Stands K mg "check_number" s_check_number
  f_check_count : Ow.Stands K mg "check_count" s_check_count
  f_powered : Ow.Stands K mg "powered" s_powered
  f_back_of : Ow.Stands K mg "back_of" s_back_of
  f_is_prime : Ow.Stands K mg "is_prime" s_is_prime
  f_power : Ow.Stands K mg "power" s_power
  f_primes_of : Ow.Stands K mg "primes_of" s_primes_of
  f_is_full : Ow.Stands K mg "is_full" s_is_full
  f_least_full : Ow.Stands K mg "least_full" s_least_full
  f_halves_of : Ow.Stands K mg "halves_of" s_halves_of
  f_paper_of : Ow.Stands K mg "paper_of" s_paper_of
  f_is_parts_paper : Ow.Stands K mg "is_parts_paper" s_is_parts_paper
  f_are_parts : Ow.Stands K mg "are_parts" s_are_parts
  f_check_one : Ow.Stands K mg "check_one" s_check_one
  f_prime_paper : Ow.Stands K mg "prime_paper" s_prime_paper
  f_is_prime_paper : Ow.Stands K mg "is_prime_paper" s_is_prime_paper
  f_is_square : Ow.Stands K mg "is_square" s_is_square
  f_halves : Ow.Stands K mg "halves" s_halves
  f_law_pot : Ow.Stands K mg "_law_pot" s_law_pot
  f_law_draw : Ow.Stands K mg "_law_draw" s_law_draw
  f_law_pick : Ow.Stands K mg "_law_pick" s_law_pick
  f_law_is_prime : Ow.Stands K mg "_law_is_prime" s_law_is_prime
  f_law_prime : Ow.Stands K mg "_law_prime" s_law_prime
  f_law_parts : Ow.Stands K mg "_law_parts" s_law_parts
  f_law_power : Ow.Stands K mg "_law_power" s_law_power
  f_law_is_full : Ow.Stands K mg "_law_is_full" s_law_is_full
  f_law_paper : Ow.Stands K mg "_law_paper" s_law_paper
  f_law_is_integer : Ow.Stands K mg "_law_is_integer" s_law_is_integer
  f_law_is_paper : Ow.Stands K mg "_law_is_paper" s_law_is_paper
  f_law_bent : Ow.Stands K mg "_law_bent" s_law_bent
  f_law_papers_right : Ow.Stands K mg "_law_papers_right" s_law_papers_right
  f_law_heard : Ow.Stands K mg "_law_heard" s_law_heard
  f_law_squares_right : Ow.Stands K mg "_law_squares_right" s_law_squares_right
  f_law_right : Ow.Stands K mg "_law_right" s_law_right
  f_law : Ow.Stands K mg "law" s_law
end Eqr
set_option maxHeartbeats 1000000
namespace Eqr
open PySem PySem.Spec L2 Ow Dl
/-! ### the pot: two numbers, the second one below 2 ^ 32 (proved on the heap) -/
theorem same_new {H : Hp} {p : Addr} {o : HO} (h : H p = none) : Same H (upd H p o) := fun b u e => by
  rw [upd_ne (ne_of_none e h)]
  exact e
abbrev PotAt := PotA
structure Stp (a : Addr) (H H' : Hp) : Prop where
  kp : ∀ b o, b ≠ a → H b = some o → H' b = some o
  pot : PotAt H' a
section
variable {P : Program} {w : World} {K : PySem.W.Frag} {mg : Str → Option Value} {base : Heap}
def sp_law_pot (K : PySem.W.Frag) : Sp := fun vs H Q _ => ∃ a k ns, vs = [.ref a, .int k] ∧ SqL K H a (List.map V.int ns) ∧ 0 ≤ k ∧ ∀ H' p, Same H H' → H p = none → PotAt H' p → Q (.ref p) H'
theorem D_law_pot (T : Tx K mg) : Ow.Df P w K mg base CX0 1 "_law_pot" s_law_pot ["script", "k"] (sp_law_pot K) := by
  refine Ow.df_of T.f_law_pot sc_law_pot bd_law_pot (fun vs H Q E h => ?_) (fun cdv A outer s H vs Q E f hG hR h => ?_)
  · obtain ⟨_, _, _, rfl, _⟩ := h
    rfl
  · obtain ⟨a, k, ns, rfl, hS, hk, q⟩ := h
    have hu := hR.units
    have hu1 := hu_of hR
    refine ⟨_, (pss_cons (ps_set (i := 2) sc_law_pot.nd rfl (Or.inl rfl) (pe_ifExp (pt_cmpR op_lt (pv 1) (pe_callB call_len_seq (by rfl) T.b_len (by decide +kernel) (pa_cons (pv 0) pa_nil)) (nomark _)) (pe_callB call_abs (by rfl) T.b_abs (by decide +kernel) (pa_cons (pe_ix ix_list (pv 0) (pv 1) (fun _ _ => rfl)) pa_nil)) (pe_op op_add (pe_op op_mul pe_int (pv 1)) pe_int)))
      (pss_one (ps_ret (pe_lst (pa_cons (pe_callB (call_max2 rfl) (by rfl) T.b_max (by decide +kernel) (pa_cons pe_int (pa_cons (pe_op op_sub (pv 2) (pe_op op_pow pe_int pe_int)) pa_nil))) (pa_cons (pe_op op_add (pe_op op_mod (pe_callTy Ow.call_int (by rfl) T.b_int (by decide +kernel) (pa_cons (pe_op op_add (pe_op op_add (pe_op op_mul (pe_op op_mod (pe_callTy Ow.call_int (by rfl) T.b_int (by decide +kernel) (pa_cons (pv 2) pa_nil)) pe_int) pe_int) (pe_op op_mul pe_int (pv 1))) pe_int) pa_nil)) pe_int) pe_int) pa_nil)))))), ?_⟩
    have fin : ∀ x y : Int, 0 ≤ x → 0 ≤ y → y < 4294967296 → [V.int x, V.int y].length ≤ sizeLine ∧ ∀ p, H p = none → Q (.ref p) (upd H p (.lst [.int x, .int y])) :=
      fun x y x0 y0 y1 => ⟨(by show 2 ≤ sizeLine; decide), fun p hp => q _ p (same_new hp) hp ⟨x, y, upd_same, x0, y0, y1⟩⟩
    refine ⟨_, rfl, _, rfl, a, _, rfl, .inl hS, _, _, rfl, rfl, _, rfl, ?_⟩
    refine ite2 (fun c => ?_) (fun c => ?_)
    · have c : k < ((List.map V.int ns).length : Int) := of_decide_eq_true c
      rw [List.length_map] at c
      have g : (List.map V.int ns)[k.toNat]? = some (.int ns[k.toNat]) := by
        rw [List.getElem?_map, List.getElem?_eq_getElem (by omega)]
        rfl
      refine ⟨_, rfl, _, rfl, a, _, k, _, rfl, rfl, hS, at_of (by omega) g, _, rfl, ?_⟩
      generalize (if ns[k.toNat] < 0 then -ns[k.toNat] else ns[k.toNat]) = c
      refine ⟨_, rfl, _, _, rfl, rfl, ⟨by decide, by decide, by decide⟩, _, _, rfl, rfl, _, _, rfl, _, rfl, _, rfl, _, _, rfl, rfl, (by show (0 : Int) < _; omega), _, _, rfl, rfl, (by first | exact .inl ⟨by omega, by omega⟩ | exact .inr ⟨by omega, by omega⟩), _, rfl, _, _, rfl, rfl, (by first | exact .inl ⟨by omega, by omega⟩ | exact .inr ⟨by omega, by omega⟩), _, _, rfl, rfl, _, _, rfl, rfl, _, rfl, _, _, rfl, rfl, (by show (0 : Int) < _; omega), _, _, rfl, rfl, fin _ _ ?_ ?_ ?_⟩
      · split <;> omega
      · have := Int.emod_nonneg (c % 2147483549 * 40014 + 6131 * k + 4139) (show (2147483563 : Int) ≠ 0 by decide)
        omega
      · have := Int.emod_lt_of_pos (c % 2147483549 * 40014 + 6131 * k + 4139) (show (0 : Int) < 2147483563 by decide)
        omega
    · refine ⟨_, rfl, _, _, rfl, rfl, (by first | exact .inl ⟨by omega, by omega⟩ | exact .inr ⟨by omega, by omega⟩), _, _, rfl, rfl, ?_⟩
      generalize 6131 * k + 3623 = c
      refine ⟨_, rfl, _, _, rfl, rfl, ⟨by decide, by decide, by decide⟩, _, _, rfl, rfl, _, _, rfl, _, rfl, _, rfl, _, _, rfl, rfl, (by show (0 : Int) < _; omega), _, _, rfl, rfl, (by first | exact .inl ⟨by omega, by omega⟩ | exact .inr ⟨by omega, by omega⟩), _, rfl, _, _, rfl, rfl, (by first | exact .inl ⟨by omega, by omega⟩ | exact .inr ⟨by omega, by omega⟩), _, _, rfl, rfl, _, _, rfl, rfl, _, rfl, _, _, rfl, rfl, (by show (0 : Int) < _; omega), _, _, rfl, rfl, fin _ _ ?_ ?_ ?_⟩
      · split <;> omega
      · have := Int.emod_nonneg (c % 2147483549 * 40014 + 6131 * k + 4139) (show (2147483563 : Int) ≠ 0 by decide)
        omega
      · have := Int.emod_lt_of_pos (c % 2147483549 * 40014 + 6131 * k + 4139) (show (0 : Int) < 2147483563 by decide)
        omega
def sp_law_draw : Sp := fun vs H Q _ => ∃ a m, vs = [.ref a, .int m] ∧ PotAt H a ∧ 0 < m ∧ m < 2 ^ 200 ∧ ∀ d H', Stp a H H' → 0 ≤ d → d < m → Q (.int d) H'
theorem div_big {i j : Int} (h : 0 < j) (h2 : j < 2 ^ 200) : CDivP i j := ⟨h, PyProof.noPylong_of_log2 (by
  have e : j.natAbs < 2 ^ 200 := by omega
  have := (Nat.log2_lt (by omega : j.natAbs ≠ 0)).mpr e
  omega)⟩
theorem stp_put {a : Addr} {H H' : Hp} {x y : Int} (s : ∀ b o, b ≠ a → H b = some o → H' b = some o) (x0 : 0 ≤ x) (y0 : 0 ≤ y) (y1 : y < 4294967296) : Stp a H (upd H' a (.lst [.int x, .int y])) :=
  ⟨fun b o n e => by rw [upd_ne n]; exact s b o n e, x, y, upd_same, x0, y0, y1⟩
theorem D_law_draw (T : Tx K mg) : Ow.Df P w K mg base CX0 1 "_law_draw" s_law_draw ["pot", "many"] (sp_law_draw) := by
  refine Ow.df_of T.f_law_draw sc_law_draw bd_law_draw (fun vs H Q E h => ?_) (fun cdv A outer s H vs Q E f hG hR h => ?_)
  · obtain ⟨_, _, rfl, _⟩ := h
    rfl
  · obtain ⟨a, m, rfl, hp, m0, m1, q⟩ := h
    have hu := hR.units
    have hu1 := hu_of hR
    refine ⟨_, (pss_cons (ps_if (pt_cmpR op_gt (pe_ix ix_list (pv 0) pe_int (fun _ _ => rfl)) pe_int (nomark _))
      (pss_cons (ps_asg (pe_callB call_divmodW (by rfl) T.b_divmod (by decide +kernel) (pa_cons (pe_ix ix_list (pv 0) pe_int (fun _ _ => rfl)) (pa_cons (pv 1) pa_nil))) (pg_tup rfl (pgs_cons (pg_sub (pv 0) pe_int set_list) (pgs_cons (pg_name (i := 2) sc_law_draw.nd rfl (Or.inl rfl)) pgs_nil))))
        (pss_one (ps_ret (pv 2))))
      pss_nil)
      (pss_cons (ps_asg (pe_op op_mod (pe_callTy Ow.call_int (by rfl) T.b_int (by decide +kernel) (pa_cons (pe_op op_add (pe_op op_mul (pe_ix ix_list (pv 0) pe_int (fun _ _ => rfl)) pe_int) pe_int) pa_nil)) pe_int) (pg_sub (pv 0) pe_int set_list))
      (pss_one (ps_ret (pe_op op_mod (pe_callTy Ow.call_int (by rfl) T.b_int (by decide +kernel) (pa_cons (pe_op Ow.op_div (pe_op op_mod (pe_callTy Ow.call_int (by rfl) T.b_int (by decide +kernel) (pa_cons (pe_op op_mul (pe_ix ix_list (pv 0) pe_int (fun _ _ => rfl)) (pe_ix ix_list (pv 0) pe_int (fun _ _ => rfl))) pa_nil)) pe_int) pe_int) pa_nil)) (pv 1)))))), ?_⟩
    obtain ⟨x, y, e, x0, y0, y1⟩ := hp
    refine ⟨_, rfl, a, _, 0, .int x, rfl, rfl, .of e, rfl, _, _, rfl, rfl, _, rfl, ?_⟩
    refine ite2 (fun c => ?_) (fun c => ?_)
    · have c : 0 < x := of_decide_eq_true c
      refine ⟨_, rfl, a, _, 0, .int x, rfl, rfl, .of e, rfl, _, rfl, _, _, rfl, div_big m0 m1, fun t ht => ?_⟩
      have ne : a ≠ t := ne_of_none e ht
      refine ⟨t, _, rfl, .inl (.inl upd_same), rfl, _, _, rfl, _, rfl, a, _, 0, 0, rfl, rfl, (upd_ne ne).trans e, rfl, ?_⟩
      refine ⟨_, _, rfl, rfl, _, rfl, ?_⟩
      have s := same_new (o := .tup [.int (x / m), .int (x % m)]) ht
      exact q _ _ (stp_put (fun b o _ e => s b o e) (Int.ediv_nonneg (by omega) (by omega)) y0 y1) (Int.emod_nonneg _ (by omega)) (Int.emod_lt_of_pos _ m0)
    · refine ⟨_, rfl, a, _, 1, .int y, rfl, rfl, .of e, rfl, _, _, rfl, rfl, .inl ⟨by omega, by omega⟩, _, _, rfl, rfl, _, rfl, _, _, rfl, rfl, (by show (0 : Int) < _; omega), ?_⟩
      have z0 := Int.emod_nonneg (y * 40692 + 4139) (show (2147483587 : Int) ≠ 0 by decide)
      have z1 := Int.emod_lt_of_pos (y * 40692 + 4139) (show (0 : Int) < 2147483587 by decide)
      refine ⟨_, rfl, a, _, 1, 1, rfl, rfl, e, rfl, ?_⟩
      have e2 : (upd H a (.lst [.int x, .int ((y * 40692 + 4139) % 2147483587)])) a = some (.lst [.int x, .int ((y * 40692 + 4139) % 2147483587)]) := upd_same
      refine ⟨_, rfl, a, _, 1, _, rfl, rfl, .of e2, rfl, _, rfl, a, _, 1, _, rfl, rfl, .of e2, rfl, _, _, rfl, rfl, .inl ⟨by omega, by omega⟩, _, rfl, _, _, rfl, rfl, (by show (0 : Int) < _; omega), _, _, rfl, rfl, ⟨by omega, by omega⟩, _, rfl, _, rfl, _, _, rfl, rfl, m0, ?_⟩
      exact q _ _ (stp_put (fun b o _ e => e) x0 z0 (by omega)) (Int.emod_nonneg _ (by omega)) (Int.emod_lt_of_pos _ m0)
/-! .. and as data -/
def f_draw : DF := fun ds Q => ∃ m, ds = [.int m] ∧ 0 < m ∧ m < 2 ^ 200 ∧ ∀ d, 0 ≤ d → d < m → Q (.int d)
theorem COk.mono {c : DC} {sp sp' : Sp} (h : COk K c sp) (w : ∀ vs H Q E, sp vs H Q E → sp' vs H Q E) : COk K c sp' := fun Z η M H vs ys Q Qv E r p q fin => w _ _ _ _ (h Z η M H vs ys Q Qv E r p q fin)
theorem draw_ok : COk K (cT f_draw) sp_law_draw := COk.mono cT_ok fun vs H Q E h => by
  obtain ⟨Z, a, us, ds, Qd, rfl, r, d, ⟨m, rfl, m0, m1, q⟩, fin⟩ := h
  cases d with
  | cons d1 t =>
    cases t
    refine ⟨a, m, by rw [int_of' d1], r.ok 0 a .pot rfl rfl, m0, m1, fun x H' st x0 x1 => ?_⟩
    have kp : Keep [a] [.pot] H [a] [.pot] H' := ⟨⟨[], rfl⟩, fun b o e n => ⟨st.kp b o (fun c => n (pot_one.mpr c)) e, n⟩⟩
    refine fin _ _ H' ⟨rfl, fun j b c e1 e2 => ?_, r.inj, fun b hb => ⟨fun e => ?_, (r.z b hb).2⟩⟩ kp (.int x) (q x x0 x1)
    · cases j with
      | zero =>
        cases e1
        cases e2
        exact st.pot
      | succ j => simp at e1
    · have hn := (r.z b hb).1
      cases z : H b with
      | none => exact hn z
      | some o =>
        rw [st.kp b o (fun c => (r.z b hb).2 (pot_one.mpr c)) z] at e
        cases e
def cPot : DC := fun ys M Q => ∃ (ns : List Int) (k : Int), ys = [.d (.list (ns.map PyData.int)), .d (.int k)] ∧ 0 ≤ k ∧ Q (.o M.length) (M ++ [.pot])
theorem pot_ok : COk K cPot (sp_law_pot K) := by
  rintro Z η M H vs ys Q Qv E r hp ⟨ns, k, rfl, hk, q⟩ fin
  cases hp with
  | cons d1 t =>
    cases t with
    | cons d2 t =>
      cases t
      have d1 : Dq K (vis Z η M H) _ (.list (ns.map PyData.int)) := d1
      cases d1 with
      | lst s t =>
        rw [DqAll.ints t] at s
        refine ⟨_, k, ns, by rw [int_of' (W := vis Z η M H) d2], SqL.sm s vis_sub, hk, fun H' p sm hp pt => ?_⟩
        have hG : Sm H (hid' p H') := fun b o e => by
          unfold hid'
          rw [if_neg (ne_of_none e hp)]
          exact sm b o e
        obtain ⟨r1, k1⟩ := r.smNew hG
        have gp : hid' p H' p = none := by unfold hid'; rw [if_pos rfl]
        obtain ⟨x, y, e, x0, y0, y1⟩ := pt
        obtain ⟨r2, k2⟩ := r1.cell (c := .pot) (o := .lst [.int x, .int y]) gp rfl ⟨x, y, upd_same, x0, y0, y1⟩
        have eH : upd (hid' p H') p (.lst [.int x, .int y]) = H' := by
          funext b
          by_cases c : b = p
          · subst c
            rw [upd_same, e]
          · rw [upd_ne c]
            unfold hid'
            rw [if_neg c]
        rw [eH] at r2 k2
        exact fin _ _ _ (.o M.length) H' r2 (k1.trans k2) ⟨p, by rw [List.getElem?_append_right (by rw [r.len]; exact Nat.le_refl _), ← r.len, Nat.sub_self]; rfl, rfl⟩ q
end

end Eqr
set_option maxHeartbeats 1000000
namespace Eqr
open PySem PySem.Spec L2 Ow Dl
section
variable {P : Program} {w : World} {K : PySem.W.Frag} {mg : Str → Option Value} {base : Heap}
theorem iteAnd {a b : Bool} {Q : PyData → Prop} (h : Q (.bool (a && b))) : if a = true then Q (.bool b) else Q (.bool false) := by
  cases a <;> exact h
theorem iteOr {a b : Bool} {Q : PyData → Prop} (h : Q (.bool (a || b))) : if a = true then Q (.bool true) else Q (.bool b) := by
  cases a <;> exact h
def f_is_integer : DF := fun ds Q => ∃ d, ds = [d] ∧ Q (.bool (isInt d))
theorem D_is_integer (T : Tx K mg) : Ow.Df P w K mg base CX0 1 "is_integer" s_is_integer ["value"] (spP K (f_is_integer)) := by
  refine df_P T.f_is_integer sc_is_integer bd_is_integer (fun ds Q h => ?_) (fun cdv A outer s H E f hG hR => ?_)
  · obtain ⟨d, rfl, q⟩ := h
    rfl
  · have hu := hR.units
    have hu1 := hu_of hR
    refine ⟨_, (pdss_one (pds_ret (pd_and (pd_isi k_int T.b_isinstance (dv 0) (pe_bltn (v := .ty "int") (by rfl) T.b_int (by decide +kernel) rfl)) (pd_one (pd_not (pd_isi k_bool T.b_isinstance (dv 0) (pe_bltn (v := .ty "bool") (by rfl) T.b_bool (by decide +kernel) rfl))))))), fun ds Q h => ?_⟩
    obtain ⟨d, rfl, q⟩ := h
    cases d <;> exact q
def f_is_within : DF := fun ds Q => ∃ d l m, ds = [d, .int l, .int m] ∧ Q (.bool (withinD d l m))
theorem D_is_within (T : Tx K mg) : Ow.Df P w K mg base CX0 2 "is_within" s_is_within ["value", "least", "most"] (spP K (f_is_within)) := by
  refine df_P T.f_is_within sc_is_within bd_is_within (fun ds Q h => ?_) (fun cdv A outer s H E f hG hR => ?_)
  · obtain ⟨d, l, m, rfl, q⟩ := h
    rfl
  · have hu := hR.units
    have hu1 := hu_of hR
    refine ⟨_, (pdss_one (pds_ret (pd_and (pd_d (D_is_integer T) cP_ok hR (by decide) hG pass0 (by rfl) (da_cons (dv 0) da_nil)) (pd_one (pd_chain op_le op_le (dv 1) (dv 0) (dv 2)))))), fun ds Q h => ?_⟩
    obtain ⟨d, l, m, rfl, q⟩ := h
    refine ⟨_, rfl, ?_⟩
    cases d with
    | int i => exact iteT (iteAnd q)
    | _ => exact q
def f_is_list : DF := fun ds Q => ∃ d, ds = [d] ∧ Q (.bool (isSeq d))
def f_least_divisor : DF := fun ds Q => ∃ n, ds = [.int n] ∧ 1 < n ∧ n < 10201 ∧ ∀ r, Least n r → Q (.int r)
theorem D_least_divisor (T : Tx K mg) : Ow.Df P w K mg base CX0 1 "least_divisor" s_least_divisor ["count"] (spP K (f_least_divisor)) := by
  refine df_P T.f_least_divisor sc_least_divisor bd_least_divisor (fun ds Q h => ?_) (fun cdv A outer s H E f hG hR => ?_)
  · obtain ⟨n, rfl, h1, h2, q⟩ := h
    rfl
  · have hu := hR.units
    have hu1 := hu_of hR
    refine ⟨_, (pdss_cons (pds_set (i := 1) sc_least_divisor.nd rfl (Or.inl rfl) pd_int)
      (pdss_cons (pds_while 2 PassesOwn.never (pdt_co oi_le (pd_bo false oi_mul (dv 1) (dv 1)) (dv 0) (nomark _))
      (pdss_cons (pds_if (pdt_co (oi_eq hu) (pd_bo false oi_mod (dv 0) (dv 1)) pd_int (nomark _))
        (pdss_one (pds_ret (dv 1)))
        pdss_nil)
        (pdss_one (pds_set (i := 1) sc_least_divisor.nd rfl (Or.inl rfl) (pd_bo false oi_add (dv 1) pd_int)))))
      (pdss_one (pds_ret (dv 0))))), fun ds Q h => ?_⟩
    obtain ⟨n, rfl, h1, h2, q⟩ := h
    refine ⟨fun m ε M => ∃ d : Int, ε = .lit [some (.d (.int n)), some (.d (.int d))] ∧ m = (n + 1 - d).toNat ∧ 2 ≤ d ∧ d ≤ n ∧ ∀ c : Int, 2 ≤ c → c < d → n % c ≠ 0, ⟨_, 2, rfl, rfl, by omega, by omega, fun c c1 c2 => by omega⟩, ?_⟩
    rintro m ε M ⟨d, rfl, rfl, d1, d2, hd⟩
    refine ⟨.inl ⟨by omega, by omega⟩, dite2 (fun c => ?_) (fun c => ?_)⟩
    · refine ⟨by omega, dite2 (fun z => ?_) (fun z => ?_)⟩
      · exact q d ⟨d1, d2, z, hd⟩
      · have dn : d ≠ n := fun e => by
          subst e
          exact z (Int.emod_self)
        refine ⟨_, by omega, d + 1, rfl, rfl, by omega, by omega, fun x x1 x2 => ?_⟩
        rcases Int.lt_or_le x d with y | y
        · exact hd x x1 y
        · have e : x = d := by omega
          rw [e]
          exact z
    · exact q n (.self h1 d1 hd (by omega))
def f_is_prime_of : DF := fun ds Q => ∃ d, ds = [d] ∧ Q (.bool (primeD d))
theorem D_is_prime_of (T : Tx K mg) : Ow.Df P w K mg base CX0 3 "is_prime_of" s_is_prime_of ["value"] (spP K (f_is_prime_of)) := by
  refine df_P T.f_is_prime_of sc_is_prime_of bd_is_prime_of (fun ds Q h => ?_) (fun cdv A outer s H E f hG hR => ?_)
  · obtain ⟨d, rfl, q⟩ := h
    rfl
  · have hu := hR.units
    have hu1 := hu_of hR
    refine ⟨_, (pdss_one (pds_ret (pd_and (pd_d (D_is_within T) cP_ok hR (by decide) hG pass0 (by rfl) (da_cons (dv 0) (da_cons (pd_gi rfl T.c_LEAST_PRIME) (da_cons (pd_gi rfl T.c_MOST_PRIME) da_nil)))) (pd_one (pd_co (oi_eq hu) (pd_d (D_least_divisor T) cP_ok hR (by decide) hG pass0 (by rfl) (da_cons (dv 0) da_nil)) (dv 0) (nomark _)))))), fun ds Q h => ?_⟩
    obtain ⟨d, rfl, q⟩ := h
    refine ⟨_, _, _, rfl, ?_⟩
    cases d with
    | int i =>
      have e2 : primeD (.int i) = (withinD (.int i) 3 9973 && primeB i) := rfl
      rw [e2] at q
      cases h1 : withinD (.int i) 3 9973 with
      | true =>
        rw [h1] at q
        have h2 : (decide (3 ≤ i) && decide (i ≤ 9973)) = true := h1
        simp only [Bool.and_eq_true, decide_eq_true_eq] at h2
        refine iteT ⟨i, rfl, by omega, by omega, fun r hr => ?_⟩
        rw [← hr.prime (by omega) (by omega)] at q
        exact q
      | false =>
        rw [h1] at q
        exact iteF q
    | _ => exact q
def f_check_prime : DF := fun ds Q => ∃ p, ds = [.int p] ∧ Pr p ∧ Q .none
theorem D_check_prime (T : Tx K mg) : Ow.Df P w K mg base CX0 4 "check_prime" s_check_prime ["value"] (spP K (f_check_prime)) := by
  refine df_P T.f_check_prime sc_check_prime bd_check_prime (fun ds Q h => ?_) (fun cdv A outer s H E f hG hR => ?_)
  · obtain ⟨p, rfl, hp, q⟩ := h
    rfl
  · have hu := hR.units
    have hu1 := hu_of hR
    refine ⟨_, (pdss_one (pds_if (pdt_not (pdt_val (pd_d (D_is_prime_of T) cP_ok hR (by decide) hG pass0 (by rfl) (da_cons (dv 0) da_nil))))
      (pdss_one pds_never)
      pdss_nil)), fun ds Q h => ?_⟩
    obtain ⟨p, rfl, hp, q⟩ := h
    refine ⟨_, rfl, ?_⟩
    have e : primeD (.int p) = true := hp
    rw [e]
    exact iteF q
def f_is_number_of : DF := fun ds Q => ∃ p d, ds = [.int p, d] ∧ Q (.bool (withinD d 0 (p - 1)))
theorem D_is_number_of (T : Tx K mg) : Ow.Df P w K mg base CX0 3 "is_number_of" s_is_number_of ["prime", "value"] (spP K (f_is_number_of)) := by
  refine df_P T.f_is_number_of sc_is_number_of bd_is_number_of (fun ds Q h => ?_) (fun cdv A outer s H E f hG hR => ?_)
  · obtain ⟨p, d, rfl, q⟩ := h
    rfl
  · have hu := hR.units
    have hu1 := hu_of hR
    refine ⟨_, (pdss_one (pds_ret (pd_d (D_is_within T) cP_ok hR (by decide) hG pass0 (by rfl) (da_cons (dv 1) (da_cons pd_int (da_cons (pd_bo false oi_sub (dv 0) pd_int) da_nil)))))), fun ds Q h => ?_⟩
    obtain ⟨p, d, rfl, q⟩ := h
    exact ⟨_, _, _, rfl, q⟩
def f_check_number : DF := fun ds Q => ∃ p a, ds = [.int p, .int a] ∧ Nm p a ∧ Q .none
theorem D_check_number (T : Tx K mg) : Ow.Df P w K mg base CX0 4 "check_number" s_check_number ["prime", "value"] (spP K (f_check_number)) := by
  refine df_P T.f_check_number sc_check_number bd_check_number (fun ds Q h => ?_) (fun cdv A outer s H E f hG hR => ?_)
  · obtain ⟨p, a, rfl, ha, q⟩ := h
    rfl
  · have hu := hR.units
    have hu1 := hu_of hR
    refine ⟨_, (pdss_one (pds_if (pdt_not (pdt_val (pd_d (D_is_number_of T) cP_ok hR (by decide) hG pass0 (by rfl) (da_cons (dv 0) (da_cons (dv 1) da_nil)))))
      (pdss_one pds_never)
      pdss_nil)), fun ds Q h => ?_⟩
    obtain ⟨p, a, rfl, ha, q⟩ := h
    refine ⟨_, _, rfl, ?_⟩
    rw [ha.within]
    exact iteF q
end

end Eqr
set_option maxHeartbeats 1000000
namespace Eqr
open PySem PySem.Spec L2 Ow Dl
/-! ### numbers of a prime -/
section
variable {P : Program} {w : World} {K : PySem.W.Frag} {mg : Str → Option Value} {base : Heap}
theorem div_small {i j : Int} (h : 0 < j) (h2 : j < 1073741824) : CDivP i j := ⟨h, PyProof.noPylong_small (by omega)⟩
theorem mul_l {i j : Int} (h : -18446744073709551616 < i) (h2 : i < 18446744073709551616) : CMul i j := .inl ⟨h, h2⟩
def f_powered : DF := fun ds Q => ∃ p a m, ds = [.int p, .int a, .int m] ∧ 2 ≤ p ∧ p ≤ 10000 ∧ Nm p a ∧ 0 ≤ m ∧ ∀ r, Nm p r → Cg p r (a ^ m.toNat) → Q (.int r)
theorem D_powered (T : Tx K mg) : Ow.Df P w K mg base CX0 1 "powered" s_powered ["prime", "one", "many"] (spP K (f_powered)) := by
  refine df_P T.f_powered sc_powered bd_powered (fun ds Q h => ?_) (fun cdv A outer s H E f hG hR => ?_)
  · obtain ⟨p, a, m, rfl, lo, hi, ha, hm, q⟩ := h
    rfl
  · have hu := hR.units
    have hu1 := hu_of hR
    refine ⟨_, (pdss_cons (pds_par3 (i := 3) (j := 4) (l := 5) rfl sc_powered.nd rfl rfl rfl (by decide) (by decide) (by decide) rfl rfl rfl (da_cons pd_int (da_cons (dv 1) (da_cons (dv 2) da_nil))) (by rfl))
      (pdss_cons (pds_while 7 PassesOwn.never (pdt_co oi_gt (dv 5) pd_int (nomark _))
      (pdss_cons (pds_asg (pd_cb false bi_divmod T.b_divmod (da_cons (dv 5) (da_cons pd_int da_nil))) (pdg_tup (n := 2) rfl (pdgs_cons (pdg_name (i := 5) sc_powered.nd rfl (Or.inl rfl)) (pdgs_cons (pdg_name (i := 6) sc_powered.nd rfl (Or.inl rfl)) pdgs_nil))))
        (pdss_cons (pds_if (pdt_co (oi_eq hu) (dv 6) pd_int (nomark _))
        (pdss_one (pds_set (i := 3) sc_powered.nd rfl (Or.inl rfl) (pd_bo false oi_mod (pd_bo false oi_mul (dv 3) (dv 4)) (dv 0))))
        pdss_nil)
        (pdss_one (pds_set (i := 4) sc_powered.nd rfl (Or.inl rfl) (pd_bo false oi_mod (pd_bo false oi_mul (dv 4) (dv 4)) (dv 0)))))))
      (pdss_one (pds_ret (dv 3))))), fun ds Q h => ?_⟩
    obtain ⟨p, a, m, rfl, lo, hi, ha, hm, q⟩ := h
    refine ⟨fun k ε M => ∃ (f s l : Int) (o : Option DV), ε = .lit [some (.d (.int p)), some (.d (.int a)), some (.d (.int m)), some (.d (.int f)), some (.d (.int s)), some (.d (.int l)), o] ∧ k = l.toNat ∧ Nm p f ∧ Nm p s ∧ 0 ≤ l ∧ Cg p (f * s ^ l.toNat) (a ^ m.toNat),
      ⟨_, 1, a, m, none, rfl, rfl, ⟨by omega, by omega⟩, ha, hm, by rw [Int.one_mul]; exact Cg.refl _ _⟩, ?_⟩
    rintro k ε M ⟨f, s, l, o, rfl, rfl, hf, hs, hl, hc⟩
    have f1 := hf.1
    have f2 := hf.2
    have g1 := hs.1
    have g2 := hs.2
    refine dite2 (fun c => ?_) (fun c => ?_)
    · have l0 : 0 ≤ l / 2 := by omega
      have l1 : (l / 2).toNat = l.toNat / 2 := by omega
      refine ⟨div_small (by omega) (by omega), rfl, dite2 (fun z => ?_) (fun z => ?_)⟩
      · refine ⟨mul_l (by omega) (by omega), by omega, mul_l (by omega) (by omega), by omega, (l / 2).toNat, by omega, _, _, _, _, rfl, rfl, nm_mod (by omega), nm_mod (by omega), l0, ?_⟩
        rw [l1]
        refine Cg.trans ?_ hc
        rw [pow_odd s l.toNat (by omega), ← Int.mul_assoc]
        exact (Cg.rest p (f * s)).mul ((Cg.rest p (s * s)).pow _)
      · refine ⟨mul_l (by omega) (by omega), by omega, (l / 2).toNat, by omega, _, _, _, _, rfl, rfl, hf, nm_mod (by omega), l0, ?_⟩
        rw [l1]
        refine Cg.trans ?_ hc
        rw [pow_even s l.toNat (by omega)]
        exact (Cg.refl p f).mul ((Cg.rest p (s * s)).pow _)
    · refine q f hf ?_
      have e : l.toNat = 0 := by omega
      rw [e, Int.pow_zero, Int.mul_one] at hc
      exact hc
def f_back_of : DF := fun ds Q => ∃ p a, ds = [.int p, .int a] ∧ Pr p ∧ 0 < a ∧ a < p ∧ ∀ r, Nm p r → Cg p (r * a) 1 → Q (.int r)
theorem D_back_of (T : Tx K mg) : Ow.Df P w K mg base CX0 1 "back_of" s_back_of ["prime", "one"] (spP K (f_back_of)) := by
  refine df_P T.f_back_of sc_back_of bd_back_of (fun ds Q h => ?_) (fun cdv A outer s H E f hG hR => ?_)
  · obtain ⟨p, a, rfl, hp, a0, a1, q⟩ := h
    rfl
  · have hu := hR.units
    have hu1 := hu_of hR
    refine ⟨_, (pdss_cons (pds_asg (pd_tup (da_cons (dv 0) (da_cons (dv 1) (da_cons pd_int (da_cons pd_int da_nil))))) (pdg_tup (n := 4) rfl (pdgs_cons (pdg_name (i := 2) sc_back_of.nd rfl (Or.inl rfl)) (pdgs_cons (pdg_name (i := 3) sc_back_of.nd rfl (Or.inl rfl)) (pdgs_cons (pdg_name (i := 4) sc_back_of.nd rfl (Or.inl rfl)) (pdgs_cons (pdg_name (i := 5) sc_back_of.nd rfl (Or.inl rfl)) pdgs_nil))))))
      (pdss_cons (pds_while 7 PassesOwn.never (pdt_co oi_gt (dv 3) pd_int (nomark _))
      (pdss_cons (pds_set (i := 6) sc_back_of.nd rfl (Or.inl rfl) (pd_bo false oi_div (dv 2) (dv 3)))
        (pdss_one (pds_asg (pd_tup (da_cons (dv 3) (da_cons (pd_bo false oi_sub (dv 2) (pd_bo false oi_mul (dv 6) (dv 3))) (da_cons (dv 5) (da_cons (pd_bo false oi_sub (dv 4) (pd_bo false oi_mul (dv 6) (dv 5))) da_nil))))) (pdg_tup (n := 4) rfl (pdgs_cons (pdg_name (i := 2) sc_back_of.nd rfl (Or.inl rfl)) (pdgs_cons (pdg_name (i := 3) sc_back_of.nd rfl (Or.inl rfl)) (pdgs_cons (pdg_name (i := 4) sc_back_of.nd rfl (Or.inl rfl)) (pdgs_cons (pdg_name (i := 5) sc_back_of.nd rfl (Or.inl rfl)) pdgs_nil)))))))))
      (pdss_one (pds_ret (pd_bo false oi_mod (dv 5) (dv 0)))))), fun ds Q h => ?_⟩
    obtain ⟨p, a, rfl, hp, a0, a1, q⟩ := h
    have lo := hp.lo
    have hi := hp.hi
    refine ⟨(by show 4 ≤ sizeLine; decide), rfl, fun k ε M => ∃ (h l u v : Int) (o : Option DV), ε = .lit [some (.d (.int p)), some (.d (.int a)), some (.d (.int h)), some (.d (.int l)), some (.d (.int u)), some (.d (.int v)), o] ∧ k = l.toNat ∧ 0 < l ∧ Turn p a h l u v,
      ⟨_, p, a, 0, 1, none, rfl, rfl, a0, .first hp a0 a1⟩, ?_⟩
    rintro k ε M ⟨h, l, u, v, o, rfl, rfl, hl, tn⟩
    have l1 := tn.h1
    have l2 := tn.h2
    refine dite2 (fun c => ?_) (fun c => ?_)
    · have sh := tn.share hl
      have nx := tn.next hl
      have n1 := nx.h1
      refine ⟨⟨by omega, by omega⟩, mul_l (by omega) (by omega), mul_l (by omega) (by omega), (by show 4 ≤ sizeLine; decide), rfl, ?_⟩
      exact ⟨_, by omega, _, _, _, _, _, rfl, rfl, tn.low c, nx⟩
    · have e : l = 1 := by omega
      subst e
      exact ⟨by omega, q _ (nm_mod (by omega)) tn.late⟩
def f_check_pair : DF := fun ds Q => ∃ p a b, ds = [.int p, .int a, .int b] ∧ Pr p ∧ Nm p a ∧ Nm p b ∧ Q .none
theorem D_is_prime (T : Tx K mg) : Ow.Df P w K mg base CX0 4 "is_prime" s_is_prime ["value"] (spP K (f_is_prime_of)) := by
  refine df_P T.f_is_prime sc_is_prime bd_is_prime (fun ds Q h => ?_) (fun cdv A outer s H E f hG hR => ?_)
  · obtain ⟨d, rfl, q⟩ := h
    rfl
  · have hu := hR.units
    have hu1 := hu_of hR
    refine ⟨_, (pdss_one (pds_ret (pd_d (D_is_prime_of T) cP_ok hR (by decide) hG pass0 (by rfl) (da_cons (dv 0) da_nil)))), fun ds Q h => ?_⟩
    obtain ⟨d, rfl, q⟩ := h
    exact ⟨_, rfl, q⟩
def f_rest : DF := fun ds Q => ∃ p n, ds = [.int p, .int n] ∧ Pr p ∧ Q (.int (n % p))
def f_two (f : Int → Int → Int → Int) : DF := fun ds Q => ∃ p a b, ds = [.int p, .int a, .int b] ∧ Pr p ∧ Nm p a ∧ Nm p b ∧ Q (.int (f p a b))
def f_over : DF := fun ds Q => ∃ p a b, ds = [.int p, .int a, .int b] ∧ Pr p ∧ Nm p a ∧ Nm p b ∧ 0 < b ∧ ∀ r, Nm p r → Cg p (r * b) 1 → Q (.int (a * r % p))
def f_power : DF := fun ds Q => ∃ p a m, ds = [.int p, .int a, .int m] ∧ Pr p ∧ Nm p a ∧ -1000000 ≤ m ∧ m ≤ 1000000 ∧ (m < 0 → 0 < a) ∧ ∀ r, PowIs p a m r → Q (.int r)
theorem D_power (T : Tx K mg) : Ow.Df P w K mg base CX0 5 "power" s_power ["prime", "one", "many"] (spP K (f_power)) := by
  refine df_P T.f_power sc_power bd_power (fun ds Q h => ?_) (fun cdv A outer s H E f hG hR => ?_)
  · obtain ⟨p, a, m, rfl, hp, ha, m0, m1, hm, q⟩ := h
    rfl
  · have hu := hR.units
    have hu1 := hu_of hR
    refine ⟨_, (pdss_cons (pds_expr (pd_d (D_check_prime T) cP_ok hR (by decide) hG pass0 (by rfl) (da_cons (dv 0) da_nil)))
      (pdss_cons (pds_expr (pd_d (D_check_number T) cP_ok hR (by decide) hG pass0 (by rfl) (da_cons (dv 0) (da_cons (dv 1) da_nil))))
      (pdss_cons (pds_if (pdt_not (pdt_val (pd_d (D_is_within T) cP_ok hR (by decide) hG pass0 (by rfl) (da_cons (dv 2) (da_cons (pd_bo false oi_sub pd_int (pd_gi rfl T.c_MOST_EXPONENT)) (da_cons (pd_gi rfl T.c_MOST_EXPONENT) da_nil))))))
      (pdss_one pds_never)
      pdss_nil)
      (pdss_cons (pds_if (pdt_co oi_ge (dv 2) pd_int (nomark _))
      (pdss_one (pds_ret (pd_d (D_powered T) cP_ok hR (by decide) hG pass0 (by rfl) (da_cons (dv 0) (da_cons (dv 1) (da_cons (dv 2) da_nil))))))
      pdss_nil)
      (pdss_cons (pds_if (pdt_co (oi_eq hu) (dv 1) pd_int (nomark _))
      (pdss_one pds_never)
      pdss_nil)
      (pdss_one (pds_ret (pd_d (D_back_of T) cP_ok hR (by decide) hG pass0 (by rfl) (da_cons (dv 0) (da_cons (pd_d (D_powered T) cP_ok hR (by decide) hG pass0 (by rfl) (da_cons (dv 0) (da_cons (dv 1) (da_cons (pd_bo false oi_sub pd_int (dv 2)) da_nil)))) da_nil)))))))))), fun ds Q h => ?_⟩
    obtain ⟨p, a, m, rfl, hp, ha, m0, m1, hm, q⟩ := h
    have lo := hp.lo
    have hi := hp.hi
    have e : withinD (.int m) (0 - 1000000) 1000000 = true := by
      show (decide (0 - 1000000 ≤ m) && decide (m ≤ 1000000)) = true
      rw [decide_eq_true (by omega), decide_eq_true (by omega)]
      rfl
    refine ⟨_, rfl, hp, _, _, rfl, ha, _, _, _, rfl, ?_⟩
    rw [e]
    refine iteF (dite2 (fun c => ?_) (fun c => ?_))
    · exact ⟨_, _, _, rfl, by omega, by omega, ha, c, fun r hr cr => q r ⟨hr, fun _ => cr, fun z => by omega⟩⟩
    · have a0 := hm (by omega)
      refine dite2 (fun z => by omega) fun z => ⟨_, _, _, rfl, by omega, by omega, ha, by omega, fun r hr cr => ?_⟩
      have en : (0 - m).toNat = (-m).toNat := by omega
      rw [en] at cr
      have r0 : r ≠ 0 := fun z => by
        subst z
        have := pow_ne hp a0 ha.2 (-m).toNat
        rw [← cr.emod, Int.zero_emod] at this
        exact this rfl
      have := hr.1
      exact ⟨_, _, rfl, hp, by omega, hr.2, fun s hs cs => q s ⟨hs, fun z => by omega, fun _ => ((Cg.refl p s).mul cr).symm.trans cs⟩⟩
end

end Eqr
set_option maxHeartbeats 1000000
namespace Eqr
open PySem PySem.Spec L2 Ow Dl
/-! ### counts: the program's parts, papers, squares -/
theorem part_prime {r d c : Int} (hr : ∀ x : Int, 2 ≤ x → x < r → r % x ≠ 0) (r2 : 2 ≤ r) (dn : d < 10000) (d2 : 2 ≤ d) (hd : primeB d = true) (c0 : 0 < c) (h : r * c % d = 0) : d = r ∨ c % d = 0 := by
  by_cases e : d = r
  · exact .inl e
  · refine .inr (part_step hr r2 (by omega) c0 (fun z => ?_) h)
    rcases Int.lt_or_le r d with y | y
    · exact primeB_all dn hd r r2 y z
    · rw [Int.emod_eq_of_lt (by omega) (by omega)] at z
      omega
/-- the least full number -/
def FullOne (c g : Int) : Prop := 0 < g ∧ g < c ∧ g < 32 ∧ fullB c g (partsL (c - 1)) = true ∧ ∀ x, 0 < x → x < g → fullB c x (partsL (c - 1)) = false
theorem fullOne_ex {c : Int} (c2 : 2 ≤ c) (hc : c ≤ 9973) (h : primeB c = true) : ∃ g, FullOne c g := by
  obtain ⟨g, g0, g1, g2, hg⟩ := full_ex c2 hc h
  obtain ⟨x, x0, x1, x2, x3⟩ := first_of (f := fun x => fullB c x (partsL (c - 1))) g0 hg
  exact ⟨x, x0, by omega, by omega, x2, x3⟩
theorem FullOne.uniq {c g h : Int} (a : FullOne c g) (b : FullOne c h) : g = h := by
  obtain ⟨a0, a1, a2, a3, a4⟩ := a
  obtain ⟨b0, b1, b2, b3, b4⟩ := b
  rcases Int.lt_trichotomy g h with z | z | z
  · rw [b4 g a0 z] at a3
    cases a3
  · exact z
  · rw [a4 h b0 z] at b3
    cases b3
/-- the told paper -/
def PaperIs (c : Int) (D : PyData) : Prop := (primeB c = true ∧ ∃ g, FullOne c g ∧ D = .tuple [.str "prime", .int g, .tuple (il (partsL (c - 1)))]) ∨ (primeB c = false ∧ ∃ r, Least c r ∧ r < c ∧ D = .tuple [.str "parts", .int r, .int (c / r)])
theorem Least.uniq {c r s : Int} (a : Least c r) (b : Least c s) : r = s := by
  rcases Int.lt_trichotomy r s with z | z | z
  · exact absurd a.dv (b.no r a.lo z)
  · exact z
  · exact absurd b.dv (a.no s b.lo z)
theorem PaperIs.uniq {c : Int} {D E : PyData} (a : PaperIs c D) (b : PaperIs c E) : D = E := by
  rcases a with ⟨h, g, hg, rfl⟩ | ⟨h, r, hr, _, rfl⟩ <;> rcases b with ⟨h', g', hg', rfl⟩ | ⟨h', r', hr', _, rfl⟩
  · rw [hg.uniq hg']
  · rw [h] at h'
    cases h'
  · rw [h] at h'
    cases h'
  · rw [hr.uniq hr']
theorem paper_ex {c : Int} (c2 : 2 ≤ c) (hc : c ≤ 9973) : ∃ D, PaperIs c D := by
  cases h : primeB c with
  | true =>
    obtain ⟨g, hg⟩ := fullOne_ex c2 hc h
    exact ⟨_, .inl ⟨h, g, hg, rfl⟩⟩
  | false =>
    obtain ⟨r, hr⟩ := least_ex c2
    have := hr.prime (by omega) (by omega)
    rw [h] at this
    have := of_decide_eq_false this
    have := hr.hi
    exact ⟨_, .inr ⟨h, r, hr, by omega, rfl⟩⟩
theorem all_map {xs : List PyData} {c : PyData → Bool} : asBools (xs.map fun x => .bool (c x)) = some (xs.map c) := by
  have : (xs.map fun x => PyData.bool (c x)) = (xs.map c).map PyData.bool := by
    rw [List.map_map]
    rfl
  rw [this, asBools_map]
theorem all_id {xs : List PyData} {c : PyData → Bool} : (xs.map c).all id = xs.all c := by
  rw [List.all_map]
  rfl
theorem any_id {xs : List PyData} {c : PyData → Bool} : (xs.map c).any id = xs.any c := by
  rw [List.any_map]
  rfl
/-- a value that is looked at as a paper -/
def threeD : PyData → Bool
  | .tuple [.str _, _, _] => true
  | _ => false
theorem three_get : ∀ {d : PyData}, threeD d = true → ∃ w a b, d = .tuple [.str w, a, b]
  | .tuple [.str w, a, b], _ => ⟨w, a, b, rfl⟩
def partsB (c : Int) (a b : PyData) : Bool := match a, b with
  | .int x, .int y => decide (1 < x) && (decide (1 < y) && decide (x * y = c))
  | _, _ => false
def tupB (ps : List Int) (b : PyData) : Bool := match b with
  | .tuple xs => xs.all isInt && PyData.eqv (.list xs) (.list (il ps))
  | _ => false
def fullD (c : Int) : PyData → Bool
  | .int x => fullB c x (partsL (c - 1))
  | _ => false
def paperB (c : Int) (d : PyData) : Bool := match d with
  | .tuple [.str w, a, b] => if w = "parts" then partsB c a b else decide (w = "prime") && (withinD a 1 (c - 1) && (tupB (partsL (c - 1)) b && fullD c a))
  | _ => false
theorem paperB_not {c : Int} : ∀ {d : PyData}, threeD d = false → paperB c d = false := by
  intro d h
  unfold paperB
  split
  · cases h
  · rfl
section
variable {P : Program} {w : World} {K : PySem.W.Frag} {mg : Str → Option Value} {base : Heap}
def f_primes_of : DF := fun ds Q => ∃ n, ds = [.int n] ∧ 0 < n ∧ n < 10000 ∧ Q (.list (il (partsL n)))
theorem D_primes_of (T : Tx K mg) : Ow.Df P w K mg base CX0 2 "primes_of" s_primes_of ["count"] (spP K (f_primes_of)) := by
  refine df_P T.f_primes_of sc_primes_of bd_primes_of (fun ds Q h => ?_) (fun cdv A outer s H E f hG hR => ?_)
  · obtain ⟨n, rfl, n0, n1, q⟩ := h
    rfl
  · have hu := hR.units
    have hu1 := hu_of hR
    refine ⟨_, (pdss_cons (pds_par (i := 1) (j := 2) rfl sc_primes_of.nd rfl rfl (by decide) rfl rfl (da_cons (pd_lst true da_nil) (da_cons (dv 0) da_nil)) (by rfl))
      (pdss_cons (pds_while 4 PassesOwn.never (pdt_co oi_gt (dv 2) pd_int (nomark _))
      (pdss_cons (pds_set (i := 3) sc_primes_of.nd rfl (Or.inl rfl) (pd_d (D_least_divisor T) cP_ok hR (by decide) hG pass0 (by rfl) (da_cons (dv 2) da_nil)))
        (pdss_cons (pds_expr (pd_append (dv 1) (dv 3)))
        (pdss_one (pds_while 4 PassesOwn.never (pdt_co (oi_eq hu) (pd_bo false oi_mod (dv 2) (dv 3)) pd_int (nomark _))
        (pdss_one (pds_set (i := 2) sc_primes_of.nd rfl (Or.inl rfl) (pd_bo false oi_div (dv 2) (dv 3)))))))))
      (pdss_one (pds_ret (dv 1))))), fun ds Q h => ?_⟩
    obtain ⟨n, rfl, n0, n1, q⟩ := h
    refine ⟨Nat.zero_le _, ?_⟩
    refine ⟨fun m ε M => ∃ (qs : List Int) (left : Int) (o : Option DV), ε = .lit [some (.d (.int n)), some (.o 0), some (.d (.int left)), o] ∧ M = [.lst (il qs)] ∧ m = left.toNat ∧ 0 < left ∧ n % left = 0 ∧ left * 2 ^ qs.length ≤ n ∧ qs.Pairwise (· < ·) ∧
      (∀ q ∈ qs, 2 ≤ q ∧ q ≤ n ∧ n % q = 0 ∧ primeB q = true) ∧ (∀ q ∈ qs, ∀ d, 2 ≤ d → d ≤ q → left % d ≠ 0) ∧ ∀ d : Int, 2 ≤ d → primeB d = true → n % d = 0 → d ∈ qs ∨ left % d = 0,
      ⟨_, [], n, none, rfl, rfl, rfl, n0, Int.emod_self, by simp, List.Pairwise.nil, fun q hq => (nomatch hq), fun q hq => (nomatch hq), fun d d2 _ e => .inr e⟩, ?_⟩
    rintro m ε M ⟨qs, left, o, rfl, rfl, rfl, l0, l1, l2, ha, hq, hl, hd⟩
    have ln : left ≤ n := Int.le_of_dvd n0 (Int.dvd_of_emod_eq_zero l1)
    have k14 := pow_le_one l2 l0 (by omega)
    refine dite2 (fun c => ?_) (fun c => ?_)
    · refine ⟨left, rfl, c, by omega, fun r hr => ?_⟩
      have r2 := hr.lo
      have r3 := hr.hi
      have rp := least_prime hr (by omega)
      refine ⟨sz _ (by rw [il_len]; omega), ?_⟩
      refine ⟨fun m ε M => ∃ cur : Int, ε = .lit [some (.d (.int n)), some (.o 0), some (.d (.int cur)), some (.d (.int r))] ∧ M = [.lst (il (qs ++ [r]))] ∧ m = cur.toNat ∧ 0 < cur ∧ left % cur = 0 ∧ (cur = left ∨ cur * 2 ≤ left) ∧ ∀ d : Int, 2 ≤ d → primeB d = true → left % d = 0 → d = r ∨ cur % d = 0,
        ⟨_, left, rfl, by rw [← il_app]; rfl, rfl, l0, Int.emod_self, .inl rfl, fun d d2 _ e => .inr e⟩, ?_⟩
      rintro m ε M ⟨cur, rfl, rfl, rfl, c0, c1, c2, c3⟩
      have cl : cur ≤ left := Int.le_of_dvd l0 (Int.dvd_of_emod_eq_zero c1)
      refine ⟨by omega, dite2 (fun z => ?_) (fun z => ?_)⟩
      · have e := div_of z
        have q0 := div_pos' z c0 (by omega)
        have q1 : 2 * (cur / r) ≤ r * (cur / r) := Int.mul_le_mul_of_nonneg_right r2 (by omega)
        refine ⟨⟨by omega, by omega⟩, (cur / r).toNat, by omega, cur / r, rfl, rfl, rfl, q0, emod_trans c1 (emod_quot z), .inr (by omega), fun d d2 dp ed => ?_⟩
        rcases c3 d d2 dp ed with y | y
        · exact .inl y
        · have dl : d ≤ left := Int.le_of_dvd l0 (Int.dvd_of_emod_eq_zero ed)
          exact part_prime hr.own r2 (by omega) d2 dp q0 (by rw [← e]; exact y)
      · have c4 : cur * 2 ≤ left := by
          rcases c2 with y | y
          · subst y
            exact absurd hr.dv z
          · exact y
        refine ⟨cur.toNat, by omega, qs ++ [r], cur, _, rfl, rfl, rfl, c0, emod_trans l1 c1, ?_, ?_, ?_, ?_, ?_⟩
        · rw [List.length_append, List.length_cons, List.length_nil]
          have e : (2 : Int) ^ (qs.length + 1) = 2 ^ qs.length * 2 := Int.pow_succ 2 _
          have p2 : (0 : Int) < 2 ^ qs.length := Int.pow_pos (by omega)
          have := Int.mul_le_mul_of_nonneg_right c4 (Int.le_of_lt p2)
          have e5 : cur * (2 ^ qs.length * 2) = cur * 2 * 2 ^ qs.length := by grind
          show cur * 2 ^ (qs.length + 1) ≤ n
          rw [e, e5]
          omega
        · rw [List.pairwise_append]
          refine ⟨ha, List.pairwise_singleton _ _, fun x hx y hy => ?_⟩
          rw [List.mem_singleton.mp hy]
          rcases Int.lt_or_le x r with v | v
          · exact v
          · exact absurd hr.dv (hl x hx r r2 v)
        · intro x hx
          rcases List.mem_append.mp hx with hx | hx
          · exact hq x hx
          · rw [List.mem_singleton.mp hx]
            exact ⟨r2, by omega, emod_trans l1 hr.dv, rp⟩
        · intro x hx d d2 dx ed
          have ed' := emod_trans c1 ed
          rcases List.mem_append.mp hx with hx | hx
          · exact hl x hx d d2 dx ed'
          · rw [List.mem_singleton.mp hx] at dx
            rcases Int.lt_or_le d r with v | v
            · exact hr.no d d2 v ed'
            · have : d = r := by omega
              subst this
              exact z ed
        · intro d d2 dp ed
          rcases hd d d2 dp ed with y | y
          · exact .inl (List.mem_append_left _ y)
          · rcases c3 d d2 dp y with y | y
            · exact .inl (List.mem_append_right _ (List.mem_singleton.mpr y))
            · exact .inr y
    · have e : left = 1 := by omega
      subst e
      have := parts_eq ha hq fun d d2 dp ed => by
        rcases hd d d2 dp ed with y | y
        · exact y
        · rw [Int.emod_eq_of_lt (by omega) (by omega)] at y
          omega
      rw [← this] at q
      exact q
def f_is_full : DF := fun ds Q => ∃ p a qs, ds = [.int p, .int a, .list (il qs)] ∧ 2 ≤ p ∧ p ≤ 9973 ∧ 0 < a ∧ a < p ∧ (∀ q ∈ qs, 2 ≤ q ∧ q < 100000) ∧ qs.length < 1000 ∧ Q (.bool (fullB p a qs))
theorem D_is_full (T : Tx K mg) : Ow.Df P w K mg base CX0 2 "is_full" s_is_full ["count", "one", "parts"] (spP K (f_is_full)) := by
  refine df_P T.f_is_full sc_is_full bd_is_full (fun ds Q h => ?_) (fun cdv A outer s H E f hG hR => ?_)
  · obtain ⟨p, a, qs, rfl, p2, p3, a0, a1, hq, hn, q⟩ := h
    rfl
  · have hu := hR.units
    have hu1 := hu_of hR
    refine ⟨_, (pdss_cons (pds_if (pdt_co (oi_ne hu) (pd_d (D_powered T) cP_ok hR (by decide) hG pass0 (by rfl) (da_cons (dv 0) (da_cons (dv 1) (da_cons (pd_bo false oi_sub (dv 0) pd_int) da_nil)))) (pd_bo false oi_mod pd_int (dv 0)) (nomark _))
      (pdss_one (pds_ret pd_bl))
      pdss_nil)
      (pdss_one (pds_ret (pd_cb false (bi_all rfl) T.b_all (da_cons (pd_lc (own := [("part", 3)]) 4 false rfl sc_is_full.nd (pdi_seq (dv 2)) (blkOk_by (N := ["count", "one", "parts", "part"]) (sc := defScope s_is_full) (by decide +kernel)) (fun _ _ _ _ _ => (pdg_name (i := 3) sc_is_full.nd rfl (Or.inl rfl))) (fun _ _ _ _ _ => pdts_nil) (fun _ _ _ _ _ => (pd_co (oi_ne hu) (pd_d (D_powered T) cP_ok hR (by decide) hG pass0 (by rfl) (da_cons (dv 0) (da_cons (dv 1) (da_cons (pd_bo false oi_div (pd_bo false oi_sub (dv 0) pd_int) (dv 3)) da_nil)))) pd_int (nomark _))) (by decide)) da_nil))))), fun ds Q h => ?_⟩
    obtain ⟨p, a, qs, rfl, p2, p3, a0, a1, hq, hn, q⟩ := h
    refine ⟨p, a, p - 1, rfl, by omega, by omega, ⟨by omega, a1⟩, by omega, fun r hr hc => ⟨by omega, ?_⟩⟩
    have er := nm_eq hr hc (by omega)
    have ef : fullB p a qs = (decide (a ^ (p - 1).toNat % p = 1 % p) && qs.all fun q => !decide (a ^ ((p - 1) / q).toNat % p = 1)) := rfl
    rw [← er] at ef
    refine diteN (fun z => ?_) (fun z => ?_)
    · rw [decide_eq_false z] at ef
      rw [ef] at q
      exact q
    · rw [decide_eq_true z, Bool.true_and] at ef
      refine lc_map (fun x => .bool (match x with | .int y => !decide (a ^ ((p - 1) / y).toNat % p = 1) | _ => true)) (sz _ (by rw [il_len]; omega)) (fun i x hx R r => ?_) (lk1_mk all_map ?_)
      · obtain ⟨y, hy, rfl⟩ := il_at hx
        obtain ⟨y2, y3⟩ := hq y (List.mem_of_getElem? hy)
        refine ⟨⟨by omega, by omega⟩, p, a, _, rfl, by omega, by omega, ⟨by omega, a1⟩, Int.ediv_nonneg (by omega) (by omega), fun r2 hr2 hc2 => ⟨rfl, ?_⟩⟩
        rw [nm_eq hr2 hc2 (by omega)]
        exact r
      · have q2 : Q (.bool (((il qs).map fun x => match x with | .int y => !decide (a ^ ((p - 1) / y).toNat % p = 1) | _ => true).all id)) := by
          rw [all_id, il, List.all_map]
          rw [ef] at q
          exact q
        exact q2
theorem parts_ok {c : Int} (c2 : 2 ≤ c) (hc : c ≤ 9973) : (∀ q ∈ partsL (c - 1), 2 ≤ q ∧ q < 100000) ∧ (partsL (c - 1)).length < 1000 := by
  refine ⟨fun q hq => ?_, ?_⟩
  · obtain ⟨a, b, _, _⟩ := partsL_mem.mp hq
    omega
  · have := partsL_few (n := c - 1) (by omega) (by omega)
    omega
def f_least_full : DF := fun ds Q => ∃ c g, ds = [.int c, .list (il (partsL (c - 1)))] ∧ 2 ≤ c ∧ c ≤ 9973 ∧ FullOne c g ∧ Q (.int g)
theorem D_least_full (T : Tx K mg) : Ow.Df P w K mg base CX0 3 "least_full" s_least_full ["count", "parts"] (spP K (f_least_full)) := by
  refine df_P T.f_least_full sc_least_full bd_least_full (fun ds Q h => ?_) (fun cdv A outer s H E f hG hR => ?_)
  · obtain ⟨c, g, rfl, c2, c3, ⟨g0, g1, g2, g3, g4⟩, q⟩ := h
    rfl
  · have hu := hR.units
    have hu1 := hu_of hR
    refine ⟨_, (pdss_cons (pds_for 3 PassesOwn.never rfl (pdi_range2 T.b_range (da_cons pd_int (da_cons (dv 0) da_nil))) (pdg_name (i := 2) sc_least_full.nd rfl (Or.inl rfl))
      (pdss_one (pds_if (pdt_val (pd_d (D_is_full T) cP_ok hR (by decide) hG pass0 (by rfl) (da_cons (dv 0) (da_cons (dv 2) (da_cons (dv 1) da_nil)))))
        (pdss_one (pds_ret (dv 2)))
        pdss_nil)))
      (pdss_one (pds_ret pd_non))), fun ds Q h => ?_⟩
    obtain ⟨c, g, rfl, c2, c3, ⟨g0, g1, g2, g3, g4⟩, q⟩ := h
    obtain ⟨hq, hn⟩ := parts_ok c2 c3
    refine ⟨⟨by omega, by omega⟩, fun i ε M => ∃ o : Option DV, ε = .lit [some (.d (.int c)), some (.d (.list (il (partsL (c - 1))))), o] ∧ M = [] ∧ (i : Int) < g, ⟨none, rfl, rfl, g0⟩, ?_, ?_⟩
    · rintro i y ε M hy ⟨o, rfl, rfl, hno⟩
      obtain ⟨hi1, rfl⟩ := rangeD_get hy
      refine ⟨c, 1 + (i : Int), _, rfl, by omega, by omega, by omega, by omega, hq, hn, ?_⟩
      by_cases e : 1 + (i : Int) = g
      · rw [e, g3]
        exact iteT q
      · rw [g4 _ (by omega) (by omega)]
        exact iteF ⟨_, rfl, rfl, by omega⟩
    · rintro ε M ⟨o, rfl, rfl, hno⟩
      rw [rangeD_len] at hno
      omega
def f_paper_of : DF := fun ds Q => ∃ c, ds = [.int c] ∧ 2 ≤ c ∧ c ≤ 9973 ∧ ∀ D, PaperIs c D → Q D
theorem D_paper_of (T : Tx K mg) : Ow.Df P w K mg base CX0 4 "paper_of" s_paper_of ["count"] (spP K (f_paper_of)) := by
  refine df_P T.f_paper_of sc_paper_of bd_paper_of (fun ds Q h => ?_) (fun cdv A outer s H E f hG hR => ?_)
  · obtain ⟨c, rfl, c2, c3, q⟩ := h
    rfl
  · have hu := hR.units
    have hu1 := hu_of hR
    refine ⟨_, (pdss_cons (pds_set (i := 1) sc_paper_of.nd rfl (Or.inl rfl) (pd_d (D_least_divisor T) cP_ok hR (by decide) hG pass0 (by rfl) (da_cons (dv 0) da_nil)))
      (pdss_cons (pds_if (pdt_co oi_lt (dv 1) (dv 0) (nomark _))
      (pdss_one (pds_ret (pd_tup (da_cons pd_str (da_cons (dv 1) (da_cons (pd_bo false oi_div (dv 0) (dv 1)) da_nil))))))
      pdss_nil)
      (pdss_cons (pds_set (i := 2) sc_paper_of.nd rfl (Or.inl rfl) (pd_d (D_primes_of T) cP_ok hR (by decide) hG pass0 (by rfl) (da_cons (pd_bo false oi_sub (dv 0) pd_int) da_nil)))
      (pdss_one (pds_ret (pd_tup (da_cons pd_str (da_cons (pd_d (D_least_full T) cP_ok hR (by decide) hG pass0 (by rfl) (da_cons (dv 0) (da_cons (dv 2) da_nil))) (da_cons (pd_ct false bi_tuple T.b_tuple (da_cons (dv 2) da_nil)) da_nil))))))))), fun ds Q h => ?_⟩
    obtain ⟨c, rfl, c2, c3, q⟩ := h
    refine ⟨c, rfl, by omega, by omega, fun r hr => ?_⟩
    have r2 := hr.lo
    have r3 := hr.hi
    have hpr := hr.prime (by omega) (by omega)
    refine dite2 (fun z => ?_) (fun z => ?_)
    · have hp : primeB c = false := by rw [← hpr]; exact decide_eq_false (by omega)
      exact ⟨⟨by omega, by omega⟩, sz 3 (by omega), q _ (.inr ⟨hp, r, hr, z, rfl⟩)⟩
    · have hp : primeB c = true := by rw [← hpr]; exact decide_eq_true (by omega)
      obtain ⟨g, hg⟩ := fullOne_ex c2 c3 hp
      exact ⟨c - 1, rfl, by omega, by omega, c, g, rfl, c2, c3, hg, sz 3 (by omega), q _ (.inl ⟨hp, g, hg, rfl⟩)⟩
def f_check_count : DF := fun ds Q => ∃ c l m, ds = [.int c, .int l, .int m] ∧ l ≤ c ∧ c ≤ m ∧ Q .none
theorem D_check_count (T : Tx K mg) : Ow.Df P w K mg base CX0 3 "check_count" s_check_count ["value", "least", "most"] (spP K (f_check_count)) := by
  refine df_P T.f_check_count sc_check_count bd_check_count (fun ds Q h => ?_) (fun cdv A outer s H E f hG hR => ?_)
  · obtain ⟨c, l, m, rfl, h1, h2, q⟩ := h
    rfl
  · have hu := hR.units
    have hu1 := hu_of hR
    refine ⟨_, (pdss_one (pds_if (pdt_not (pdt_val (pd_d (D_is_within T) cP_ok hR (by decide) hG pass0 (by rfl) (da_cons (dv 0) (da_cons (dv 1) (da_cons (dv 2) da_nil))))))
      (pdss_one pds_never)
      pdss_nil)), fun ds Q h => ?_⟩
    obtain ⟨c, l, m, rfl, h1, h2, q⟩ := h
    refine ⟨_, _, _, rfl, ?_⟩
    have e : withinD (.int c) l m = true := by
      show (decide (l ≤ c) && decide (c ≤ m)) = true
      rw [decide_eq_true h1, decide_eq_true h2]
      rfl
    rw [e]
    exact iteF q
theorem D_prime_paper (T : Tx K mg) : Ow.Df P w K mg base CX0 5 "prime_paper" s_prime_paper ["count"] (spP K (f_paper_of)) := by
  refine df_P T.f_prime_paper sc_prime_paper bd_prime_paper (fun ds Q h => ?_) (fun cdv A outer s H E f hG hR => ?_)
  · obtain ⟨c, rfl, c2, c3, q⟩ := h
    rfl
  · have hu := hR.units
    have hu1 := hu_of hR
    refine ⟨_, (pdss_cons (pds_expr (pd_d (D_check_count T) cP_ok hR (by decide) hG pass0 (by rfl) (da_cons (dv 0) (da_cons (pd_gi rfl T.c_LEAST_COUNT) (da_cons (pd_gi rfl T.c_MOST_COUNT) da_nil)))))
      (pdss_one (pds_ret (pd_d (D_paper_of T) cP_ok hR (by decide) hG pass0 (by rfl) (da_cons (dv 0) da_nil))))), fun ds Q h => ?_⟩
    obtain ⟨c, rfl, c2, c3, q⟩ := h
    exact ⟨_, _, _, rfl, c2, c3, _, rfl, c2, c3, q⟩
def f_check_one : DF := fun ds Q => ∃ p a, ds = [.int p, .int a] ∧ Pr p ∧ Nm p a ∧ Q .none
theorem D_check_one (T : Tx K mg) : Ow.Df P w K mg base CX0 5 "check_one" s_check_one ["prime", "one"] (spP K (f_check_one)) := by
  refine df_P T.f_check_one sc_check_one bd_check_one (fun ds Q h => ?_) (fun cdv A outer s H E f hG hR => ?_)
  · obtain ⟨p, a, rfl, hp, ha, q⟩ := h
    rfl
  · have hu := hR.units
    have hu1 := hu_of hR
    refine ⟨_, (pdss_cons (pds_expr (pd_d (D_check_prime T) cP_ok hR (by decide) hG pass0 (by rfl) (da_cons (dv 0) da_nil)))
      (pdss_one (pds_expr (pd_d (D_check_number T) cP_ok hR (by decide) hG pass0 (by rfl) (da_cons (dv 0) (da_cons (dv 1) da_nil)))))), fun ds Q h => ?_⟩
    obtain ⟨p, a, rfl, hp, ha, q⟩ := h
    exact ⟨_, rfl, hp, _, _, rfl, ha, q⟩
end

end Eqr
set_option maxHeartbeats 1000000
namespace Eqr
open PySem PySem.Spec L2 Ow Dl
theorem within_get {d : PyData} {a b : Int} (h : withinD d a b = true) : ∃ n, d = .int n ∧ a ≤ n ∧ n ≤ b := by
  cases d with
  | int i =>
    have h : (decide (a ≤ i) && decide (i ≤ b)) = true := h
    simp only [Bool.and_eq_true, decide_eq_true_eq] at h
    exact ⟨i, rfl, h.1, h.2⟩
  | _ => cases h
section
variable {P : Program} {w : World} {K : PySem.W.Frag} {mg : Str → Option Value} {base : Heap}
theorem eqv_tl (a b : List PyData) : PyData.eqv (.tuple a) (.tuple b) = PyData.eqv (.list a) (.list b) := by simp only [PyData.eqv]
theorem ints_of : ∀ {xs : List PyData}, xs.all isInt = true → ∃ ns, xs = il ns
  | [], _ => ⟨[], rfl⟩
  | x :: xs, h => by
    rw [List.all_cons, Bool.and_eq_true] at h
    obtain ⟨ns, e⟩ := ints_of h.2
    cases x with
    | int i => exact ⟨i :: ns, by rw [e]; rfl⟩
    | _ => exact Bool.noConfusion (show false = true from h.1)
/-- numbers that may be multiplied -/
def MulOk (a b : PyData) : Prop := ∀ x y : Int, a = .int x → b = .int y → (-18446744073709551616 < x ∧ x < 18446744073709551616) ∨ (-18446744073709551616 < y ∧ y < 18446744073709551616)
def f_isparts : DF := fun ds Q => ∃ c a b, ds = [.int c, a, b] ∧ MulOk a b ∧ Q (.bool (partsB c a b))
theorem D_is_parts_paper (T : Tx K mg) : Ow.Df P w K mg base CX0 2 "is_parts_paper" s_is_parts_paper ["count", "one", "other"] (spP K (f_isparts)) := by
  refine df_P T.f_is_parts_paper sc_is_parts_paper bd_is_parts_paper (fun ds Q h => ?_) (fun cdv A outer s H E f hG hR => ?_)
  · obtain ⟨c, a, b, rfl, hm, q⟩ := h
    rfl
  · have hu := hR.units
    have hu1 := hu_of hR
    refine ⟨_, (pdss_one (pds_ret (pd_and (pd_d (D_is_integer T) cP_ok hR (by decide) hG pass0 (by rfl) (da_cons (dv 1) da_nil)) (pd_and (pd_d (D_is_integer T) cP_ok hR (by decide) hG pass0 (by rfl) (da_cons (dv 2) da_nil)) (pd_and (pd_co oi_gt (dv 1) pd_int (nomark _)) (pd_and (pd_co oi_gt (dv 2) pd_int (nomark _)) (pd_one (pd_co (oi_eq hu) (pd_bo false oi_mul (dv 1) (dv 2)) (dv 0) (nomark _))))))))), fun ds Q h => ?_⟩
    obtain ⟨c, a, b, rfl, hm, q⟩ := h
    refine ⟨_, rfl, ?_⟩
    cases a with
    | int x =>
      refine iteT ⟨_, rfl, ?_⟩
      cases b with
      | int y =>
        refine iteT ?_
        have q : Q (.bool (decide (1 < x) && (decide (1 < y) && decide (x * y = c)))) := q
        refine dite2 (fun z => ?_) (fun z => ?_)
        · rw [decide_eq_true z, Bool.true_and] at q
          refine dite2 (fun z => ?_) (fun z => ?_)
          · rw [decide_eq_true z, Bool.true_and] at q
            exact ⟨(hm x y rfl rfl).elim .inl .inr, q⟩
          · rw [decide_eq_false z] at q
            exact q
        · rw [decide_eq_false z] at q
          exact q
      | _ => exact q
    | _ => exact q
def f_are_parts : DF := fun ds Q => ∃ v ps, ds = [v, .list (il ps)] ∧ (seqD v).length ≤ 1000 ∧ Q (.bool (tupB ps v))
theorem D_are_parts (T : Tx K mg) : Ow.Df P w K mg base CX0 2 "are_parts" s_are_parts ["value", "parts"] (spP K (f_are_parts)) := by
  refine df_P T.f_are_parts sc_are_parts bd_are_parts (fun ds Q h => ?_) (fun cdv A outer s H E f hG hR => ?_)
  · obtain ⟨v, ps, rfl, hv, q⟩ := h
    rfl
  · have hu := hR.units
    have hu1 := hu_of hR
    refine ⟨_, (pdss_one (pds_ret (pd_and (pd_isi k_tup T.b_isinstance (dv 0) (pe_bltn (v := .ty "tuple") (by rfl) T.b_tuple (by decide +kernel) rfl)) (pd_and (pd_cb false (bi_all rfl) T.b_all (da_cons (pd_lc (own := [("one", 2)]) 3 false rfl sc_are_parts.nd (pdi_seq (dv 0)) (blkOk_by (N := ["value", "parts", "one"]) (sc := defScope s_are_parts) (by decide +kernel)) (fun _ _ _ _ _ => (pdg_name (i := 2) sc_are_parts.nd rfl (Or.inl rfl))) (fun _ _ _ _ _ => pdts_nil) (fun _ _ _ _ _ => (pd_d (D_is_integer T) cP_ok hR (by decide) hG pass0 (by rfl) (da_cons (dv 2) da_nil))) (by decide)) da_nil)) (pd_one (pd_co (oi_eq hu) (pd_ct false bi_list T.b_list (da_cons (dv 0) da_nil)) (dv 1) (nomark _))))))), fun ds Q h => ?_⟩
    obtain ⟨v, ps, rfl, hv, q⟩ := h
    cases v with
    | tuple xs =>
      have q : Q (.bool (xs.all isInt && PyData.eqv (.list xs) (.list (il ps)))) := q
      have hv : xs.length ≤ 1000 := hv
      refine lc_map (fun x => .bool (isInt x)) (sz _ (by omega)) (fun i x hx R r => ⟨_, rfl, rfl, r⟩) (lk1_mk all_map ?_)
      show if (xs.map isInt).all id = true then _ else _
      cases h : xs.all isInt with
      | false =>
        rw [h] at q
        rw [all_id, h, if_neg Bool.false_ne_true]
        exact q
      | true =>
        rw [h, Bool.true_and] at q
        rw [if_pos (show (xs.map isInt).all id = true by rw [all_id]; exact h)]
        obtain ⟨ns, rfl⟩ := ints_of h
        exact ⟨ints_shaped _, ints_shaped _, q⟩
    | _ => exact q
def f_is_paper : DF := fun ds Q => ∃ c d, ds = [.int c, d] ∧ 2 ≤ c ∧ c ≤ 9973 ∧ (∀ w a b, d = .tuple [.str w, a, b] → MulOk a b ∧ (seqD b).length ≤ 1000) ∧ Q (.bool (paperB c d))
theorem D_is_prime_paper (T : Tx K mg) : Ow.Df P w K mg base CX0 4 "is_prime_paper" s_is_prime_paper ["count", "value"] (spP K (f_is_paper)) := by
  refine df_P T.f_is_prime_paper sc_is_prime_paper bd_is_prime_paper (fun ds Q h => ?_) (fun cdv A outer s H E f hG hR => ?_)
  · obtain ⟨c, d, rfl, c2, c3, hd, q⟩ := h
    rfl
  · have hu := hR.units
    have hu1 := hu_of hR
    refine ⟨_, (pdss_cons (pds_expr (pd_d (D_check_count T) cP_ok hR (by decide) hG pass0 (by rfl) (da_cons (dv 0) (da_cons (pd_gi rfl T.c_LEAST_COUNT) (da_cons (pd_gi rfl T.c_MOST_COUNT) da_nil)))))
      (pdss_cons (pds_if (pdt_w (pdw_or (pdt_not (pdt_val (pd_isi k_tup T.b_isinstance (dv 1) (pe_bltn (v := .ty "tuple") (by rfl) T.b_tuple (by decide +kernel) rfl)))) (pdw_or (pdt_co (oi_ne hu) (pd_cb false bi_len T.b_len (da_cons (dv 1) da_nil)) pd_int (nomark _)) (pdw_or1 (pdt_not (pdt_val (pd_isi k_str T.b_isinstance (pd_idx (dv 1) pd_int (fun _ _ => rfl)) (pe_bltn (v := .ty "str") (by rfl) T.b_str (by decide +kernel) rfl))))))))
      (pdss_one (pds_ret pd_bl))
      pdss_nil)
      (pdss_cons (pds_if (pdt_co (oi_eq hu) (pd_idx (dv 1) pd_int (fun _ _ => rfl)) pd_str (nomark _))
      (pdss_one (pds_ret (pd_d (D_is_parts_paper T) cP_ok hR (by decide) hG pass0 (by rfl) (da_cons (dv 0) (da_cons (pd_idx (dv 1) pd_int (fun _ _ => rfl)) (da_cons (pd_idx (dv 1) pd_int (fun _ _ => rfl)) da_nil))))))
      pdss_nil)
      (pdss_cons (pds_if (pdt_w (pdw_or (pdt_co (oi_ne hu) (pd_idx (dv 1) pd_int (fun _ _ => rfl)) pd_str (nomark _)) (pdw_or1 (pdt_not (pdt_val (pd_d (D_is_within T) cP_ok hR (by decide) hG pass0 (by rfl) (da_cons (pd_idx (dv 1) pd_int (fun _ _ => rfl)) (da_cons pd_int (da_cons (pd_bo false oi_sub (dv 0) pd_int) da_nil)))))))))
      (pdss_one (pds_ret pd_bl))
      pdss_nil)
      (pdss_cons (pds_set (i := 2) sc_is_prime_paper.nd rfl (Or.inl rfl) (pd_d (D_primes_of T) cP_ok hR (by decide) hG pass0 (by rfl) (da_cons (pd_bo false oi_sub (dv 0) pd_int) da_nil)))
      (pdss_one (pds_ret (pd_and (pd_d (D_are_parts T) cP_ok hR (by decide) hG pass0 (by rfl) (da_cons (pd_idx (dv 1) pd_int (fun _ _ => rfl)) (da_cons (dv 2) da_nil))) (pd_one (pd_d (D_is_full T) cP_ok hR (by decide) hG pass0 (by rfl) (da_cons (dv 0) (da_cons (pd_idx (dv 1) pd_int (fun _ _ => rfl)) (da_cons (dv 2) da_nil))))))))))))), fun ds Q h => ?_⟩
    obtain ⟨c, d, rfl, c2, c3, hd, q⟩ := h
    refine ⟨_, _, _, rfl, c2, c3, ?_⟩
    cases ht : threeD d with
    | false =>
      rw [paperB_not ht] at q
      cases d with
      | tuple xs =>
        refine diteN (fun z => q) (fun z => ?_)
        match xs, z, ht with
        | [x, y, w], _, ht =>
          cases x with
          | str s => cases ht
          | _ => exact q
      | _ => exact q
    | true =>
      obtain ⟨w, a, b, rfl⟩ := three_get ht
      obtain ⟨hm, hl⟩ := hd w a b rfl
      have q : Q (.bool (if w = "parts" then partsB c a b else decide (w = "prime") && (withinD a 1 (c - 1) && (tupB (partsL (c - 1)) b && fullD c a)))) := q
      refine dite2 (fun z => ?_) fun z => ?_
      · rw [if_pos z] at q
        exact ⟨_, _, _, rfl, hm, q⟩
      · rw [if_neg z] at q
        refine diteN (fun y => ?_) (fun y => ?_)
        · rw [decide_eq_false y] at q
          exact q
        · rw [decide_eq_true y, Bool.true_and] at q
          refine ⟨_, _, _, rfl, ?_⟩
          cases hw : withinD a 1 (c - 1) with
          | false =>
            rw [hw] at q
            exact q
          | true =>
            rw [hw, Bool.true_and] at q
            refine iteF ⟨_, rfl, by omega, by omega, _, _, rfl, hl, ?_⟩
            cases hb : tupB (partsL (c - 1)) b with
            | false =>
              rw [hb] at q
              exact q
            | true =>
              rw [hb, Bool.true_and] at q
              obtain ⟨x, rfl, x0, x1⟩ := within_get hw
              obtain ⟨h1, h2⟩ := parts_ok c2 c3
              exact iteT ⟨_, _, _, rfl, c2, c3, by omega, by omega, h1, h2, q⟩
end

end Eqr
set_option maxHeartbeats 1000000
namespace Eqr
open PySem PySem.Spec L2 Ow Dl
/-! ### the law's picks and primes -/
section
variable {P : Program} {w : World} {K : PySem.W.Frag} {mg : Str → Option Value} {base : Heap}
def f_pick : DF := fun ds Q => ∃ xs, ds = [.list xs] ∧ 0 < xs.length ∧ xs.length < 100000 ∧ ∀ x ∈ xs, Q x
theorem D_law_pick (T : Tx K mg) : Ow.Df P w K mg base CX0 2 "_law_pick" s_law_pick ["pot", "some"] (spT K (f_pick)) := by
  refine df_T T.f_law_pick sc_law_pick bd_law_pick (fun ds Q h => ?_) (fun cdv A outer s H E f hG hR => ?_)
  · obtain ⟨xs, rfl, x0, x1, q⟩ := h
    rfl
  · have hu := hR.units
    have hu1 := hu_of hR
    refine ⟨_, (pdss_one (pds_ret (pd_idx (dv 1) (pd_d (D_law_draw T) draw_ok hR (by decide) hG pass0 (by rfl) (da_cons (dv 0) (da_cons (pd_cb false bi_len T.b_len (da_cons (dv 1) da_nil)) da_nil))) (fun _ _ => rfl)))), fun ds Q h => ?_⟩
    obtain ⟨xs, rfl, x0, x1, q⟩ := h
    refine ⟨rfl, _, rfl, by omega, by omega, fun d d0 d1 => ?_⟩
    have g : xs[d.toNat]? = some xs[d.toNat] := List.getElem?_eq_getElem (by omega)
    exact lk1_mk (at_of d0 g) ⟨rfl, q _ (List.getElem_mem _)⟩
/-- one of some written numbers -/
theorem pick_ints {ns : List Int} {Q : PyData → Prop} (h0 : 0 < ns.length) (h1 : ns.length < 100000) (h : ∀ n ∈ ns, Q (.int n)) : f_pick [.list (il ns)] Q :=
  ⟨_, rfl, by rw [il_len]; exact h0, by rw [il_len]; exact h1, fun x hx => by
    obtain ⟨n, hn, rfl⟩ := List.mem_map.mp hx
    exact h n hn⟩
end

end Eqr
set_option maxHeartbeats 1000000
namespace Eqr
open PySem PySem.Spec L2 Ow Dl
/-! ### squares; the law's own papers -/
theorem il_filter (l : List Int) (g : Int → Bool) : (il l).filter (fun x => match x with | .int i => g i | _ => false) = il (l.filter g) := by
  rw [il, List.filter_map]
  rfl
theorem rangeD_il (lo : Int) (k : Nat) : rangeD lo k = il (rangeL lo k) := range_ints lo k
theorem lc_filter {own : Bool} {items : List PyData} {M : Mem} {Q : DK} {P : Nat → PyData → (Option PyData → Prop) → Prop} (t : PyData → Bool) (f : PyData → PyData) (hsz : items.length ≤ sizeLine)
    (h : ∀ i x, items[i]? = some x → ∀ R : Option PyData → Prop, R (if t x = true then some (f x) else none) → P i x R) (q : born own (.l ((items.filter t).map f)) M Q) :
    LcAll own items M Q P := by
  refine ⟨hsz, fun _ x z => z = if t x = true then some (f x) else none, fun i x e => h i x e _ rfl, fun zs hl hz => ?_⟩
  have : zs = items.map fun x => if t x = true then some (f x) else none := by
    refine List.ext_getElem (by rw [List.length_map, hl]) fun i h1 h2 => ?_
    rw [List.getElem_map]
    exact hz i _ _ (List.getElem?_eq_getElem (by omega)) (List.getElem?_eq_getElem h1)
  rw [this]
  have key : ∀ l : List PyData, (l.map fun x => if t x = true then some (f x) else none).filterMap id = (l.filter t).map f := by
    intro l
    induction l with
    | nil => rfl
    | cons a l ih =>
      rw [List.map_cons, List.filterMap_cons, List.filter_cons]
      by_cases z : t a = true
      · rw [if_pos z, if_pos z, List.map_cons]
        show f a :: List.filterMap id (l.map fun x => if t x = true then some (f x) else none) = _
        rw [ih]
      · rw [if_neg z, if_neg z]
        exact ih
  rw [key]
  exact q
/-- a comprehension over numbers, with a test, that tells the numbers -/
theorem lc_ints {own : Bool} {lo : Int} {k : Nat} {M : Mem} {Q : DK} {P : Nat → PyData → (Option PyData → Prop) → Prop} (g : Int → Bool) (hsz : k ≤ 1000000)
    (h : ∀ (i : Nat), i < k → ∀ R : Option PyData → Prop, R (if g (lo + (i : Int)) = true then some (.int (lo + (i : Int))) else none) → P i (.int (lo + (i : Int))) R) (q : born own (.l (il ((rangeL lo k).filter g))) M Q) :
    LcAll own (rangeD lo k) M Q P := by
  refine lc_filter (fun x => match x with | .int i => g i | _ => false) id (sz _ (by rw [rangeD_len]; exact hsz)) (fun i x hx R r => ?_) ?_
  · obtain ⟨hi, rfl⟩ := rangeD_get hx
    exact h i hi R r
  · rw [rangeD_il, il_filter, List.map_id]
    exact q
theorem sq_zero {p : Int} (hp : Pr p) : sqL p p.toNat 0 ≠ [] := by
  have lo := hp.lo
  intro z
  have m : (0 : Int) ∈ sqL p p.toNat 0 := sqL_mem.mpr ⟨by omega, by omega, by rw [Int.zero_mul, Int.zero_emod]⟩
  rw [z] at m
  cases m
def isSq (p a : Int) : Bool := decide (sqL p p.toNat a ≠ [])
section
variable {P : Program} {w : World} {K : PySem.W.Frag} {mg : Str → Option Value} {base : Heap}
def f_halves_of : DFO := fun ds Q => ∃ p a, ds = [.int p, .int a] ∧ Pr p ∧ Q (il (sqL p p.toNat a))
theorem D_halves_of (T : Tx K mg) : Ow.Df P w K mg base CX0 1 "halves_of" s_halves_of ["prime", "one"] (spO K (f_halves_of)) := by
  refine df_O T.f_halves_of sc_halves_of bd_halves_of (fun ds Q h => ?_) (fun cdv A outer s H E f hG hR => ?_)
  · obtain ⟨p, a, rfl, hp, q⟩ := h
    rfl
  · have hu := hR.units
    have hu1 := hu_of hR
    refine ⟨_, (pdss_one (pds_ret (pd_lc (own := [("half", 2)]) 3 true rfl sc_halves_of.nd (pdi_range1 T.b_range (da_cons (dv 0) da_nil)) (blkOk_by (N := ["prime", "one", "half"]) (sc := defScope s_halves_of) (by decide +kernel)) (fun _ _ _ _ _ => (pdg_name (i := 2) sc_halves_of.nd rfl (Or.inl rfl))) (fun _ _ _ _ _ => pdts_one (pdt_co (oi_eq hu) (pd_bo false oi_mod (pd_bo false oi_mul (dv 2) (dv 2)) (dv 0)) (dv 1) (nomark _))) (fun _ _ _ _ _ => (dv 2)) (by decide)))), fun ds Q h => ?_⟩
    obtain ⟨p, a, rfl, hp, q⟩ := h
    have lo := hp.lo
    have hi := hp.hi
    refine ⟨⟨by omega, by omega⟩, lc_ints (fun x => decide (x * x % p = a)) (by omega) (fun i hi R r => ⟨mul_l (by omega) (by omega), by omega, dite2 (fun z => ?_) fun z => ?_⟩) ?_⟩
    · rw [if_pos (decide_eq_true z)] at r
      exact ⟨rfl, r⟩
    · rw [if_neg (by rw [decide_eq_false z]; exact Bool.false_ne_true)] at r
      exact ⟨rfl, r⟩
    · exact q
def f_halves : DFOX := fun ds Q Xd => ∃ p a, ds = [.int p, .int a] ∧ Pr p ∧ Nm p a ∧ (sqL p p.toNat a ≠ [] → Q (il (sqL p p.toNat a))) ∧ (sqL p p.toNat a = [] → Xd "NoSquare" none)
theorem D_halves (T : Tx K mg) : Ow.Df P w K mg base (L2.CX P w) 6 "halves" s_halves ["prime", "one"] (spOX K mg (f_halves)) := by
  refine df_Y T.f_halves sc_halves bd_halves (fun ds Q Xd h => ?_) (fun cdv A outer s H E f hG hR => ?_)
  · obtain ⟨p, a, rfl, hp, ha, q1, q0⟩ := h
    rfl
  · have hu := hR.units
    have hu1 := hu_of hR
    refine ⟨_, (pdss_cons (pds_expr (pd_d (D_check_one T) cP_ok hR (by decide) hG pass0 (by rfl) (da_cons (dv 0) (da_cons (dv 1) da_nil))))
      (pdss_cons (pds_set (i := 2) sc_halves.nd rfl (Or.inl rfl) (pd_d (D_halves_of T) cO_ok hR (by decide) hG pass0 (by rfl) (da_cons (dv 0) (da_cons (dv 1) da_nil))))
      (pdss_cons (pds_if (pdt_co (oi_eq hu) (dv 2) (pd_lst false da_nil) (nomark _))
      (pdss_one (pds_raise0 rfl T.x_NoSquare (by rfl)))
      pdss_nil)
      (pdss_one (pds_ret (dv 2)))))), fun ds Q Xd h => ?_⟩
    obtain ⟨p, a, rfl, hp, ha, q1, q0⟩ := h
    refine ⟨_, _, rfl, hp, ha, _, _, rfl, hp, ?_⟩
    refine ⟨Nat.zero_le _, ints_shaped _, ints_shaped [], ?_⟩
    rw [show PyData.eqv (.list (il (sqL p p.toNat a))) (.list []) = decide (sqL p p.toNat a = []) from eqv_nil _]
    exact dite2 (fun z => q0 z) fun z => q1 z
def f_is_square : DF := fun ds Q => ∃ p a, ds = [.int p, .int a] ∧ Pr p ∧ Nm p a ∧ Q (.bool (isSq p a))
theorem D_is_square (T : Tx K mg) : Ow.Df P w K mg base CX0 6 "is_square" s_is_square ["prime", "one"] (spP K (f_is_square)) := by
  refine df_P T.f_is_square sc_is_square bd_is_square (fun ds Q h => ?_) (fun cdv A outer s H E f hG hR => ?_)
  · obtain ⟨p, a, rfl, hp, ha, q⟩ := h
    rfl
  · have hu := hR.units
    have hu1 := hu_of hR
    refine ⟨_, (pdss_cons (pds_expr (pd_d (D_check_one T) cP_ok hR (by decide) hG pass0 (by rfl) (da_cons (dv 0) (da_cons (dv 1) da_nil))))
      (pdss_one (pds_ret (pd_or (pd_co (oi_eq hu) (dv 1) pd_int (nomark _)) (pd_one (pd_co (oi_eq hu) (pd_d (D_powered T) cP_ok hR (by decide) hG pass0 (by rfl) (da_cons (dv 0) (da_cons (dv 1) (da_cons (pd_bo false oi_div (pd_bo false oi_sub (dv 0) pd_int) pd_int) da_nil)))) pd_int (nomark _))))))), fun ds Q h => ?_⟩
    obtain ⟨p, a, rfl, hp, ha, q⟩ := h
    have lo := hp.lo
    have hi := hp.hi
    have a0 := ha.1
    refine ⟨_, _, rfl, hp, ha, dite2 (fun z => ?_) fun z => ?_⟩
    · subst z
      have q : Q (.bool (decide (sqL p p.toNat 0 ≠ []))) := q
      rw [decide_eq_true (sq_zero hp)] at q
      exact q
    · refine ⟨⟨by omega, by omega⟩, _, _, _, rfl, by omega, by omega, ha, by omega, fun r hr cr => ?_⟩
      have eu := (euler hp (a := a) (by omega) ha.2).1
      have e : isSq p a = decide (r = 1) := decide_eq_decide.mpr ⟨fun h => Cg.uniq (cr.trans (eu.mpr h)) hr.1 hr.2 (by omega) (by omega), fun h => eu.mp (by subst h; exact cr.symm)⟩
      rw [e] at q
      exact q
/-! ### the law -/
def f_lis_prime : DF := fun ds Q => ∃ n, ds = [.int n] ∧ Q (.bool (primeB n))
theorem D_law_is_prime (T : Tx K mg) : Ow.Df P w K mg base CX0 1 "_law_is_prime" s_law_is_prime ["number"] (spP K (f_lis_prime)) := by
  refine df_P T.f_law_is_prime sc_law_is_prime bd_law_is_prime (fun ds Q h => ?_) (fun cdv A outer s H E f hG hR => ?_)
  · obtain ⟨n, rfl, q⟩ := h
    rfl
  · have hu := hR.units
    have hu1 := hu_of hR
    refine ⟨_, (pdss_one (pds_ret (pd_and (pd_co oi_gt (dv 0) pd_int (nomark _)) (pd_one (pd_not (pd_cb false (bi_any rfl) T.b_any (da_cons (pd_lc (own := [("part", 1)]) 2 false rfl sc_law_is_prime.nd (pdi_range2 T.b_range (da_cons pd_int (da_cons pd_int da_nil))) (blkOk_by (N := ["number", "part"]) (sc := defScope s_law_is_prime) (by decide +kernel)) (fun _ _ _ _ _ => (pdg_name (i := 1) sc_law_is_prime.nd rfl (Or.inl rfl))) (fun _ _ _ _ _ => pdts_one (pdt_co oi_lt (dv 1) (dv 0) (nomark _))) (fun _ _ _ _ _ => (pd_co (oi_eq hu) (pd_bo false oi_mod (pd_ct false bi_int T.b_int (da_cons (dv 0) da_nil)) (dv 1)) pd_int (nomark _))) (by decide)) da_nil))))))), fun ds Q h => ?_⟩
    obtain ⟨n, rfl, q⟩ := h
    have q : Q (.bool (decide (1 < n) && !((List.range 98).any fun i => decide ((i : Int) + 2 < n) && decide (n % ((i : Int) + 2) = 0)))) := q
    refine dite2 (fun c => ?_) (fun c => ?_)
    · rw [decide_eq_true c, Bool.true_and] at q
      refine ⟨⟨by omega, by omega⟩, lc_if 98 (fun i => decide (2 + (i : Int) < n)) (fun i => .bool (decide (n % (2 + (i : Int)) = 0))) (rangeD_len _ _) (by omega) (fun i x hi hx R r => ?_) ?_⟩
      · obtain ⟨_, rfl⟩ := rangeD_get hx
        refine dite2 (fun c => ?_) (fun c => ?_)
        · rw [if_pos (decide_eq_true c)] at r
          exact ⟨by omega, rfl, r⟩
        · rw [if_neg (by rw [decide_eq_false c]; exact Bool.false_ne_true)] at r
          exact ⟨rfl, r⟩
      · refine lk1_mk (asBools_map' _ fun i => decide (n % (2 + (i : Int)) = 0)) ?_
        have e : (((List.range 98).filter fun (i : Nat) => decide (2 + (i : Int) < n)).map fun (i : Nat) => decide (n % (2 + (i : Int)) = 0)).any id = ((List.range 98).any fun i => decide ((i : Int) + 2 < n) && decide (n % ((i : Int) + 2) = 0)) := by
          rw [List.any_map, List.any_filter]
          refine congrArg (fun f => (List.range 98).any f) (funext fun i => ?_)
          show (decide (2 + (i : Int) < n) && decide (n % (2 + (i : Int)) = 0)) = _
          rw [Int.add_comm 2]
        rw [← e] at q
        exact q
    · rw [decide_eq_false c] at q
      exact q
def f_lparts : DF := fun ds Q => ∃ n, ds = [.int n] ∧ 0 < n ∧ n ≤ 10000 ∧ Q (.tuple (il (partsL n)))
theorem D_law_parts (T : Tx K mg) : Ow.Df P w K mg base CX0 2 "_law_parts" s_law_parts ["number"] (spP K (f_lparts)) := by
  refine df_P T.f_law_parts sc_law_parts bd_law_parts (fun ds Q h => ?_) (fun cdv A outer s H E f hG hR => ?_)
  · obtain ⟨n, rfl, n0, n1, q⟩ := h
    rfl
  · have hu := hR.units
    have hu1 := hu_of hR
    refine ⟨_, (pdss_one (pds_ret (pd_ct false bi_tuple T.b_tuple (da_cons (pd_lc (own := [("part", 1)]) 2 false rfl sc_law_parts.nd (pdi_range2 T.b_range (da_cons pd_int (da_cons (pd_bo false oi_add (dv 0) pd_int) da_nil))) (blkOk_by (N := ["number", "part"]) (sc := defScope s_law_parts) (by decide +kernel)) (fun _ _ _ _ _ => (pdg_name (i := 1) sc_law_parts.nd rfl (Or.inl rfl))) (fun _ _ _ _ _ => pdts_one (pdt_w (pdw_and (pdt_co (oi_eq hu) (pd_bo false oi_mod (pd_ct false bi_int T.b_int (da_cons (dv 0) da_nil)) (dv 1)) pd_int (nomark _)) (pdw_and1 (pdt_val (pd_d (D_law_is_prime T) cP_ok hR (by decide) hG pass0 (by rfl) (da_cons (dv 1) da_nil))))))) (fun _ _ _ _ _ => (dv 1)) (by decide)) da_nil)))), fun ds Q h => ?_⟩
    obtain ⟨n, rfl, n0, n1, q⟩ := h
    refine ⟨⟨by omega, by omega⟩, lc_ints (fun x => decide (n % x = 0) && primeB x) (by omega) (fun i hi R r => ⟨by omega, dite2 (fun z => ?_) fun z => ?_⟩) ?_⟩
    · rw [decide_eq_true z, Bool.true_and] at r
      refine ⟨_, rfl, ?_⟩
      cases h : primeB (2 + (i : Int)) with
      | true =>
        rw [h] at r
        exact iteT ⟨rfl, r⟩
      | false =>
        rw [h] at r
        exact iteF ⟨rfl, r⟩
    · rw [decide_eq_false z] at r
      exact ⟨rfl, r⟩
    · have e : (n + 1 - 2).toNat = (n - 1).toNat := by omega
      rw [e]
      exact q
def f_lpower : DF := fun ds Q => ∃ c a m, ds = [.int c, .int a, .int m] ∧ 2 ≤ c ∧ c ≤ 10000 ∧ 0 ≤ m ∧ m < 65536 ∧ ∀ r, Nm c r → Cg c r (a ^ m.toNat) → Q (.int r)
theorem D_law_power (T : Tx K mg) : Ow.Df P w K mg base CX0 1 "_law_power" s_law_power ["count", "base", "many"] (spP K (f_lpower)) := by
  refine df_P T.f_law_power sc_law_power bd_law_power (fun ds Q h => ?_) (fun cdv A outer s H E f hG hR => ?_)
  · obtain ⟨c, a, m, rfl, c0, c1, m0, m1, q⟩ := h
    rfl
  · have hu := hR.units
    have hu1 := hu_of hR
    refine ⟨_, (pdss_cons (pds_par3 (i := 3) (j := 4) (l := 5) rfl sc_law_power.nd rfl rfl rfl (by decide) (by decide) (by decide) rfl rfl rfl (da_cons pd_int (da_cons (pd_bo false oi_mod (pd_ct false bi_int T.b_int (da_cons (dv 1) da_nil)) (dv 0)) (da_cons (dv 2) da_nil))) (by rfl))
      (pdss_cons (pds_for 7 PassesOwn.never rfl (pdi_range1 T.b_range (da_cons pd_int da_nil)) (pdg_name (i := 6) sc_law_power.nd rfl (Or.inl rfl))
      (pdss_cons (pds_if (pdt_co (oi_eq hu) (pd_bo false oi_mod (pd_ct false bi_int T.b_int (da_cons (dv 5) da_nil)) pd_int) pd_int (nomark _))
        (pdss_one (pds_set (i := 3) sc_law_power.nd rfl (Or.inl rfl) (pd_bo false oi_mod (pd_ct false bi_int T.b_int (da_cons (pd_bo false oi_mul (dv 3) (dv 4)) da_nil)) (dv 0))))
        pdss_nil)
        (pdss_one (pds_par (i := 4) (j := 5) rfl sc_law_power.nd rfl rfl (by decide) rfl rfl (da_cons (pd_bo false oi_mod (pd_ct false bi_int T.b_int (da_cons (pd_bo false oi_mul (dv 4) (dv 4)) da_nil)) (dv 0)) (da_cons (pd_bo false oi_div (dv 5) pd_int) da_nil)) (by rfl)))))
      (pdss_one (pds_ret (dv 3))))), fun ds Q h => ?_⟩
    obtain ⟨c, a, m, rfl, c0, c1, m0, m1, q⟩ := h
    refine ⟨by omega, by decide, fun i ε M => ∃ (f s l : Int) (o : Option DV), ε = .lit [some (.d (.int c)), some (.d (.int a)), some (.d (.int m)), some (.d (.int f)), some (.d (.int s)), some (.d (.int l)), o] ∧ M = [] ∧ Nm c f ∧ Nm c s ∧ 0 ≤ l ∧ l * 2 ^ i ≤ m ∧ Cg c (f * s ^ l.toNat) (a ^ m.toNat),
      ⟨1, a % c, m, none, rfl, rfl, ⟨by omega, by omega⟩, nm_mod (by omega), m0, by simp, ?_⟩, ?_, ?_⟩
    · rw [Int.one_mul]
      exact (Cg.rest c a).pow _
    · rintro i x ε M hx ⟨f, s, l, o, rfl, rfl, hf, hs, hl, hb, hc⟩
      have f1 := hf.1
      have f2 := hf.2
      have g1 := hs.1
      have g2 := hs.2
      have l0 : 0 ≤ l / 2 := by omega
      have l1 : (l / 2).toNat = l.toNat / 2 := by omega
      have lb : l / 2 * 2 ^ (i + 1) ≤ m := by
        have p2 : (0 : Int) < 2 ^ i := Int.pow_pos (by omega)
        have e : l / 2 * 2 ^ (i + 1) = l / 2 * 2 * 2 ^ i := by rw [Int.pow_succ]; grind
        rw [e]
        exact Int.le_trans (Int.mul_le_mul_of_nonneg_right (by omega) (Int.le_of_lt p2)) hb
      refine ⟨by omega, dite2 (fun z => ?_) (fun z => ?_)⟩
      · refine ⟨mul_l (by omega) (by omega), by omega, mul_l (by omega) (by omega), by omega, ⟨by omega, by omega⟩, _, _, _, _, rfl, rfl, nm_mod (by omega), nm_mod (by omega), l0, lb, ?_⟩
        rw [l1]
        refine Cg.trans ?_ hc
        rw [pow_odd s l.toNat (by omega), ← Int.mul_assoc]
        exact (Cg.rest c (f * s)).mul ((Cg.rest c (s * s)).pow _)
      · refine ⟨mul_l (by omega) (by omega), by omega, ⟨by omega, by omega⟩, _, _, _, _, rfl, rfl, hf, nm_mod (by omega), l0, lb, ?_⟩
        rw [l1]
        refine Cg.trans ?_ hc
        rw [pow_even s l.toNat (by omega)]
        exact (Cg.refl c f).mul ((Cg.rest c (s * s)).pow _)
    · rintro ε M ⟨f, s, l, o, rfl, rfl, hf, hs, hl, hb, hc⟩
      have e16 : (rangeD 0 (Int.toNat 16)).length = 16 := rangeD_len _ _
      rw [e16] at hb
      have : l = 0 := by
        have : l * 65536 ≤ m := hb
        omega
      subst this
      refine q f hf ?_
      have hc : Cg c (f * s ^ 0) (a ^ m.toNat) := hc
      rw [Int.pow_zero, Int.mul_one] at hc
      exact hc
theorem lfull {c a : Int} {qs : List Int} (c2 : 2 ≤ c) {r : Int} (hr : Nm c r) (hc : Cg c r (a ^ (c - 1).toNat)) : fullB c a qs = (decide (r = 1) && qs.all fun q => !decide (a ^ ((c - 1) / q).toNat % c = 1)) := by
  have er := nm_eq hr hc (by omega)
  have e1 : (1 : Int) % c = 1 := Int.emod_eq_of_lt (by omega) (by omega)
  unfold fullB
  rw [er, e1]
def f_lfull : DF := fun ds Q => ∃ c a, ds = [.int c, .int a, .tuple (il (partsL (c - 1)))] ∧ 2 ≤ c ∧ c ≤ 9973 ∧ Q (.bool (fullB c a (partsL (c - 1))))
theorem D_law_is_full (T : Tx K mg) : Ow.Df P w K mg base CX0 2 "_law_is_full" s_law_is_full ["count", "one", "parts"] (spP K (f_lfull)) := by
  refine df_P T.f_law_is_full sc_law_is_full bd_law_is_full (fun ds Q h => ?_) (fun cdv A outer s H E f hG hR => ?_)
  · obtain ⟨c, a, rfl, c2, c3, q⟩ := h
    rfl
  · have hu := hR.units
    have hu1 := hu_of hR
    refine ⟨_, (pdss_cons (pds_if (pdt_co (oi_ne hu) (pd_d (D_law_power T) cP_ok hR (by decide) hG pass0 (by rfl) (da_cons (dv 0) (da_cons (dv 1) (da_cons (pd_bo false oi_sub (dv 0) pd_int) da_nil)))) pd_int (nomark _))
      (pdss_one (pds_ret pd_bl))
      pdss_nil)
      (pdss_one (pds_ret (pd_not (pd_cb false (bi_any rfl) T.b_any (da_cons (pd_lc (own := [("part", 3)]) 4 false rfl sc_law_is_full.nd (pdi_seq (dv 2)) (blkOk_by (N := ["count", "one", "parts", "part"]) (sc := defScope s_law_is_full) (by decide +kernel)) (fun _ _ _ _ _ => (pdg_name (i := 3) sc_law_is_full.nd rfl (Or.inl rfl))) (fun _ _ _ _ _ => pdts_nil) (fun _ _ _ _ _ => (pd_co (oi_eq hu) (pd_d (D_law_power T) cP_ok hR (by decide) hG pass0 (by rfl) (da_cons (dv 0) (da_cons (dv 1) (da_cons (pd_bo false oi_div (pd_bo false oi_sub (dv 0) pd_int) (dv 3)) da_nil)))) pd_int (nomark _))) (by decide)) da_nil)))))), fun ds Q h => ?_⟩
    obtain ⟨c, a, rfl, c2, c3, q⟩ := h
    obtain ⟨hq, hn⟩ := parts_ok c2 c3
    generalize hps : partsL (c - 1) = ps at q hq hn
    refine ⟨c, a, c - 1, rfl, c2, by omega, by omega, by omega, fun r hr hc => ?_⟩
    rw [lfull c2 hr hc] at q
    refine diteN (fun z => ?_) (fun z => ?_)
    · rw [decide_eq_false z] at q
      exact q
    · rw [decide_eq_true z, Bool.true_and] at q
      refine lc_map (fun x => .bool (match x with | .int y => decide (a ^ ((c - 1) / y).toNat % c = 1) | _ => false)) (sz _ (by rw [il_len]; omega)) (fun i x hx R r => ?_) (lk1_mk (all_map (c := fun x => match x with | .int y => decide (a ^ ((c - 1) / y).toNat % c = 1) | _ => false)) ?_)
      · obtain ⟨y, hy, rfl⟩ := il_at hx
        obtain ⟨y2, y3⟩ := hq y (List.mem_of_getElem? hy)
        have : (c - 1) / y ≤ c - 1 := Int.ediv_le_self _ (by omega)
        refine ⟨⟨by omega, by omega⟩, c, a, _, rfl, c2, by omega, Int.ediv_nonneg (by omega) (by omega), by omega, fun r2 hr2 hc2 => ⟨rfl, ?_⟩⟩
        rw [nm_eq hr2 hc2 (by omega)]
        exact r
      · have e : ((il ps).map fun x => match x with | .int y => decide (a ^ ((c - 1) / y).toNat % c = 1) | _ => false).any id = !(ps.all fun q => !decide (a ^ ((c - 1) / q).toNat % c = 1)) := by
          rw [any_id, il, List.any_map, List.all_eq_not_any_not, Bool.not_not]
          refine congrArg (fun f => ps.any f) (funext fun i => ?_)
          show decide (a ^ ((c - 1) / i).toNat % c = 1) = !!decide (a ^ ((c - 1) / i).toNat % c = 1)
          rw [Bool.not_not]
        have q2 : Q (.bool (!(((il ps).map fun x => match x with | .int y => decide (a ^ ((c - 1) / y).toNat % c = 1) | _ => false).any id))) := by
          rw [e, Bool.not_not]
          exact q
        exact q2
theorem least_small {c r : Int} (hc : c < 10000) (h : Least c r) (hr : r < c) : r < 100 := by
  rcases Int.lt_or_le r 100 with z | z
  · exact z
  · exfalso
    have e := div_of h.dv
    have c2 := h.lo
    have d0 := div_pos' h.dv (by have := h.hi; omega) (by omega)
    have d2 : 2 ≤ c / r := by
      rcases Int.lt_or_le (c / r) 2 with y | y
      · have : c / r = 1 := by omega
        rw [this] at e
        omega
      · exact y
    have : r ≤ c / r := by
      rcases Int.lt_or_le (c / r) r with y | y
      · exact absurd (emod_quot h.dv) (h.no _ d2 y)
      · exact y
    have : 100 * 100 ≤ r * (c / r) := Int.mul_le_mul z (by omega) (by omega) (by omega)
    omega
def f_lpaper : DF := fun ds Q => ∃ c, ds = [.int c, .tuple (il (partsL (c - 1)))] ∧ 2 ≤ c ∧ c ≤ 9973 ∧ ∀ D, PaperIs c D → Q D
theorem D_law_paper (T : Tx K mg) : Ow.Df P w K mg base CX0 3 "_law_paper" s_law_paper ["count", "parts"] (spP K (f_lpaper)) := by
  refine df_P T.f_law_paper sc_law_paper bd_law_paper (fun ds Q h => ?_) (fun cdv A outer s H E f hG hR => ?_)
  · obtain ⟨c, rfl, c2, c3, q⟩ := h
    rfl
  · have hu := hR.units
    have hu1 := hu_of hR
    refine ⟨_, (pdss_cons (pds_if (pdt_val (pd_d (D_law_is_prime T) cP_ok hR (by decide) hG pass0 (by rfl) (da_cons (dv 0) da_nil)))
      (pdss_one (pds_ret (pd_tup (da_cons pd_str (da_cons (pd_idx (pd_lc (own := [("one", 2)]) 5 false rfl sc_law_paper.nd (pdi_range2 T.b_range (da_cons pd_int (da_cons (pd_cb false (bi_min rfl) T.b_min (da_cons (dv 0) (da_cons pd_int da_nil))) da_nil))) (blkOk_by (N := ["count", "parts", "one", "least", "part"]) (sc := defScope s_law_paper) (by decide +kernel)) (fun _ _ _ _ _ => (pdg_name (i := 2) sc_law_paper.nd rfl (Or.inl rfl))) (fun _ _ _ _ _ => pdts_one (pdt_val (pd_d (D_law_is_full T) cP_ok hR (by decide) hG pass0 (by rfl) (da_cons (dv 0) (da_cons (dv 2) (da_cons (dv 1) da_nil)))))) (fun _ _ _ _ _ => (dv 2)) (by decide)) pd_int (fun _ _ => rfl)) (da_cons (dv 1) da_nil))))))
      pdss_nil)
      (pdss_cons (pds_set (i := 3) sc_law_paper.nd rfl (Or.inl rfl) (pd_idx (pd_lc (own := [("part", 4)]) 5 false rfl sc_law_paper.nd (pdi_range2 T.b_range (da_cons pd_int (da_cons pd_int da_nil))) (blkOk_by (N := ["count", "parts", "one", "least", "part"]) (sc := defScope s_law_paper) (by decide +kernel)) (fun _ _ _ _ _ => (pdg_name (i := 4) sc_law_paper.nd rfl (Or.inl rfl))) (fun _ _ _ _ _ => pdts_one (pdt_co (oi_eq hu) (pd_bo false oi_mod (pd_ct false bi_int T.b_int (da_cons (dv 0) da_nil)) (dv 4)) pd_int (nomark _))) (fun _ _ _ _ _ => (dv 4)) (by decide)) pd_int (fun _ _ => rfl)))
      (pdss_one (pds_ret (pd_tup (da_cons pd_str (da_cons (dv 3) (da_cons (pd_bo false oi_div (dv 0) (dv 3)) da_nil)))))))), fun ds Q h => ?_⟩
    obtain ⟨c, rfl, c2, c3, q⟩ := h
    refine ⟨_, rfl, ?_⟩
    cases hp : primeB c with
    | true =>
      obtain ⟨g, hg⟩ := fullOne_ex c2 c3 hp
      obtain ⟨g0, g1, g2, g3, g4⟩ := id hg
      obtain ⟨rest, er⟩ := filter_first (f := fun x => fullB c x (partsL (c - 1))) (k := ((if (100 : Int) < c then 100 else c) - 1).toNat) (lo := 1) g0 (by split <;> omega) g3 g4
      refine iteT ⟨⟨by decide, by decide, by split <;> omega, by split <;> omega⟩, lc_ints (fun x => fullB c x (partsL (c - 1))) (by split <;> omega) (fun i hi R r => ⟨_, _, rfl, c2, c3, ?_⟩) ?_⟩
      · cases h : fullB c (1 + (i : Int)) (partsL (c - 1)) with
        | true =>
          rw [h] at r
          exact iteT ⟨rfl, r⟩
        | false =>
          rw [h] at r
          exact iteF ⟨rfl, r⟩
      · rw [er]
        exact lk1_mk (at_of (j := 0) (by omega) rfl) ⟨sz 3 (by omega), q _ (.inl ⟨hp, g, hg, rfl⟩)⟩
    | false =>
      refine iteF ?_
      obtain ⟨r, hr⟩ := least_ex c2
      have hpr := hr.prime (by omega) (by omega)
      rw [hp] at hpr
      have hne := of_decide_eq_false hpr
      have r2 := hr.lo
      have r3 := hr.hi
      have r4 := least_small (by omega) hr (by omega)
      obtain ⟨rest, er⟩ := filter_first (f := fun x => decide (c % x = 0)) (k := 98) (lo := 2) r2 (by omega) (decide_eq_true hr.dv) (fun x x2 x3 => decide_eq_false (hr.no x x2 x3))
      refine ⟨⟨by omega, by omega⟩, lc_ints (fun x => decide (c % x = 0)) (by decide) (fun i hi R r => ⟨by omega, dite2 (fun z => ?_) fun z => ?_⟩) ?_⟩
      · rw [if_pos (decide_eq_true z)] at r
        exact ⟨rfl, r⟩
      · rw [if_neg (by rw [decide_eq_false z]; exact Bool.false_ne_true)] at r
        exact ⟨rfl, r⟩
      · have e98 : (rangeL 2 (100 - 2 : Int).toNat).filter (fun x => decide (c % x = 0)) = r :: rest := er
        rw [e98]
        exact lk1_mk (at_of (j := 0) (by omega) rfl) ⟨⟨by omega, by omega⟩, sz 3 (by omega), q _ (.inr ⟨hp, r, hr, by omega, rfl⟩)⟩
end

end Eqr
set_option maxHeartbeats 1000000
namespace Eqr
open PySem PySem.Spec L2 Ow Dl
/-! ### the law's look at a paper; bent values -/
theorem shapedT (ns : List Int) : SeqAt.shaped (.tuple (il ns)) = true := by
  have := ints_shaped ns
  unfold SeqAt.shaped at this ⊢
  exact this
section
variable {P : Program} {w : World} {K : PySem.W.Frag} {mg : Str → Option Value} {base : Heap}
theorem D_law_is_integer (T : Tx K mg) : Ow.Df P w K mg base CX0 1 "_law_is_integer" s_law_is_integer ["value"] (spP K (f_is_integer)) := by
  refine df_P T.f_law_is_integer sc_law_is_integer bd_law_is_integer (fun ds Q h => ?_) (fun cdv A outer s H E f hG hR => ?_)
  · obtain ⟨d, rfl, q⟩ := h
    rfl
  · have hu := hR.units
    have hu1 := hu_of hR
    refine ⟨_, (pdss_one (pds_ret (pd_and (pd_isi k_int T.b_isinstance (dv 0) (pe_bltn (v := .ty "int") (by rfl) T.b_int (by decide +kernel) rfl)) (pd_one (pd_not (pd_isi k_bool T.b_isinstance (dv 0) (pe_bltn (v := .ty "bool") (by rfl) T.b_bool (by decide +kernel) rfl))))))), fun ds Q h => ?_⟩
    obtain ⟨d, rfl, q⟩ := h
    cases d <;> exact q
def f_lis_paper : DF := fun ds Q => ∃ c d, ds = [.int c, .tuple (il (partsL (c - 1))), d] ∧ 2 ≤ c ∧ c ≤ 9973 ∧ (∀ w a b, d = .tuple [.str w, a, b] → MulOk a b ∧ (seqD b).length ≤ 1000) ∧ Q (.bool (paperB c d))
theorem D_law_is_paper (T : Tx K mg) : Ow.Df P w K mg base CX0 3 "_law_is_paper" s_law_is_paper ["count", "parts", "value"] (spP K (f_lis_paper)) := by
  refine df_P T.f_law_is_paper sc_law_is_paper bd_law_is_paper (fun ds Q h => ?_) (fun cdv A outer s H E f hG hR => ?_)
  · obtain ⟨c, d, rfl, c2, c3, hd, q⟩ := h
    rfl
  · have hu := hR.units
    have hu1 := hu_of hR
    refine ⟨_, (pdss_cons (pds_if (pdt_w (pdw_or (pdt_not (pdt_val (pd_isi k_tup T.b_isinstance (dv 2) (pe_bltn (v := .ty "tuple") (by rfl) T.b_tuple (by decide +kernel) rfl)))) (pdw_or (pdt_co (oi_ne hu) (pd_cb false bi_len T.b_len (da_cons (dv 2) da_nil)) pd_int (nomark _)) (pdw_or1 (pdt_not (pdt_val (pd_isi k_str T.b_isinstance (pd_idx (dv 2) pd_int (fun _ _ => rfl)) (pe_bltn (v := .ty "str") (by rfl) T.b_str (by decide +kernel) rfl))))))))
      (pdss_one (pds_ret pd_bl))
      pdss_nil)
      (pdss_cons (pds_if (pdt_co (oi_eq hu) (pd_idx (dv 2) pd_int (fun _ _ => rfl)) pd_str (nomark _))
      (pdss_one (pds_ret (pd_and (pd_d (D_law_is_integer T) cP_ok hR (by decide) hG pass0 (by rfl) (da_cons (pd_idx (dv 2) pd_int (fun _ _ => rfl)) da_nil)) (pd_and (pd_d (D_law_is_integer T) cP_ok hR (by decide) hG pass0 (by rfl) (da_cons (pd_idx (dv 2) pd_int (fun _ _ => rfl)) da_nil)) (pd_and (pd_co oi_gt (pd_idx (dv 2) pd_int (fun _ _ => rfl)) pd_int (nomark _)) (pd_and (pd_co oi_gt (pd_idx (dv 2) pd_int (fun _ _ => rfl)) pd_int (nomark _)) (pd_one (pd_co (oi_eq hu) (pd_bo false oi_mul (pd_idx (dv 2) pd_int (fun _ _ => rfl)) (pd_idx (dv 2) pd_int (fun _ _ => rfl))) (dv 0) (nomark _)))))))))
      pdss_nil)
      (pdss_cons (pds_if (pdt_w (pdw_or (pdt_co (oi_ne hu) (pd_idx (dv 2) pd_int (fun _ _ => rfl)) pd_str (nomark _)) (pdw_or (pdt_not (pdt_val (pd_d (D_law_is_integer T) cP_ok hR (by decide) hG pass0 (by rfl) (da_cons (pd_idx (dv 2) pd_int (fun _ _ => rfl)) da_nil)))) (pdw_or (pdt_not (pdt_chain op_lt op_lt pd_int (pd_idx (dv 2) pd_int (fun _ _ => rfl)) (dv 0))) (pdw_or1 (pdt_not (pdt_val (pd_isi k_tup T.b_isinstance (pd_idx (dv 2) pd_int (fun _ _ => rfl)) (pe_bltn (v := .ty "tuple") (by rfl) T.b_tuple (by decide +kernel) rfl)))))))))
      (pdss_one (pds_ret pd_bl))
      pdss_nil)
      (pdss_one (pds_ret (pd_and (pd_cb false (bi_all rfl) T.b_all (da_cons (pd_lc (own := [("one", 3)]) 4 false rfl sc_law_is_paper.nd (pdi_seq (pd_idx (dv 2) pd_int (fun _ _ => rfl))) (blkOk_by (N := ["count", "parts", "value", "one"]) (sc := defScope s_law_is_paper) (by decide +kernel)) (fun _ _ _ _ _ => (pdg_name (i := 3) sc_law_is_paper.nd rfl (Or.inl rfl))) (fun _ _ _ _ _ => pdts_nil) (fun _ _ _ _ _ => (pd_d (D_law_is_integer T) cP_ok hR (by decide) hG pass0 (by rfl) (da_cons (dv 3) da_nil))) (by decide)) da_nil)) (pd_and (pd_co (oi_eq hu) (pd_idx (dv 2) pd_int (fun _ _ => rfl)) (dv 1) (nomark _)) (pd_one (pd_d (D_law_is_full T) cP_ok hR (by decide) hG pass0 (by rfl) (da_cons (dv 0) (da_cons (pd_idx (dv 2) pd_int (fun _ _ => rfl)) (da_cons (dv 1) da_nil)))))))))))), fun ds Q h => ?_⟩
    obtain ⟨c, d, rfl, c2, c3, hd, q⟩ := h
    cases ht : threeD d with
    | false =>
      rw [paperB_not ht] at q
      cases d with
      | tuple xs =>
        refine diteN (fun z => q) (fun z => ?_)
        match xs, z, ht with
        | [x, y, w], _, ht =>
          cases x with
          | str s => cases ht
          | _ => exact q
      | _ => exact q
    | true =>
      obtain ⟨w, a, b, rfl⟩ := three_get ht
      obtain ⟨hm, hl⟩ := hd w a b rfl
      have q : Q (.bool (if w = "parts" then partsB c a b else decide (w = "prime") && (withinD a 1 (c - 1) && (tupB (partsL (c - 1)) b && fullD c a)))) := q
      refine dite2 (fun z => ?_) fun z => ?_
      · rw [if_pos z] at q
        refine ⟨_, rfl, ?_⟩
        cases a with
        | int x =>
          refine iteT ⟨_, rfl, ?_⟩
          cases b with
          | int y =>
            refine iteT ?_
            have q : Q (.bool (decide (1 < x) && (decide (1 < y) && decide (x * y = c)))) := q
            refine dite2 (fun z => ?_) (fun z => ?_)
            · rw [decide_eq_true z, Bool.true_and] at q
              refine dite2 (fun z => ?_) (fun z => ?_)
              · rw [decide_eq_true z, Bool.true_and] at q
                exact ⟨(hm x y rfl rfl).elim .inl .inr, q⟩
              · rw [decide_eq_false z] at q
                exact q
            · rw [decide_eq_false z] at q
              exact q
          | _ => exact q
        | _ => exact q
      · rw [if_neg z] at q
        refine diteN (fun y => ?_) (fun y => ?_)
        · rw [decide_eq_false y] at q
          exact q
        · rw [decide_eq_true y, Bool.true_and] at q
          refine ⟨_, rfl, ?_⟩
          cases a with
          | int x =>
            refine iteF ?_
            have q : Q (.bool ((decide (1 ≤ x) && decide (x ≤ c - 1)) && (tupB (partsL (c - 1)) b && fullB c x (partsL (c - 1))))) := q
            refine iteB (b := decide ((0 : Int) < x)) (fun h0 => ?_) (fun h0 => ?_)
            · have h0 := of_decide_eq_true h0
              refine iteB (b := !decide (x < c)) (fun h1 => ?_) (fun h1 => ?_)
              rotate_left
              · have h1 : x < c := by
                  by_cases z : x < c
                  · exact z
                  · rw [decide_eq_false z] at h1
                    cases h1
                rw [decide_eq_true (show 1 ≤ x by omega), decide_eq_true (show x ≤ c - 1 by omega)] at q
                cases b with
                | tuple xs =>
                  have q : Q (.bool ((xs.all isInt && PyData.eqv (.list xs) (.list (il (partsL (c - 1))))) && fullB c x (partsL (c - 1)))) := q
                  have hl : xs.length ≤ 1000 := hl
                  refine lc_map (fun x => .bool (isInt x)) (sz _ (by omega)) (fun i x hx R r => ⟨_, rfl, rfl, r⟩) (lk1_mk all_map ?_)
                  show if (xs.map isInt).all id = true then _ else _
                  cases h : xs.all isInt with
                  | false =>
                    rw [h] at q
                    rw [all_id, h, if_neg Bool.false_ne_true]
                    exact q
                  | true =>
                    rw [h, Bool.true_and] at q
                    rw [if_pos (show (xs.map isInt).all id = true by rw [all_id]; exact h)]
                    obtain ⟨ns, rfl⟩ := ints_of h
                    refine ⟨shapedT _, shapedT _, ?_⟩
                    rw [eqv_tl]
                    cases h2 : PyData.eqv (.list (il ns)) (.list (il (partsL (c - 1)))) with
                    | false =>
                      rw [h2] at q
                      exact q
                    | true =>
                      rw [h2, Bool.true_and] at q
                      exact ⟨_, _, rfl, c2, c3, q⟩
                | _ => exact q
              · have h1 : ¬ x < c := fun z => by
                  rw [decide_eq_true z] at h1
                  cases h1
                rw [decide_eq_false (show ¬ x ≤ c - 1 by omega), Bool.and_false] at q
                exact q
            · have h0 := of_decide_eq_false h0
              rw [decide_eq_false (show ¬ 1 ≤ x by omega)] at q
              exact q
          | _ => exact q
theorem wk_prime : WordOk "prime" := by unfold WordOk; simp only [PyData.leavesShort]; decide +kernel
theorem wk_parts : WordOk "parts" := by unfold WordOk; simp only [PyData.leavesShort]; decide +kernel
theorem wk_2 : WordOk "2" := by unfold WordOk; simp only [PyData.leavesShort]; decide +kernel
/-- the greatest number there -/
abbrev BIG : Int := 100000000000000000000
/-- what is put in for a part -/
def oddsD : List PyData := [.none, .bool true, .int 0, .int 1, .int 2, .int (-1), .str "prime", .str "parts", .tuple [], .list [], .tuple [.int 2], .tuple [.int 2, .int 3], .str "2", .int BIG, .tuple [.bool true, .int 2]]
theorem odds_ok : ∀ x ∈ oddsD, Shp BIG 1 x ∧ x.bulk ≤ 30 := by
  have si : ∀ {k : Nat} {i : Int}, -BIG ≤ i → i ≤ BIG → Shp BIG k (.int i) := fun a b => Shp.sc (.inr (.inr (.inl ⟨_, rfl, a, b⟩)))
  have ss : ∀ {x : Str}, WordOk x → Shp BIG 1 (.str x) := fun h => Shp.sc (.inr (.inr (.inr (.inl ⟨_, rfl, h⟩))))
  have sq : ∀ {d : PyData} {g : List Int}, Sq d (il g) → (∀ n ∈ g, -BIG ≤ n ∧ n ≤ BIG) → Shp BIG 1 d := fun e h => Shp.ints e h
  intro x hx
  simp only [oddsD, List.mem_cons, List.not_mem_nil, or_false] at hx
  rcases hx with rfl | rfl | rfl | rfl | rfl | rfl | rfl | rfl | rfl | rfl | rfl | rfl | rfl | rfl | rfl
  · exact ⟨Shp.sc (.inl rfl), by decide⟩
  · exact ⟨Shp.sc (.inr (.inl ⟨_, rfl⟩)), by decide⟩
  · exact ⟨si (by decide) (by decide), by decide⟩
  · exact ⟨si (by decide) (by decide), by decide⟩
  · exact ⟨si (by decide) (by decide), by decide⟩
  · exact ⟨si (by decide) (by decide), by decide⟩
  · exact ⟨ss wk_prime, by decide⟩
  · exact ⟨ss wk_parts, by decide⟩
  · exact ⟨sq (g := []) (.inr rfl) (fun n hn => nomatch hn), by decide⟩
  · exact ⟨sq (g := []) (.inl rfl) (fun n hn => nomatch hn), by decide⟩
  · exact ⟨sq (g := [2]) (.inr rfl) (fun n hn => by rw [List.mem_singleton.mp hn]; decide), by decide⟩
  · exact ⟨sq (g := [2, 3]) (.inr rfl) (fun n hn => by
      simp only [List.mem_cons, List.not_mem_nil, or_false] at hn
      rcases hn with rfl | rfl <;> decide), by decide⟩
  · exact ⟨ss wk_2, by decide⟩
  · exact ⟨si (by decide) (by decide), by decide⟩
  · exact ⟨.seq (.inr rfl) fun y hy => by
      simp only [List.mem_cons, List.not_mem_nil, or_false] at hy
      rcases hy with rfl | rfl
      · exact Shp.sc (.inr (.inl ⟨_, rfl⟩))
      · exact si (by decide) (by decide), by decide⟩
/-- no two great numbers beside a word -/
def Lone (r : PyData) : Prop := ∀ w a b, r = .tuple [w, a, b] → MulOk a b
theorem lone_old {xs ys : List PyData} {j : Nat} {N : Int} (hN : N ≤ 1000000) (h : ∀ x ∈ xs, Shp N j x) (hs : ∀ w a b, ys = [w, a, b] → a ∈ xs ∨ b ∈ xs) : Lone (.tuple ys) := by
  intro w a b e
  cases e
  intro x y ex ey
  subst ex
  subst ey
  rcases hs w _ _ rfl with m | m
  · have := (h _ m).int
    exact .inl ⟨by omega, by omega⟩
  · have := (h _ m).int
    exact .inr ⟨by omega, by omega⟩
theorem lone_put {xs : List PyData} {r w a b : PyData} {k : Nat} (hk : k < xs.length) (e : (xs.take k ++ [r]) ++ xs.drop (k + 1) = [w, a, b]) : a ∈ xs ∨ b ∈ xs := by
  have l := congrArg List.length e
  simp only [List.length_append, List.length_take, List.length_drop, List.length_cons, List.length_nil] at l
  have l3 : xs.length = 3 := by omega
  match xs, l3, k, hk with
  | [x, y, z], _, 0, _ => simp at e; exact .inl (by simp [e])
  | [x, y, z], _, 1, _ => simp at e; exact .inr (by simp [e])
  | [x, y, z], _, 2, _ => simp at e; exact .inl (by simp [e])
def f_bent : Nat → DF
  | 0 => fun _ _ => False
  | k + 1 => fun ds Q => ∃ d n N, ds = [d] ∧ Shp N k d ∧ d.bulk ≤ n ∧ n ≤ 100000 ∧ 2 ≤ N ∧ N ≤ 1000000 ∧ ∀ r, Shp BIG (k + 1) r → r.bulk ≤ 2 * n + 30 → Lone r → Q r
theorem R_law_bent (T : Tx K mg) : ∀ n : Nat, Ow.Df P w K mg base CX0 (2 + n) "_law_bent" s_law_bent ["pot", "value"] (spT K (f_bent n))
  | 0 => df_none T.f_law_bent bd_law_bent 2 (no_spT fun ds Q h => h)
  | n + 1 => by
    have ih := R_law_bent T n
    refine df_T (k := 2 + n) T.f_law_bent sc_law_bent bd_law_bent (fun ds Q h => ?_) (fun cdv A outer s H E f hG hR => ?_)
    · obtain ⟨d, m, N, rfl, hs, hb, hm, hN, hN2, q⟩ := h
      rfl
    have hu := hR.units
    have hu1 := hu_of hR
    refine ⟨_, (pdss_cons (pds_if (pdt_w (pdw_and (pdt_val (pd_isi k_tup T.b_isinstance (dv 1) (pe_bltn (v := .ty "tuple") (by rfl) T.b_tuple (by decide +kernel) rfl))) (pdw_and (pdt_co oi_gt (pd_cb false bi_len T.b_len (da_cons (dv 1) da_nil)) pd_int (nomark _)) (pdw_and1 (pdt_co oi_gt (pd_d (D_law_draw T) draw_ok hR (by omega) hG pass0 (by rfl) (da_cons (dv 0) (da_cons pd_int da_nil))) pd_int (nomark _))))))
      (pdss_cons (pds_par (i := 2) (j := 3) rfl sc_law_bent.nd rfl rfl (by decide) rfl rfl (da_cons (pd_d (D_law_draw T) draw_ok hR (by omega) hG pass0 (by rfl) (da_cons (dv 0) (da_cons (pd_cb false bi_len T.b_len (da_cons (dv 1) da_nil)) da_nil))) (da_cons (pd_d (D_law_draw T) draw_ok hR (by omega) hG pass0 (by rfl) (da_cons (dv 0) (da_cons pd_int da_nil))) da_nil)) (by rfl))
        (pdss_cons (pds_if (pdt_co (oi_eq hu) (dv 3) pd_int (nomark _))
        (pdss_one (pds_ret (pd_bo false oi_add (pd_slice false (dv 1) pdo_none (pdo_some (dv 2))) (pd_slice false (dv 1) (pdo_some (pd_bo false oi_add (dv 2) pd_int)) pdo_none))))
        pdss_nil)
        (pdss_cons (pds_if (pdt_co (oi_eq hu) (dv 3) pd_int (nomark _))
        (pdss_one (pds_ret (pd_bo false oi_add (pd_slice false (dv 1) pdo_none (pdo_some (pd_bo false oi_add (dv 2) pd_int))) (pd_slice false (dv 1) (pdo_some (dv 2)) pdo_none))))
        pdss_nil)
        (pdss_cons (pds_if (pdt_co (oi_eq hu) (dv 3) pd_int (nomark _))
        (pdss_one (pds_ret (pd_revS false (dv 1))))
        pdss_nil)
        (pdss_one (pds_ret (pd_bo false oi_add (pd_bo false oi_add (pd_slice false (dv 1) pdo_none (pdo_some (dv 2))) (pd_tup (da_cons (pd_d ih cT_ok hR (by omega) hG pass0 (by rfl) (da_cons (dv 0) (da_cons (pd_idx (dv 1) (dv 2) (fun _ _ => rfl)) da_nil))) da_nil))) (pd_slice false (dv 1) (pdo_some (pd_bo false oi_add (dv 2) pd_int)) pdo_none))))))))
      pdss_nil)
      (pdss_cons (pds_if (pdt_w (pdw_and (pdt_val (pd_d (D_law_is_integer T) cP_ok hR (by omega) hG pass0 (by rfl) (da_cons (dv 1) da_nil))) (pdw_and1 (pdt_co oi_gt (pd_d (D_law_draw T) draw_ok hR (by omega) hG pass0 (by rfl) (da_cons (dv 0) (da_cons pd_int da_nil))) pd_int (nomark _)))))
      (pdss_one (pds_ret (pd_bo false oi_add (dv 1) (pd_d (D_law_pick T) cT_ok hR (by omega) hG pass0 (by rfl) (da_cons (dv 0) (da_cons (pd_lst false (da_cons pd_int (da_cons (pd_neg pd_int) (da_cons pd_int (da_cons pd_int da_nil))))) da_nil))))))
      pdss_nil)
      (pdss_one (pds_ret (pd_d (D_law_pick T) cT_ok hR (by omega) hG pass0 (by rfl) (da_cons (dv 0) (da_cons (pd_lst false (da_cons pd_non (da_cons pd_bl (da_cons pd_int (da_cons pd_int (da_cons pd_int (da_cons (pd_neg pd_int) (da_cons pd_str (da_cons pd_str (da_cons (pd_tup da_nil) (da_cons (pd_lst false da_nil) (da_cons (pd_tup (da_cons pd_int da_nil)) (da_cons (pd_tup (da_cons pd_int (da_cons pd_int da_nil))) (da_cons pd_str (da_cons (pd_bo false oi_pow pd_int pd_int) (da_cons (pd_tup (da_cons pd_bl (da_cons pd_int da_nil))) da_nil)))))))))))))))) da_nil))))))), fun ds Q h => ?_⟩
    obtain ⟨d, m, N, rfl, hs, hb, hm, hN, hN2, q⟩ := h
    have bigN : N ≤ BIG := by show N ≤ 100000000000000000000; omega
    have lone : ∀ x ∈ oddsD, Lone x := fun x hx w a b e => by
      subst e
      simp [oddsD] at hx
    have odd : ∀ x ∈ oddsD, Q x := fun x hx => q x ((odds_ok x hx).1.mono (Int.le_refl _) (by omega)) (by have := (odds_ok x hx).2; omega) (lone x hx)
    have pick : ∀ Q' : PyData → Prop, (∀ x, Q x → Q' x) → f_pick [.list oddsD] Q' := fun Q' h => ⟨_, rfl, by decide, by decide, fun x hx => h x (odd x hx)⟩
    have tail : ∀ (Q' : PyData → Prop), (∀ x, Q x → Q' x) → f_pick [.list oddsD] Q' := pick
    cases d with
    | tuple xs =>
      have hit : ∀ x ∈ xs, ∃ j, n = j + 1 ∧ Shp N j x := fun x hx => hs.item (.inr rfl) hx
      have hbx : PyData.bulkAll xs ≤ m := by rw [bulk_seq (.inr rfl : Sq (.tuple xs) xs)] at hb; exact hb
      have hl := bulk_len xs
      have old : ∀ x ∈ xs, Shp BIG n x := fun x hx => by
        obtain ⟨j, e, sj⟩ := hit x hx
        exact sj.mono bigN (by omega)
      have oldN : ∀ x ∈ xs, Shp N n x := fun x hx => by
        obtain ⟨j, e, sj⟩ := hit x hx
        exact sj.mono (Int.le_refl _) (by omega)
      have fin : ∀ ys : List PyData, (∀ y ∈ ys, Shp BIG n y) → PyData.bulkAll ys ≤ 2 * m + 30 → (∀ w a b, ys = [w, a, b] → a ∈ xs ∨ b ∈ xs) → Q (.tuple ys) := fun ys hy hb hw => q _ (.seq (.inr rfl) hy) (by rw [bulk_seq (.inr rfl : Sq (.tuple ys) ys)]; exact hb) (lone_old hN2 oldN hw)
      refine dite2 (fun c => ?_) fun c => ?_
      · refine ⟨rfl, _, rfl, by omega, by omega, fun z z0 z1 => dite2 (fun _ => ?_) fun _ => ?_⟩
        · refine ⟨rfl, _, rfl, by omega, by omega, fun at' a0 a1 => ⟨rfl, _, rfl, by omega, by omega, fun way w0 w1 => ?_⟩⟩
          have ea : ((at'.toNat : Nat) : Int) = at' := Int.toNat_of_nonneg a0
          have ea1 : ((at'.toNat + 1 : Nat) : Int) = at' + 1 := by omega
          have c1 : cutD xs none (some at') = xs.take at'.toNat := by rw [← ea, cut_take, Int.toNat_natCast]
          have c2 : cutD xs (some (at' + 1)) none = xs.drop (at'.toNat + 1) := by rw [← ea1, cut_drop]
          have c3 : cutD xs none (some (at' + 1)) = xs.take (at'.toNat + 1) := by rw [← ea1, cut_take]
          have c4 : cutD xs (some at') none = xs.drop at'.toNat := by rw [← ea, cut_drop, Int.toNat_natCast]
          have hk : at'.toNat < xs.length := by omega
          have g := List.getElem?_eq_getElem hk
          generalize xs[at'.toNat] = y at g
          have bk := bulk_at g
          have ym := List.mem_of_getElem? g
          have l1 : (cutD xs none (some at')).length ≤ 100000 := by rw [c1, List.length_take]; omega
          have l2 : (cutD xs (some (at' + 1)) none).length ≤ 100000 := by rw [c2, List.length_drop]; omega
          have l3 : (cutD xs none (some (at' + 1))).length ≤ 100000 := by rw [c3, List.length_take]; omega
          have l4 : (cutD xs (some at') none).length ≤ 100000 := by rw [c4, List.length_drop]; omega
          refine dite2 (fun _ => ?_) fun _ => dite2 (fun _ => ?_) fun _ => dite2 (fun _ => ?_) fun _ => ?_
          · refine ⟨sz _ (by omega), rfl, ?_⟩
            rw [c1, c2]
            have hy : ∀ y ∈ xs.take at'.toNat ++ xs.drop (at'.toNat + 1), y ∈ xs := fun y hy => (List.mem_append.mp hy).elim List.mem_of_mem_take List.mem_of_mem_drop
            exact fin _ (fun y h => old y (hy y h)) (by rw [bulk_app]; omega) fun w a b e => .inl (hy a (by rw [e]; simp))
          · refine ⟨sz _ (by omega), rfl, ?_⟩
            rw [c3, c4]
            have hy : ∀ y ∈ xs.take (at'.toNat + 1) ++ xs.drop at'.toNat, y ∈ xs := fun y hy => (List.mem_append.mp hy).elim List.mem_of_mem_take List.mem_of_mem_drop
            have b1 := bulk_take xs at'.toNat
            have b2 := bulk_take xs (at'.toNat + 1)
            exact fin _ (fun y h => old y (hy y h)) (by rw [bulk_app]; omega) fun w a b e => .inl (hy a (by rw [e]; simp))
          · exact ⟨rfl, fin _ (fun y h => old y (List.mem_reverse.mp h)) (by rw [bulk_rev]; omega) fun w a b e => .inl (List.mem_reverse.mp (by rw [e]; simp))⟩
          · obtain ⟨j, rfl, sj⟩ := hit y ym
            refine lk1_mk (at_of a0 g) ⟨rfl, y, y.bulk, N, rfl, sj, Nat.le_refl _, by omega, hN, hN2, fun r hr hb2 _ => ⟨sz 1 (by omega), sz _ (by show _ + 1 ≤ _; omega), sz _ (by rw [List.length_append]; show _ + 1 + _ ≤ _; omega), rfl, ?_⟩⟩
            rw [c1, c2]
            refine fin _ (fun z hz => ?_) ?_ fun w a b e => lone_put hk e
            · rcases List.mem_append.mp hz with h | h
              · rcases List.mem_append.mp h with h | h
                · exact old z (List.mem_of_mem_take h)
                · rw [List.mem_singleton.mp h]
                  exact hr
              · exact old z (List.mem_of_mem_drop h)
            · rw [bulk_app, bulk_app]
              have e : PyData.bulkAll [r] = r.bulk + 1 + 0 := by simp only [PyData.bulkAll]
              omega
        · exact ⟨_, rfl, iteF ⟨sz 0 (by omega), sz 0 (by omega), sz 1 (by omega), sz 2 (by omega), ⟨by decide, by decide, by decide⟩, sz 2 (by omega), sz 15 (by omega), rfl, tail _ fun x hx => ⟨rfl, hx⟩⟩⟩
      · exact ⟨_, rfl, iteF ⟨sz 0 (by omega), sz 0 (by omega), sz 1 (by omega), sz 2 (by omega), ⟨by decide, by decide, by decide⟩, sz 2 (by omega), sz 15 (by omega), rfl, tail _ fun x hx => ⟨rfl, hx⟩⟩⟩
    | int i =>
      have si := hs.int
      refine ⟨_, rfl, iteT ⟨rfl, _, rfl, by omega, by omega, fun z z0 z1 => dite2 (fun _ => ?_) fun _ => ?_⟩⟩
      · refine ⟨sz 4 (by omega), rfl, pick_ints (ns := [1, -1, 2, 5]) (by decide) (by decide) fun k hk => ⟨rfl, q _ (Shp.sc (.inr (.inr (.inl ⟨_, rfl, ?_, ?_⟩)))) (by simp only [PyData.bulk]; omega) fun w a b e => nomatch e⟩⟩
        all_goals
          simp only [List.mem_cons, List.not_mem_nil, or_false] at hk
          show _ ≤ _
          unfold BIG at *
          omega
      · exact ⟨sz 0 (by omega), sz 0 (by omega), sz 1 (by omega), sz 2 (by omega), ⟨by decide, by decide, by decide⟩, sz 2 (by omega), sz 15 (by omega), rfl, tail _ fun x hx => ⟨rfl, hx⟩⟩
    | _ => exact ⟨_, rfl, iteF ⟨sz 0 (by omega), sz 0 (by omega), sz 1 (by omega), sz 2 (by omega), ⟨by decide, by decide, by decide⟩, sz 2 (by omega), sz 15 (by omega), rfl, tail _ fun x hx => ⟨rfl, hx⟩⟩⟩
theorem D_law_bent (T : Tx K mg) : Ow.Df P w K mg base CX0 6 "_law_bent" s_law_bent ["pot", "value"] (spT K (f_bent 4)) := R_law_bent T 4
end

end Eqr
set_option maxHeartbeats 1000000
namespace Eqr
open PySem PySem.Spec L2 Ow Dl
section
variable {P : Program} {w : World} {K : PySem.W.Frag} {mg : Str → Option Value} {base : Heap}
/-- a value of the law's lists -/
structure Val (n : Nat) (x : PyData) : Prop where
  shp : Shp BIG 5 x
  bulk : x.bulk ≤ n
  lone : Lone x
theorem Val.vw {n : Nat} {x : PyData} (h : Val n x) : Vw 6 n x := h.shp.vw (by decide) h.bulk
theorem Val.can {n : Nat} {x : PyData} (h : Val n x) (hn : n ≤ 100000) : CanD x := h.vw.can (by decide) (by omega)
theorem Val.ask {n : Nat} {x : PyData} (h : Val n x) (hn : n ≤ 1000) : ∀ w a b, x = .tuple [.str w, a, b] → MulOk a b ∧ (seqD b).length ≤ 1000 := by
  rintro w a b rfl
  refine ⟨h.lone _ _ _ rfl, ?_⟩
  have hb := h.bulk
  have e : (PyData.tuple [.str w, a, b]).bulk = (PyData.str w).bulk + 1 + (a.bulk + 1 + (b.bulk + 1 + 0)) := by simp only [PyData.bulk, PyData.bulkAll]
  have : (seqD b).length ≤ b.bulk := by
    cases b with
    | list xs => rw [bulk_seq (.inl rfl : Sq (.list xs) xs)]; exact bulk_len xs
    | tuple xs => rw [bulk_seq (.inr rfl : Sq (.tuple xs) xs)]; exact bulk_len xs
    | _ => exact Nat.zero_le _
  omega
theorem Val.mono {n m : Nat} {x : PyData} (h : Val n x) (hn : n ≤ m) : Val m x := ⟨h.shp, Nat.le_trans h.bulk hn, h.lone⟩
theorem Val.non3 {n : Nat} {x : PyData} (hs : Shp BIG 5 x) (hb : x.bulk ≤ n) (h : ∀ w a b, x ≠ .tuple [w, a, b]) : Val n x := ⟨hs, hb, fun w a b e => absurd e (h w a b)⟩
theorem word_bulk {x : Str} (h : x.cps.size ≤ 20) : (PyData.str x).bulk ≤ 20 := by simp only [PyData.bulk]; exact h
/-- a paper of numbers -/
theorem val_two {x : Str} {i j : Int} (hw : WordOk x) (hx : x.cps.size ≤ 20) (i0 : -10000 ≤ i) (i1 : i ≤ 10000) (j0 : -10000 ≤ j) (j1 : j ≤ 10000) : Val 30 (.tuple [.str x, .int i, .int j]) ∧ Shp 10000 3 (.tuple [.str x, .int i, .int j]) := by
  have sh : Shp 10000 1 (.tuple [.str x, .int i, .int j]) := .seq (.inr rfl) fun y hy => by
    simp only [List.mem_cons, List.not_mem_nil, or_false] at hy
    rcases hy with rfl | rfl | rfl
    · exact .inr (.inr (.inr (.inl ⟨_, rfl, hw⟩)))
    · exact .inr (.inr (.inl ⟨_, rfl, i0, i1⟩))
    · exact .inr (.inr (.inl ⟨_, rfl, j0, j1⟩))
  refine ⟨⟨sh.mono (by decide) (by omega), ?_, ?_⟩, sh.mono (Int.le_refl _) (by omega)⟩
  · have := word_bulk hx
    simp only [PyData.bulk, PyData.bulkAll] at this ⊢
    omega
  · intro w a b e
    cases e
    intro a b ea eb
    cases ea
    exact .inl ⟨by omega, by omega⟩
/-- a paper of a number and numbers -/
theorem val_list {x : Str} {i : Int} {d : PyData} {ps : List Int} (hd : Sq d (il ps)) (hw : WordOk x) (hx : x.cps.size ≤ 20) (i0 : -10000 ≤ i) (i1 : i ≤ 10000) (hp : ∀ q ∈ ps, -10000 ≤ q ∧ q ≤ 10000) (hl : ps.length ≤ 40) : Val 70 (.tuple [.str x, .int i, d]) ∧ Shp 10000 3 (.tuple [.str x, .int i, d]) := by
  have sh : Shp 10000 2 (.tuple [.str x, .int i, d]) := .seq (.inr rfl) fun y hy => by
    simp only [List.mem_cons, List.not_mem_nil, or_false] at hy
    rcases hy with rfl | rfl | rfl
    · exact Shp.sc (.inr (.inr (.inr (.inl ⟨_, rfl, hw⟩))))
    · exact Shp.sc (.inr (.inr (.inl ⟨_, rfl, i0, i1⟩)))
    · exact Shp.ints hd hp
  refine ⟨⟨sh.mono (by decide) (by omega), ?_, ?_⟩, sh.mono (Int.le_refl _) (by omega)⟩
  · have := word_bulk hx
    have bd : d.bulk = ps.length := by rw [bulk_seq hd, bulk_ints]
    have e : (PyData.tuple [.str x, .int i, d]).bulk = (PyData.str x).bulk + 1 + ((PyData.int i).bulk + 1 + (d.bulk + 1 + 0)) := by simp only [PyData.bulk, PyData.bulkAll]
    have e2 : (PyData.int i).bulk = 0 := by simp only [PyData.bulk]
    omega
  · intro w a b e
    cases e
    intro a b ea eb
    subst eb
    rcases hd with e | e <;> cases e
theorem parts_bound {c : Int} (c2 : 2 ≤ c) (c3 : c ≤ 9973) : (∀ q ∈ partsL (c - 1), -10000 ≤ q ∧ q ≤ 10000) ∧ (partsL (c - 1)).length ≤ 14 := by
  refine ⟨fun q hq => ?_, partsL_few (by omega) (by omega)⟩
  obtain ⟨a, b, _, _⟩ := partsL_mem.mp hq
  omega
/-- what a told paper looks like -/
theorem due_form {c : Int} {D : PyData} (c2 : 2 ≤ c) (c3 : c ≤ 9973) (h : PaperIs c D) : ∃ x y, D = .tuple [.str (if primeB c = true then "prime" else "parts"), x, y] ∧ (primeB c = true → ∃ g, x = .int g ∧ FullOne c g ∧ y = .tuple (il (partsL (c - 1)))) ∧ (primeB c = false → ∃ r, Least c r ∧ r < c ∧ x = .int r ∧ y = .int (c / r)) := by
  rcases h with ⟨hp, g, hg, rfl⟩ | ⟨hp, r, hr, hlt, rfl⟩
  · exact ⟨_, _, by rw [if_pos hp], fun _ => ⟨g, rfl, hg, rfl⟩, fun z => by rw [hp] at z; cases z⟩
  · refine ⟨_, _, by rw [if_neg (by rw [hp]; exact Bool.false_ne_true)], fun z => ?_, fun _ => ⟨r, hr, hlt, rfl, rfl⟩⟩
    rw [hp] at z
    cases z
theorem quot_bound {c r : Int} (c2 : 2 ≤ c) (h : Least c r) : 0 < c / r ∧ c / r ≤ c := by
  have := div_pos' h.dv (by omega) (by have := h.lo; omega)
  exact ⟨this, Int.ediv_le_self _ (by omega)⟩
theorem due_val {c : Int} {D : PyData} (c2 : 2 ≤ c) (c3 : c ≤ 9973) (h : PaperIs c D) : Val 70 D ∧ Shp 10000 3 D := by
  obtain ⟨hq, hl⟩ := parts_bound c2 c3
  rcases h with ⟨hp, g, hg, rfl⟩ | ⟨hp, r, hr, hlt, rfl⟩
  · exact val_list (.inr rfl) wk_prime (by decide) (by have := hg.1; omega) (by have := hg.2.1; omega) hq (by omega)
  · obtain ⟨q0, q1⟩ := quot_bound c2 hr
    have := hr.lo
    obtain ⟨a, b⟩ := val_two (i := r) (j := c / r) wk_parts (by decide) (by omega) (by omega) (by omega) (by omega)
    exact ⟨a.mono (by omega), b⟩
/-- a right paper of the count -/
theorem due_right {c : Int} {D : PyData} (c2 : 2 ≤ c) (c3 : c ≤ 9973) (h : PaperIs c D) : paperB c D = true := by
  rcases h with ⟨hp, g, ⟨g0, g1, g2, g3, g4⟩, rfl⟩ | ⟨hp, r, hr, hlt, rfl⟩
  · show (if ("prime" : Str) = "parts" then partsB c (.int g) (.tuple (il (partsL (c - 1)))) else decide (("prime" : Str) = "prime") && (withinD (.int g) 1 (c - 1) && (tupB (partsL (c - 1)) (.tuple (il (partsL (c - 1)))) && fullD c (.int g)))) = true
    rw [if_neg (by decide), decide_eq_true rfl]
    have e1 : withinD (.int g) 1 (c - 1) = true := by
      show (decide (1 ≤ g) && decide (g ≤ c - 1)) = true
      rw [decide_eq_true (by omega), decide_eq_true (by omega)]
      rfl
    have e2 : tupB (partsL (c - 1)) (.tuple (il (partsL (c - 1)))) = true := by
      show ((il (partsL (c - 1))).all isInt && PyData.eqv (.list (il (partsL (c - 1)))) (.list (il (partsL (c - 1))))) = true
      rw [eqv_ints, decide_eq_true rfl, Bool.and_true, List.all_eq_true]
      intro x hx
      obtain ⟨n, _, rfl⟩ := List.mem_map.mp hx
      rfl
    have e3 : fullD c (.int g) = true := g3
    rw [e1, e2, e3]
    rfl
  · show (decide (1 < r) && (decide (1 < c / r) && decide (r * (c / r) = c))) = true
    have e := div_of hr.dv
    have r2 := hr.lo
    have q1 : 1 < c / r := by
      rcases Int.lt_or_le 1 (c / r) with z | z
      · exact z
      · have : r * (c / r) ≤ r * 1 := Int.mul_le_mul_of_nonneg_left z (by omega)
        omega
    rw [decide_eq_true (by omega), decide_eq_true q1, decide_eq_true e.symm]
    rfl
/-- never both words for one count -/
theorem one_word {c : Int} {x : PyData} (c2 : 2 ≤ c) (c3 : c ≤ 9973) (h : paperB c x = true) : ∃ a b, x = .tuple [.str (if primeB c = true then "prime" else "parts"), a, b] := by
  cases ht : threeD x with
  | false =>
    rw [paperB_not ht] at h
    cases h
  | true =>
    obtain ⟨w, a, b, rfl⟩ := three_get ht
    refine ⟨a, b, ?_⟩
    have h : (if w = "parts" then partsB c a b else decide (w = "prime") && (withinD a 1 (c - 1) && (tupB (partsL (c - 1)) b && fullD c a))) = true := h
    by_cases z : w = "parts"
    · rw [if_pos z] at h
      cases a with
      | int x =>
        cases b with
        | int y =>
          have h : (decide (1 < x) && (decide (1 < y) && decide (x * y = c))) = true := h
          simp only [Bool.and_eq_true, decide_eq_true_eq] at h
          obtain ⟨h1, h2, h3⟩ := h
          have np : primeB c = false := by
            cases hp : primeB c with
            | false => rfl
            | true =>
              have xc : x < c := by
                have : x * 2 ≤ x * y := Int.mul_le_mul_of_nonneg_left (by omega) (by omega)
                omega
              exact absurd (by rw [← h3]; exact Int.mul_emod_right x y) (primeB_all (by omega) hp x (by omega) xc)
          rw [if_neg (by rw [np]; exact Bool.false_ne_true), z]
        | _ => cases h
      | _ => cases h
    · rw [if_neg z, Bool.and_eq_true, Bool.and_eq_true, Bool.and_eq_true, decide_eq_true_eq] at h
      obtain ⟨hw, h1, h2, h3⟩ := h
      obtain ⟨x, rfl, x0, x1⟩ := within_get h1
      rw [if_pos (full_prime c2 (by omega) h3), hw]
theorem bools2 (a b : Bool) : CanD (.list [.bool a, .bool b]) := ((Vw.list (VwAll.of (k := 0) (m := 0) fun d hd => by
  simp only [List.mem_cons, List.not_mem_nil, or_false] at hd
  rcases hd with rfl | rfl
  · exact Vw.bool a
  · exact Vw.bool b)).can (by decide) (by show 2 * (0 + 1) ≤ 300000; omega))
theorem vals2 {n : Nat} {x : PyData} (h : Val n x) (hn : n ≤ 1000) : CanD (.list [x, x]) := ((Vw.list (VwAll.of (k := 6) (m := n) fun d hd => by
  simp only [List.mem_cons, List.not_mem_nil, or_false] at hd
  rcases hd with rfl | rfl <;> exact h.vw)).can (by decide) (by show 2 * (n + 1) ≤ 300000; omega))
def f_papers_right : DF := fun ds Q => ∃ c, ds = [.int c] ∧ 2 ≤ c ∧ c ≤ 9973 ∧ Q (.bool true)
theorem D_law_papers_right (T : Tx K mg) : Ow.Df P w K mg base CX0 7 "_law_papers_right" s_law_papers_right ["pot", "count"] (spT K (f_papers_right)) := by
  refine df_T T.f_law_papers_right sc_law_papers_right bd_law_papers_right (fun ds Q h => ?_) (fun cdv A outer s H E f hG hR => ?_)
  · obtain ⟨c, rfl, c2, c3, q⟩ := h
    rfl
  · have hu := hR.units
    have hu1 := hu_of hR
    refine ⟨_, (pdss_cons (pds_set (i := 2) sc_law_papers_right.nd rfl (Or.inr rfl) (pd_d (D_law_parts T) cP_ok hR (by decide) hG pass0 (by rfl) (da_cons (pd_bo false oi_sub (dv 1) pd_int) da_nil)))
      (pdss_cons (pds_set (i := 3) sc_law_papers_right.nd rfl (Or.inr rfl) (pd_d (D_law_paper T) cP_ok hR (by decide) hG pass0 (by rfl) (da_cons (dv 1) (da_cons (dv 2) da_nil))))
      (pdss_cons (pds_if (pdt_co (oi_ne hu) (pd_cb false (bi_reprD hu hG) T.b_repr (da_cons (pd_lst false (da_cons (pd_d (D_prime_paper T) cP_ok hR (by decide) hG pass0 (by rfl) (da_cons (dv 1) da_nil)) (da_cons (pd_dk0 (D_prime_paper T) cP_ok hR (by decide) hG pass0 w_prime_paper_0_count (by rfl) (pdk_cons (dv 1) pdk_nil)) da_nil))) da_nil)) (pd_cb false (bi_reprD hu hG) T.b_repr (da_cons (pd_lst false (da_cons (dv 3) (da_cons (dv 3) da_nil))) da_nil)) (nomark _))
      (pdss_one (pds_ret pd_bl))
      pdss_nil)
      (pdss_cut 11 (pds_if (pdt_w (pdw_and (pdt_co oi_gt (dv 1) pd_int (nomark _)) (pdw_and1 (pdt_co (oi_ne hu) (pd_d (D_is_prime T) cP_ok hR (by decide) hG pass0 (by rfl) (da_cons (dv 1) da_nil)) (pd_co (oi_eq hu) (pd_idx (dv 3) pd_int (fun _ _ => rfl)) pd_str (nomark _)) (nomark _)))))
      (pdss_one (pds_ret pd_bl))
      pdss_nil)
      (pdss_cut 11 (pds_set (i := 4) sc_law_papers_right.nd rfl (Or.inl rfl) (pd_if (pdt_co (oi_eq hu) (pd_idx (dv 3) pd_int (fun _ _ => rfl)) pd_str (nomark _)) (pd_tup (da_cons pd_str (da_cons (pd_idx (dv 3) pd_int (fun _ _ => rfl)) (da_cons (pd_idx (dv 3) pd_int (fun _ _ => rfl)) da_nil)))) (pd_tup (da_cons pd_str (da_cons (pd_bo false oi_sub (dv 1) pd_int) (da_cons (dv 2) da_nil))))))
      (pdss_cons (pds_set (i := 5) sc_law_papers_right.nd rfl (Or.inl rfl) (pd_lst false (da_cons (dv 3) (da_cons (pd_ct false bi_list T.b_list (da_cons (dv 3) da_nil)) (da_cons (pd_slice false (dv 3) pdo_none (pdo_some pd_int)) (da_cons (pd_bo false oi_add (dv 3) (pd_tup (da_cons pd_int da_nil))) (da_cons (dv 4) (da_cons (pd_tup (da_cons pd_str (da_cons pd_int (da_cons (dv 2) da_nil)))) (da_cons (pd_tup (da_cons pd_str (da_cons pd_int (da_cons (dv 1) da_nil)))) (da_cons (pd_tup (da_cons pd_str (da_cons (dv 1) (da_cons pd_int da_nil)))) (da_cons (pd_tup (da_cons pd_str (da_cons (pd_bo false oi_sub pd_int pd_int) (da_cons (pd_bo false oi_sub pd_int (dv 1)) da_nil)))) da_nil)))))))))))
      (pdss_cons (pds_set (i := 5) sc_law_papers_right.nd rfl (Or.inl rfl) (pd_bo false oi_add (pd_bo false oi_add (dv 5) (pd_lc (own := [("turn", 6)]) 11 false rfl sc_law_papers_right.nd (pdi_range1 T.b_range (da_cons pd_int da_nil)) (blkOk_by (N := ["pot", "count", "parts", "due", "other", "values", "turn", "right", "value", "is_so", "shown"]) (sc := defScope s_law_papers_right) (by decide +kernel)) (fun _ _ _ _ _ => (pdg_name (i := 6) sc_law_papers_right.nd rfl (Or.inl rfl))) (fun _ _ _ _ _ => pdts_nil) (fun _ _ _ _ _ => (pd_tup (da_cons pd_str (da_cons (pd_bo false oi_add pd_int (pd_d (D_law_draw T) draw_ok hR (by decide) hG pass0 (by rfl) (da_cons (dv 0) (da_cons (dv 1) da_nil)))) (da_cons (dv 2) da_nil))))) (by decide))) (pd_lst false (da_cons (pd_tup (da_cons pd_str (da_cons pd_int (da_cons (pd_ct false bi_list T.b_list (da_cons (dv 2) da_nil)) da_nil)))) (da_cons (pd_tup (da_cons pd_str (da_cons (pd_idx (dv 3) pd_int (fun _ _ => rfl)) (da_cons (pd_slice false (dv 2) (pdo_some pd_int) pdo_none) da_nil)))) da_nil)))))
      (pdss_cut 11 (pds_set (i := 5) sc_law_papers_right.nd rfl (Or.inl rfl) (pd_bo false oi_add (dv 5) (pd_lst false (da_cons (pd_tup (da_cons pd_str (da_cons (pd_idx (dv 3) pd_int (fun _ _ => rfl)) (da_cons (pd_revS false (dv 2)) da_nil)))) (da_cons (pd_tup (da_cons pd_str (da_cons (pd_idx (dv 3) pd_int (fun _ _ => rfl)) (da_cons (pd_bo false oi_add (dv 2) (pd_tup (da_cons pd_int da_nil))) da_nil)))) (da_cons (pd_tup (da_cons pd_str (da_cons (pd_idx (dv 3) pd_int (fun _ _ => rfl)) (da_cons (pd_bo false oi_mulT (dv 2) pd_int) da_nil)))) (da_cons pd_non (da_cons pd_int (da_cons (pd_tup da_nil) (da_cons (pd_dnew false) (da_cons pd_str da_nil)))))))))))
      (pdss_cons (pds_set (i := 7) sc_law_papers_right.nd rfl (Or.inl rfl) pd_int)
      (pdss_cons (pds_for 11 PassesOwn.never rfl (pdi_seq (pd_bo false oi_add (dv 5) (pd_lc (own := [("turn", 6)]) 11 false rfl sc_law_papers_right.nd (pdi_range1 T.b_range (da_cons pd_int da_nil)) (blkOk_by (N := ["pot", "count", "parts", "due", "other", "values", "turn", "right", "value", "is_so", "shown"]) (sc := defScope s_law_papers_right) (by decide +kernel)) (fun _ _ _ _ _ => (pdg_name (i := 6) sc_law_papers_right.nd rfl (Or.inl rfl))) (fun _ _ _ _ _ => pdts_nil) (fun _ _ _ _ _ => (pd_d (D_law_bent T) cT_ok hR (by decide) hG pass0 (by rfl) (da_cons (dv 0) (da_cons (dv 3) da_nil)))) (by decide)))) (pdg_name (i := 8) sc_law_papers_right.nd rfl (Or.inl rfl))
      (pdss_cons (pds_par (i := 9) (j := 10) rfl sc_law_papers_right.nd rfl rfl (by decide) rfl rfl (da_cons (pd_d (D_law_is_paper T) cP_ok hR (by decide) hG pass0 (by rfl) (da_cons (dv 1) (da_cons (dv 2) (da_cons (dv 8) da_nil)))) (da_cons (pd_cb false (bi_reprD hu hG) T.b_repr (da_cons (dv 8) da_nil)) da_nil)) (by rfl))
        (pdss_cons (pds_if (pdt_w (pdw_or (pdt_co (oi_ne hu) (pd_cb false (bi_reprD hu hG) T.b_repr (da_cons (pd_lst false (da_cons (pd_d (D_is_prime_paper T) cP_ok hR (by decide) hG pass0 (by rfl) (da_cons (dv 1) (da_cons (dv 8) da_nil))) (da_cons (pd_dk0 (D_is_prime_paper T) cP_ok hR (by decide) hG pass0 w_is_prime_paper_0_value_count (by rfl) (pdk_cons (dv 8) (pdk_cons (dv 1) pdk_nil))) da_nil))) da_nil)) (pd_cb false (bi_reprD hu hG) T.b_repr (da_cons (pd_lst false (da_cons (dv 9) (da_cons (dv 9) da_nil))) da_nil)) (nomark _)) (pdw_or1 (pdt_co (oi_ne hu) (pd_cb false (bi_reprD hu hG) T.b_repr (da_cons (dv 8) da_nil)) (dv 10) (nomark _)))))
        (pdss_one (pds_ret pd_bl))
        pdss_nil)
        (pdss_cons (pds_set (i := 7) sc_law_papers_right.nd rfl (Or.inl rfl) (pd_bo false oi_add (dv 7) (pd_if (pdt_val (dv 9)) pd_int pd_int)))
        (pdss_one (pds_if (pdt_w (pdw_and (pdt_val (dv 9)) (pdw_and1 (pdt_co (oi_ne hu) (pd_idx (dv 8) pd_int (fun _ _ => rfl)) (pd_idx (dv 3) pd_int (fun _ _ => rfl)) (nomark _)))))
        (pdss_one (pds_ret pd_bl))
        pdss_nil))))))
      (pdss_one (pds_ret (pd_co oi_gt (dv 7) pd_int (nomark _)))))))))))))), fun ds Q h => ?_⟩
    obtain ⟨c, rfl, c2, c3, q⟩ := h
    obtain ⟨hq, hl⟩ := parts_bound c2 c3
    refine ⟨c - 1, rfl, by omega, by omega, c, rfl, c2, c3, fun D hD => ?_⟩
    obtain ⟨vD, sD⟩ := due_val c2 c3 hD
    refine ⟨_, rfl, c2, c3, fun D1 hD1 => ?_⟩
    rw [hD1.uniq hD]
    refine ⟨rfl, rfl, _, rfl, c2, c3, fun D2 hD2 => ?_⟩
    rw [hD2.uniq hD]
    refine ⟨sz 2 (by omega), vals2 vD (by omega), sz 2 (by omega), vals2 vD (by omega), ?_⟩
    generalize (PyData.list [D, D]).shown = s
    refine diteN (fun c => absurd rfl c) fun _ => ?_
    obtain ⟨u, v, rfl, h1, h0⟩ := due_form c2 c3 hD
    have uv : ∃ i : Int, u = .int i ∧ 0 ≤ i ∧ i ≤ 10000 := by
      cases hp : primeB c with
      | true =>
        obtain ⟨g, e, hg, _⟩ := h1 hp
        exact ⟨g, e, by have := hg.1; omega, by have := hg.2.1; omega⟩
      | false =>
        obtain ⟨r, hr, hlt, e, _⟩ := h0 hp
        exact ⟨r, e, by have := hr.lo; omega, by omega⟩
    obtain ⟨i, rfl, i0, i1⟩ := uv
    generalize hw : (if primeB c = true then ("prime" : Str) else "parts") = w at vD sD hD
    have wp : decide (w = "prime") = primeB c := by
      rw [← hw]
      cases primeB c <;> decide
    have wq : decide (w = "parts") = !primeB c := by
      rw [← hw]
      cases primeB c <;> decide
    refine ⟨fun ε M => ε = .lit [some (.o 0), some (.d (.int c)), some (.d (.tuple (il (partsL (c - 1))))), some (.d (.tuple [.str w, .int i, v])), none, none, none, none, none, none, none] ∧ M = [.pot], ?_, ?_⟩
    · refine dite2 (fun z => ?_) fun _ => ⟨rfl, rfl⟩
      refine ⟨_, rfl, ?_⟩
      have e : primeD (.int c) = primeB c := by
        show (decide (3 ≤ c) && decide (c ≤ 9973) && primeB c) = primeB c
        rw [decide_eq_true (by omega), decide_eq_true (by omega)]
        rfl
      rw [e]
      exact diteN (p := primeB c = decide (w = "prime")) (fun z => absurd wp.symm z) fun _ => ⟨rfl, rfl⟩
    rintro ε M ⟨rfl, rfl⟩
    refine ⟨fun ε M => ∃ O, ε = .lit [some (.o 0), some (.d (.int c)), some (.d (.tuple (il (partsL (c - 1))))), some (.d (.tuple [.str w, .int i, v])), some (.d O), none, none, none, none, none, none] ∧ M = [.pot] ∧ Val 70 O, ?_, ?_⟩
    · refine dite2 (fun z => ?_) fun z => ?_
      · rw [decide_eq_true z] at wq
        have np : primeB c = false := by
          cases h : primeB c with
          | false => rfl
          | true => rw [h] at wq; cases wq
        obtain ⟨r, hr, hlt, e, rfl⟩ := h0 np
        obtain ⟨q0, q1⟩ := quot_bound c2 hr
        exact ⟨sz 3 (by omega), _, rfl, rfl, (val_two (i := c / r) (j := i) wk_parts (by decide) (by omega) (by omega) (by omega) (by omega)).1.mono (by omega)⟩
      · exact ⟨sz 3 (by omega), _, rfl, rfl, (val_list (i := c - 1) (.inr rfl) wk_prime (by decide) (by omega) (by omega) hq (by omega)).1⟩
    rintro ε M ⟨O, rfl, rfl, vO⟩
    have iN : ∀ {j : Int}, -10000 ≤ j → j ≤ 10000 → Val 200 (.tuple [.str "prime", .int j, .tuple (il (partsL (c - 1)))]) := fun a b => (val_list (.inr rfl) wk_prime (by decide) a b hq (by omega)).1.mono (by omega)
    have iP : ∀ {j k : Int}, -10000 ≤ j → j ≤ 10000 → -10000 ≤ k → k ≤ 10000 → Val 200 (.tuple [.str "parts", .int j, .int k]) := fun a b x y => (val_two wk_parts (by decide) a b x y).1.mono (by omega)
    refine ⟨sz 1 (by omega), sz _ (by show 3 + 1 ≤ 1000000; omega), sz 3 (by omega), sz 3 (by omega), sz 3 (by omega), sz 3 (by omega), sz 9 (by omega), ?_⟩
    generalize hV : [PyData.tuple [.str w, .int i, v], _, _, _, _, _, _, _, _] = V
    have vV : (∀ x ∈ V, Val 200 x) ∧ V.length = 9 ∧ V[0]? = some (.tuple [.str w, .int i, v]) := by
      rw [← hV]
      refine ⟨fun x hx => ?_, rfl, rfl⟩
      have bv : (PyData.str w).bulk + 1 + ((PyData.int i).bulk + 1 + (v.bulk + 1 + 0)) ≤ 70 := by
        have := vD.bulk
        simpa only [PyData.bulk, PyData.bulkAll] using this
      have e2 : cutD [PyData.str w, .int i, v] none (some 2) = [.str w, .int i] := rfl
      have i3 : ∀ y ∈ [PyData.str w, .int i, v], Shp BIG 4 y := fun y hy => by
        obtain ⟨j, e, h⟩ := vD.shp.item (.inr rfl) hy
        cases e
        exact h
      have from' : ∀ {d : PyData} {ys : List PyData}, Sq d ys → (∀ y ∈ ys, y ∈ [PyData.str w, .int i, v] ∨ y = .int 0) → PyData.bulkAll ys ≤ 200 → (∀ w a b, d ≠ .tuple [w, a, b]) → Val 200 d := fun e h hb hn => .non3 (.seq e fun y hy => (h y hy).elim (i3 y) fun z => by
        rw [z]
        exact Shp.sc (.inr (.inr (.inl ⟨0, rfl, by decide, by decide⟩)))) (by rw [bulk_seq e]; exact hb) hn
      simp only [List.mem_cons, List.not_mem_nil, or_false] at hx
      rcases hx with rfl | rfl | rfl | rfl | rfl | rfl | rfl | rfl | rfl
      · exact vD.mono (by omega)
      · exact from' (.inl rfl) (fun y hy => .inl hy) (by simp only [PyData.bulkAll]; omega) fun w a b e => nomatch e
      · rw [e2]
        exact from' (.inr rfl) (fun y hy => .inl (by
          simp only [List.mem_cons, List.not_mem_nil, or_false] at hy ⊢
          rcases hy with z | z
          · exact .inl z
          · exact .inr (.inl z))) (by simp only [PyData.bulkAll]; omega) fun w a b e => nomatch e
      · refine from' (ys := [PyData.str w, .int i, v, .int 0]) (.inr rfl) (fun y hy => ?_) ?_ fun w a b e => nomatch e
        · simp only [List.mem_cons, List.not_mem_nil, or_false] at hy ⊢
          rcases hy with z | z | z | z
          · exact .inl (.inl z)
          · exact .inl (.inr (.inl z))
          · exact .inl (.inr (.inr z))
          · exact .inr z
        · have e0 : (PyData.int 0).bulk = 0 := by simp only [PyData.bulk]
          simp only [PyData.bulkAll]
          omega
      · exact vO.mono (by omega)
      · exact iN (by omega) (by omega)
      · exact iP (by omega) (by omega) (by omega) (by omega)
      · exact iP (by omega) (by omega) (by omega) (by omega)
      · exact iP (by omega) (by omega) (by omega) (by omega)
    clear hV
    obtain ⟨vV, lV, V0⟩ := vV
    refine ⟨by decide, ?_⟩
    refine lc_any (fun x => Val 200 x) (by decide) (fun k x hx R' h => ⟨rfl, _, rfl, by omega, by omega, fun z z0 z1 => ⟨sz 3 (by omega), rfl, h _ (iN (by omega) (by omega))⟩⟩) fun ys ly hy => ?_
    rw [rangeD_len] at ly
    have ly : ys.length = 6 := ly
    refine ⟨sz _ (by rw [lV, ly]; decide), sz 3 (by omega), sz 3 (by omega), sz 2 (by omega), sz _ (by rw [List.length_append, lV, ly]; show 9 + 6 + 2 ≤ 1000000; omega), ?_⟩
    refine ⟨fun ε M => ∃ (V : List PyData) (o6 : Option DV), ε = .lit [some (.o 0), some (.d (.int c)), some (.d (.tuple (il (partsL (c - 1))))), some (.d (.tuple [.str w, .int i, v])), some (.d O), some (.d (.list V)), o6, none, none, none, none] ∧ M = [.pot] ∧ (∀ x ∈ V, Val 200 x) ∧ V.length = 25 ∧ V[0]? = some (.tuple [.str w, .int i, v]), ?_, ?_⟩
    · have e1 : cutD (il (partsL (c - 1))) (some 1) none = il ((partsL (c - 1)).drop 1) := by
        have := cut_drop (il (partsL (c - 1))) 1
        rwa [il_drop] at this
      have e2 : (il (partsL (c - 1))).reverse = il (partsL (c - 1)).reverse := by rw [il, il, List.map_reverse]
      have e3 : il (partsL (c - 1)) ++ [PyData.int 1] = il (partsL (c - 1) ++ [1]) := by rw [← il_app]; rfl
      have e4 : (List.replicate (Int.toNat 2) (il (partsL (c - 1)))).flatten = il (partsL (c - 1) ++ partsL (c - 1)) := by
        show il (partsL (c - 1)) ++ (il (partsL (c - 1)) ++ []) = _
        rw [List.append_nil, il_app]
      have iL : ∀ {ps : List Int} {d : PyData} {j : Int}, Sq d (il ps) → -10000 ≤ j → j ≤ 10000 → (∀ q ∈ ps, -10000 ≤ q ∧ q ≤ 10000) → ps.length ≤ 40 → Val 200 (.tuple [.str "prime", .int j, d]) := fun e a b h l => (val_list e wk_prime (by decide) a b h l).1.mono (by omega)
      have sc : ∀ {x : PyData}, Scal BIG x → x.bulk ≤ 200 → (∀ w a b, x ≠ .tuple [w, a, b]) → Val 200 x := fun a b d => .non3 (Shp.sc a) b d
      refine ⟨sz 3 (by omega), sz 1 (by omega), sz _ (by rw [il_len]; show (partsL (c - 1)).length + 1 ≤ 1000000; omega), sz 3 (by omega), ⟨by decide, by decide, by rw [il_len]; omega⟩, sz 3 (by omega), sz 0 (by omega), sz 8 (by omega), sz _ (by rw [List.length_append, List.length_append, lV, ly]; show 9 + 6 + 2 + 8 ≤ 1000000; omega), ?_⟩
      refine ⟨_, _, rfl, rfl, fun x hx => ?_, by rw [List.length_append, List.length_append, List.length_append, lV, ly]; rfl, ?_⟩
      · rcases List.mem_append.mp hx with hx | hx
        · rcases List.mem_append.mp hx with hx | hx
          · rcases List.mem_append.mp hx with hx | hx
            · exact vV x hx
            · exact hy x hx
          · simp only [List.mem_cons, List.not_mem_nil, or_false] at hx
            rcases hx with rfl | rfl
            · exact iL (.inl rfl) (by omega) (by omega) hq (by omega)
            · rw [e1]
              exact iL (.inr rfl) (by omega) (by omega) (fun q h => hq q (List.mem_of_mem_drop h)) (by rw [List.length_drop]; omega)
        · simp only [List.mem_cons, List.not_mem_nil, or_false] at hx
          rcases hx with rfl | rfl | rfl | rfl | rfl | rfl | rfl | rfl
          · rw [e2]
            exact iL (.inr rfl) (by omega) (by omega) (fun q h => hq q (List.mem_reverse.mp h)) (by rw [List.length_reverse]; omega)
          · rw [e3]
            refine iL (.inr rfl) (by omega) (by omega) (fun q h => ?_) (by rw [List.length_append]; show _ + 1 ≤ _; omega)
            rcases List.mem_append.mp h with h | h
            · exact hq q h
            · rw [List.mem_singleton.mp h]
              omega
          · rw [e4]
            exact iL (.inr rfl) (by omega) (by omega) (fun q h => (List.mem_append.mp h).elim (hq q) (hq q)) (by rw [List.length_append]; omega)
          · exact sc (.inl rfl) (by decide) fun w a b e => nomatch e
          · exact sc (.inr (.inr (.inl ⟨0, rfl, by decide, by decide⟩))) (by decide) fun w a b e => nomatch e
          · exact .non3 (Shp.mono (k := 1) (Int.le_refl _) (by omega) (Shp.ints (g := []) (.inr rfl) fun n hn => nomatch hn)) (by decide) fun w a b e => nomatch e
          · exact sc (.inr (.inr (.inr (.inr rfl)))) (by decide) fun w a b e => nomatch e
          · exact sc (.inr (.inr (.inr (.inl ⟨_, rfl, wk_prime⟩)))) (by decide) fun w a b e => nomatch e
      · rw [List.getElem?_append_left (by rw [List.length_append, List.length_append, lV]; omega), List.getElem?_append_left (by rw [List.length_append, lV]; omega), List.getElem?_append_left (by rw [lV]; omega)]
        exact V0
    clear V0 lV vV hy ly
    rintro ε M ⟨V, o6, rfl, rfl, hV, lV, V0⟩
    refine ⟨by decide, ?_⟩
    refine lc_any (fun x => Val 200 x) (by decide) (fun k x hx R' h => ?_) fun ys ly hy => ?_
    · refine ⟨rfl, _, 70, 10000, rfl, sD, vD.bulk, by omega, by omega, by omega, fun r hr hb hl => ⟨rfl, h r ⟨hr.mono (Int.le_refl _) (show 3 + 1 ≤ 5 by omega), by omega, hl⟩⟩⟩
    rw [rangeD_len] at ly
    have ly : ys.length = 12 := ly
    have hW : ∀ x ∈ V ++ ys, Val 200 x := fun x hx => (List.mem_append.mp hx).elim (hV x) (hy x)
    refine ⟨sz _ (by rw [lV, ly]; decide), fun k ε M => ∃ (n : Int) (o6 o8 o9 o10 : Option DV), ε = .lit [some (.o 0), some (.d (.int c)), some (.d (.tuple (il (partsL (c - 1))))), some (.d (.tuple [.str w, .int i, v])), some (.d O), some (.d (.list V)), o6, some (.d (.int n)), o8, o9, o10] ∧ M = [.pot] ∧ 0 ≤ n ∧ (0 < k → 0 < n), ⟨0, _, _, _, _, rfl, rfl, by omega, by omega⟩, ?_, ?_⟩
    · rintro k x ε M hx ⟨n, o6, o8, o9, o10, rfl, rfl, n0, nk⟩
      have vx := hW x (List.mem_of_getElem? hx)
      have right0 : k = 0 → paperB c x = true := fun e => by
        subst e
        rw [List.getElem?_append_left (by rw [lV]; omega), V0] at hx
        rw [← Option.some.inj hx]
        exact due_right c2 c3 hD
      refine ⟨_, x, rfl, c2, c3, vx.ask (by omega), vx.can (by omega), _, x, rfl, c2, c3, vx.ask (by omega), rfl, rfl, _, x, rfl, c2, c3, vx.ask (by omega), sz 2 (by omega), bools2 _ _, sz 2 (by omega), bools2 _ _, ?_⟩
      generalize (PyData.list [.bool (paperB c x), .bool (paperB c x)]).shown = s2
      refine diteN (fun c => absurd rfl c) fun _ => ⟨vx.can (by omega), ?_⟩
      generalize x.shown = s1
      refine diteN (fun c => absurd rfl c) fun _ => ?_
      cases hb : paperB c x with
      | false =>
        refine ⟨n + 0, _, _, _, _, rfl, rfl, by omega, fun _ => ?_⟩
        rcases Nat.eq_zero_or_pos k with z | z
        · rw [right0 z] at hb
          cases hb
        · have := nk z
          omega
      | true =>
        obtain ⟨a, b, rfl⟩ := one_word c2 c3 hb
        rw [hw]
        exact diteN (p := w = w) (fun z => absurd rfl z) fun _ => ⟨n + 1, _, _, _, _, rfl, rfl, by omega, fun _ => by omega⟩
    · rintro ε M ⟨n, o6, o8, o9, o10, rfl, rfl, n0, nk⟩
      have := nk (by rw [List.length_append, lV]; omega)
      have q2 : Q (.bool (decide (0 < n))) := by
        rw [decide_eq_true this]
        exact q
      exact ⟨rfl, q2⟩
end

end Eqr
set_option maxHeartbeats 1000000
namespace Eqr
open PySem PySem.Spec L2 Ow Dl
section
variable {P : Program} {w : World} {K : PySem.W.Frag} {mg : Str → Option Value} {base : Heap}
def f_heard : DF := fun ds Q => ∃ p a, ds = [.int p, .int a] ∧ Pr p ∧ Nm p a ∧ (sqL p p.toNat a ≠ [] → Q (.list (il (sqL p p.toNat a)))) ∧ (sqL p p.toNat a = [] → Q (.str "none"))
theorem D_law_heard (T : Tx K mg) : Ow.Df P w K mg base CX0 7 "_law_heard" s_law_heard ["prime", "one"] (spP K (f_heard)) := by
  refine df_P T.f_law_heard sc_law_heard bd_law_heard (fun ds Q h => ?_) (fun cdv A outer s H E f hG hR => ?_)
  · obtain ⟨p, a, rfl, hp, ha, q1, q0⟩ := h
    rfl
  · have hu := hR.units
    have hu1 := hu_of hR
    refine ⟨_, (pdss_cons (pds_set (i := 2) sc_law_heard.nd rfl (Or.inl rfl) pd_non)
      (pdss_cons (pds_try rfl rfl (by rfl) T.m_NoSquare_NoSquare.snd (fun pn xe po =>
      (pdss_one (pds_setX (i := 2) sc_law_heard.nd rfl (Or.inl rfl) (pdx_d (D_halves T) cOXX_ok hR (by decide) hG (by rfl) (da_cons (dv 0) (da_cons (dv 1) da_nil))))))
      (fun a oe pn => (pdss_one (pds_set (i := 2) sc_law_heard.nd rfl (Or.inl rfl) pd_str))))
      (pdss_one (pds_ret (dv 2))))), fun ds Q h => ?_⟩
    obtain ⟨p, a, rfl, hp, ha, q1, q0⟩ := h
    refine ⟨_, _, rfl, hp, ha, fun h => q1 h, fun h => ⟨true, T.m_NoSquare_NoSquare, fun _ => q0 h, fun z => nomatch z⟩⟩
end

end Eqr
set_option maxHeartbeats 1000000
namespace Eqr
open PySem PySem.Spec L2 Ow Dl
/-! ### squares by a dict -/
structure Sq1 (p : Int) (i : Nat) (M : Mem) (kvs : List (Key × Nat)) : Prop where
  pot : M[0]? = some .pot
  rd : M[1]? = some (.rdc kvs)
  nd : (kvs.map (·.1)).Nodup
  len : kvs.length ≤ i
  find : ∀ q, (∃ j, findR kvs (.inl q) = some j ∧ 2 ≤ j ∧ M[j]? = some (.lst (il (sqL p i q))) ∧ sqL p i q ≠ []) ∨ (findR kvs (.inl q) = none ∧ sqL p i q = [])
  inj : ∀ q q' j, findR kvs (.inl q) = some j → findR kvs (.inl q') = some j → q = q'
  keys : ∀ kv ∈ kvs, ∃ q, kv.1 = .inl q
theorem findR_app {kvs : List (Key × Nat)} {k k' : Key} {j : Nat} : findR (kvs ++ [(k', j)]) k = (findR kvs k).or (if k' = k then some j else none) := by
  unfold findR
  rw [List.find?_append]
  cases h : kvs.find? (fun kv => decide (kv.1 = k)) with
  | some x => rfl
  | none =>
    by_cases e : k' = k
    · rw [if_pos e, List.find?_cons_of_pos (by simpa using e)]
      rfl
    · rw [if_neg e, List.find?_cons_of_neg (by simpa using e)]
      rfl
theorem findR_none {α : Type} {k : Key} : ∀ {kvs : List (Key × α)}, findR kvs k = none ↔ k ∉ kvs.map (·.1)
  | [] => by simp [findR]
  | (a, b) :: kvs => by
    have ih := findR_none (k := k) (kvs := kvs)
    unfold findR at ih ⊢
    by_cases e : a = k
    · rw [List.find?_cons_of_pos (by simpa using e)]
      simp [e]
    · rw [List.find?_cons_of_neg (by simpa using e), ih, List.map_cons, List.mem_cons, not_or]
      exact ⟨fun h => ⟨fun z => e z.symm, h⟩, fun h => h.2⟩
theorem Sq1.zero {p : Int} : Sq1 p 0 [.pot, .rdc []] [] := ⟨rfl, rfl, List.nodup_nil, Nat.le_refl _, fun q => .inr ⟨rfl, rfl⟩, fun q q' j h => (nomatch (show none = some j from h)), fun kv h => nomatch h⟩
theorem sqL_len {p q : Int} {i : Nat} : (sqL p i q).length ≤ i := by
  unfold sqL rangeL
  refine Nat.le_trans (List.length_filter_le _ _) ?_
  rw [List.length_map, List.length_range]
  exact Nat.le_refl _
/-- the key is known -/
theorem Sq1.old {p : Int} {i : Nat} {M : Mem} {kvs : List (Key × Nat)} {j : Nat} (h : Sq1 p i M kvs) (hj : findR kvs (Sum.inl ((i : Int) * (i : Int) % p)) = some j) :
    M[j]? = some (Cell.lst (il (sqL p i ((i : Int) * (i : Int) % p)))) ∧ Sq1 p (i + 1) ((M ++ [Cell.lst []]).set j (Cell.lst (il (sqL p i ((i : Int) * (i : Int) % p)) ++ [PyData.int i]))) kvs := by
  generalize hq : (i : Int) * (i : Int) % p = q0 at hj ⊢
  have f0 := h.find q0
  rcases f0 with ⟨j', e1, j2, e2, e3⟩ | ⟨e1, _⟩
  · rw [hj] at e1
    cases e1
    have jl := (List.getElem?_eq_some_iff.mp e2).1
    have at' : ∀ k c, M[k]? = some c → k ≠ j → ((M ++ [Cell.lst []]).set j (Cell.lst (il (sqL p i q0) ++ [PyData.int i])))[k]? = some c := fun k c e n => by
      rw [List.getElem?_set_ne (fun z => n z.symm), List.getElem?_append_left (List.getElem?_eq_some_iff.mp e).1]
      exact e
    refine ⟨e2, at' 0 _ h.pot (by omega), at' 1 _ h.rd (by omega), h.nd, Nat.le_succ_of_le h.len, fun q => ?_, h.inj, h.keys⟩
    rw [sqL_succ, hq]
    by_cases e : q0 = q
    · subst e
      rw [if_pos rfl]
      refine .inl ⟨j, hj, j2, ?_, by simp⟩
      rw [List.getElem?_set_self (by rw [List.length_append]; omega), ← il_app]
      rfl
    · rw [if_neg e]
      rcases h.find q with ⟨k, a, b, c, d⟩ | z
      · exact .inl ⟨k, a, b, at' k _ c fun z => e (h.inj q0 q j hj (by rw [← z]; exact a)), d⟩
      · exact .inr z
  · rw [hj] at e1
    cases e1
/-- a new key -/
theorem Sq1.fresh {p : Int} {i : Nat} {M : Mem} {kvs : List (Key × Nat)} (h : Sq1 p i M kvs) (hj : findR kvs (Sum.inl ((i : Int) * (i : Int) % p)) = none) :
    Sq1 p (i + 1) (((M ++ [Cell.lst []]).set 1 (Cell.rdc (kvs ++ [(Sum.inl ((i : Int) * (i : Int) % p), M.length)]))).set M.length (Cell.lst ([] ++ [PyData.int i]))) (kvs ++ [(Sum.inl ((i : Int) * (i : Int) % p), M.length)]) := by
  generalize hq : (i : Int) * (i : Int) % p = q0 at hj ⊢
  have l1 := (List.getElem?_eq_some_iff.mp h.rd).1
  have at' : ∀ k c, M[k]? = some c → k ≠ 1 → (((M ++ [Cell.lst []]).set 1 (Cell.rdc (kvs ++ [(Sum.inl q0, M.length)]))).set M.length (Cell.lst ([] ++ [PyData.int i])))[k]? = some c := fun k c e n => by
    have kl := (List.getElem?_eq_some_iff.mp e).1
    rw [List.getElem?_set_ne (by omega), List.getElem?_set_ne (fun z => n z.symm), List.getElem?_append_left kl]
    exact e
  have nil0 : sqL p i q0 = [] := by
    rcases h.find q0 with ⟨j, a, _⟩ | ⟨_, z⟩
    · rw [hj] at a
      cases a
    · exact z
  have lt : ∀ q j, findR kvs (.inl q) = some j → j < M.length := fun q j e => by
    rcases h.find q with ⟨k, a, b, c, d⟩ | ⟨z, _⟩
    · rw [e] at a
      cases a
      exact (List.getElem?_eq_some_iff.mp c).1
    · rw [e] at z
      cases z
  refine ⟨at' 0 _ h.pot (by omega), ?_, ?_, by rw [List.length_append]; have := h.len; show _ + 1 ≤ _; omega, fun q => ?_, fun q q' j e1 e2 => ?_, fun kv hkv => ?_⟩
  · rw [List.getElem?_set_ne (by omega), List.getElem?_set_self (by rw [List.length_append]; omega)]
  · rw [List.map_append, List.nodup_append]
    refine ⟨h.nd, by simp, fun x hx y hy => ?_⟩
    have : y = Sum.inl q0 := by simpa using hy
    subst this
    exact fun e => findR_none.mp hj (e ▸ hx)
  · rw [sqL_succ, hq, findR_app]
    by_cases e : q0 = q
    · subst e
      rw [if_pos rfl, hj, if_pos rfl, nil0]
      refine .inl ⟨M.length, rfl, by omega, ?_, by simp⟩
      rw [List.getElem?_set_self (by rw [List.length_set, List.length_append]; show _ < _ + 1; omega)]
      rfl
    · rw [if_neg e, if_neg (fun z => e (Sum.inl.inj z)), Option.or_none]
      rcases h.find q with ⟨k, a, b, c, d⟩ | z
      · exact .inl ⟨k, a, b, at' k _ c (by omega), d⟩
      · exact .inr z
  · rw [findR_app] at e1 e2
    by_cases c1 : q0 = q
    · by_cases c2 : q0 = q'
      · rw [← c1, c2]
      · subst c1
        rw [hj, if_pos rfl] at e1
        rw [if_neg (fun z => c2 (Sum.inl.inj z)), Option.or_none] at e2
        have := lt q' j e2
        cases e1
        omega
    · by_cases c2 : q0 = q'
      · subst c2
        rw [hj, if_pos rfl] at e2
        rw [if_neg (fun z => c1 (Sum.inl.inj z)), Option.or_none] at e1
        have := lt q j e1
        cases e2
        omega
      · rw [if_neg (fun z => c1 (Sum.inl.inj z)), Option.or_none] at e1
        rw [if_neg (fun z => c2 (Sum.inl.inj z)), Option.or_none] at e2
        exact h.inj q q' j e1 e2
  · rcases List.mem_append.mp hkv with z | z
    · exact h.keys kv z
    · rw [List.mem_singleton.mp z]
      exact ⟨q0, rfl⟩
def keyI : Key → Int
  | .inl q => q
  | .inr _ => 0
theorem Sq1.many {p : Int} {M : Mem} {kvs : List (Key × Nat)} (hp : Pr p) (h : Sq1 p p.toNat M kvs) : (kvs.length : Int) = (p + 1) / 2 := by
  have e : ∀ q, q ∈ (kvs.map (·.1)).map keyI ↔ Sum.inl q ∈ kvs.map (·.1) := fun q => by
    constructor
    · intro hm
      obtain ⟨k, hk, e⟩ := List.mem_map.mp hm
      obtain ⟨kv, hkv, e2⟩ := List.mem_map.mp hk
      obtain ⟨q', e3⟩ := h.keys kv hkv
      rw [← e2, e3] at e hk
      have : q' = q := e
      rw [← this]
      exact hk
    · intro hm
      exact List.mem_map.mpr ⟨_, hm, rfl⟩
  have nd : ((kvs.map (·.1)).map keyI).Nodup := by
    have key : ∀ l : List Key, l.Nodup → (∀ k ∈ l, ∃ q, k = .inl q) → (l.map keyI).Nodup := by
      intro l
      induction l with
      | nil => intro _ _; exact List.nodup_nil
      | cons a l ih =>
        intro n hk
        have n := List.nodup_cons.mp n
        rw [List.map_cons, List.nodup_cons]
        refine ⟨fun hm => ?_, ih n.2 fun k h => hk k (List.mem_cons_of_mem _ h)⟩
        obtain ⟨b, hb, e⟩ := List.mem_map.mp hm
        obtain ⟨q, rfl⟩ := hk a List.mem_cons_self
        obtain ⟨q', rfl⟩ := hk b (List.mem_cons_of_mem _ hb)
        have : q' = q := e
        subst this
        exact n.1 hb
    refine key _ h.nd fun k hk => ?_
    obtain ⟨kv, hkv, e2⟩ := List.mem_map.mp hk
    rw [← e2]
    exact h.keys kv hkv
  have := squares_many hp nd fun q => by
    rw [e q]
    rcases h.find q with ⟨j, a, b, c, d⟩ | ⟨z, z2⟩
    · refine ⟨fun _ => d, fun _ => ?_⟩
      by_cases m : Sum.inl q ∈ kvs.map (·.1)
      · exact m
      · rw [findR_none.mpr m] at a
        cases a
    · exact ⟨fun m => absurd m (findR_none.mp z), fun m => absurd z2 m⟩
  rwa [List.length_map, List.length_map] at this
/-- when all are there -/
structure Sq2 (p : Int) (M : Mem) (kvs : List (Key × Nat)) : Prop where
  pot : M[0]? = some .pot
  rd : M[1]? = some (.rdc kvs)
  find : ∀ q, (∃ j, findR kvs (.inl q) = some j ∧ 2 ≤ j ∧ look M (.o j) = some (.list (il (sqL p p.toNat q))) ∧ sqL p p.toNat q ≠ []) ∨ (findR kvs (.inl q) = none ∧ sqL p p.toNat q = [])
theorem Sq1.to2 {p : Int} {M : Mem} {kvs : List (Key × Nat)} (h : Sq1 p p.toNat M kvs) : Sq2 p M kvs := ⟨h.pot, h.rd, fun q => by
  rcases h.find q with ⟨j, a, b, c, d⟩ | z
  · exact .inl ⟨j, a, b, by show (M[j]?).bind cellD = _; rw [c]; rfl, d⟩
  · exact .inr z⟩
theorem look_set {M : Mem} {j k : Nat} {x y : PyData} (hj : look M (.o j) = some x) (hk : look M (.o k) = some y) : look (M.set j (.fz x)) (.o k) = some y := by
  have hj' : (M[j]?).bind cellD = some x := hj
  have hk' : (M[k]?).bind cellD = some y := hk
  show ((M.set j (.fz x))[k]?).bind cellD = some y
  by_cases e : j = k
  · subst e
    have jl : j < M.length := by
      cases c : M[j]? with
      | none => rw [c] at hj'; cases hj'
      | some v => exact (List.getElem?_eq_some_iff.mp c).1
    rw [List.getElem?_set_self jl]
    rw [hj'] at hk'
    exact hk'
  · rw [List.getElem?_set_ne e]
    exact hk'
theorem Sq2.fz {p : Int} {M : Mem} {kvs : List (Key × Nat)} {j : Nat} {x : PyData} (h : Sq2 p M kvs) (j2 : 2 ≤ j) (hj : look M (.o j) = some x) : Sq2 p (M.set j (.fz x)) kvs := by
  refine ⟨by rw [List.getElem?_set_ne (by omega)]; exact h.pot, by rw [List.getElem?_set_ne (by omega)]; exact h.rd, fun q => ?_⟩
  rcases h.find q with ⟨k, a, b, c, d⟩ | z
  · exact .inl ⟨k, a, b, look_set hj c, d⟩
  · exact .inr z
theorem Sq2.app {p : Int} {M : Mem} {kvs : List (Key × Nat)} {c : Cell} (h : Sq2 p M kvs) : Sq2 p (M ++ [c]) kvs := by
  have at' : ∀ {k c'}, M[k]? = some c' → (M ++ [c])[k]? = some c' := fun {k c'} e => by rw [List.getElem?_append_left (List.getElem?_eq_some_iff.mp e).1]; exact e
  refine ⟨at' h.pot, at' h.rd, fun q => ?_⟩
  rcases h.find q with ⟨k, a, b, e, d⟩ | z
  · refine .inl ⟨k, a, b, ?_, d⟩
    have e : (M[k]?).bind cellD = _ := e
    show ((M ++ [c])[k]?).bind cellD = _
    cases g : M[k]? with
    | none => rw [g] at e; cases e
    | some v => rw [at' g]; rw [g] at e; exact e
  · exact .inr z
/-- a cell as data -/
theorem asD_look {M : Mem} {j : Nat} {x : PyData} {Q : PyData → Mem → Prop} (h : look M (.o j) = some x) (q : Q x (M.set j (.fz x))) : asD (.o j) M Q := by
  have h' : (M[j]?).bind cellD = some x := h
  cases c : M[j]? with
  | none => rw [c] at h'; cases h'
  | some v =>
    rw [c] at h'
    have h' : cellD v = some x := h'
    unfold asD asD0
    cases v with
    | lst xs => cases h'; simp only [c]; exact q
    | dct kvs => cases h'; simp only [c]; exact q
    | fz y =>
      cases h'
      simp only [c]
      have e : M.set j (.fz x) = M := by
        refine List.ext_getElem? fun k => ?_
        by_cases z : j = k
        · subst z
          rw [List.getElem?_set_self (List.getElem?_eq_some_iff.mp c).1, c]
        · rw [List.getElem?_set_ne z]
      rw [e] at q
      exact q
    | pot => cases h'
    | rls ks => cases h'
    | rdc ks => cases h'
theorem dV_at {i : Nat} {ε : DSt} {M : Mem} {Q : DK} {y : DV} (h : ε.nth i = some y) (q : Q y M) : dV i ε M Q := by
  unfold dV
  rw [h]
  exact q
theorem asD_d {x : PyData} {M : Mem} {Q : PyData → Mem → Prop} (q : Q x M) : asD (.d x) M Q := q
theorem set_app {M : Mem} {c c' : Cell} : (M ++ [c]).set M.length c' = M ++ [c'] := by
  refine List.ext_getElem? fun k => ?_
  by_cases e : M.length = k
  · subst e
    rw [List.getElem?_set_self (by rw [List.length_append]; show _ < _ + 1; omega), List.getElem?_append_right (Nat.le_refl _), Nat.sub_self]
    rfl
  · rw [List.getElem?_set_ne e]
    rcases Nat.lt_or_ge k M.length with z | z
    · rw [List.getElem?_append_left z, List.getElem?_append_left z]
    · rw [List.getElem?_eq_none (by rw [List.length_append]; show _ + 1 ≤ _; omega), List.getElem?_eq_none (by rw [List.length_append]; show _ + 1 ≤ _; omega)]
theorem look_app {M : Mem} {c : Cell} {j : Nat} {x : PyData} (h : look M (.o j) = some x) : look (M ++ [c]) (.o j) = some x := by
  have h : (M[j]?).bind cellD = some x := h
  show ((M ++ [c])[j]?).bind cellD = _
  cases g : M[j]? with
  | none => rw [g] at h; cases h
  | some v =>
    rw [List.getElem?_append_left (List.getElem?_eq_some_iff.mp g).1, g]
    rw [g] at h
    exact h
theorem cellL_at {M : Mem} {k : Nat} {xs : List PyData} {P : Nat → List PyData → Prop} (h : M[k]? = some (.lst xs)) (q : P k xs) : cellL M (.o k) P := by
  show (match M[k]? with
    | some (.lst xs) => P k xs
    | _ => False)
  rw [h]
  exact q
theorem append_at {i k : Nat} {ε : DSt} {M : Mem} {Q : DK} {xs : List PyData} {z : PyData} (hn : ε.nth i = some (.o k)) (h : M[k]? = some (.lst xs)) (hz : xs.length + 1 ≤ 1000000) (q : Q (.d .none) (M.set k (.lst (xs ++ [z])))) : mAppend (dV i) (dC z) ε M Q := by
  simp only [mAppend, dV, hn, dC]
  exact cellL_at h (asD_d (cellL_at h ⟨sz (xs.length + 1) hz, q⟩))
theorem gD_ok {i : Nat} {y : DV} {ε : DSt} {M : Mem} {Q : DSt → Mem → Prop} (q : Q (.put ε i y) M) : gD i y ε M Q := q
theorem seq_ok {a b : DS} {De : DEnds} {ε : DSt} {M : Mem} (q : a { De with nx := b De } ε M) : dSeq a b De ε M := q
theorem drop_ok {da : DE} {De : DEnds} {ε : DSt} {M : Mem} (q : da ε M fun _ M1 => De.nx ε M1) : dDrop da De ε M := q
theorem born_v {own : Bool} {z : PyData} {M : Mem} {Q : DK} (q : Q (.d z) M) : born own (.v z) M Q := by
  cases own <;> exact q
theorem repr2_look {i j : Nat} {ε : DSt} {M : Mem} {Q : DK} {x : PyData} (hn : ε.nth i = some (.o j)) (h : look M (.o j) = some x) (hc : CanD (.list [x, x])) (q : Q (.d (.str (PyData.list [x, x]).shown)) ((M.set j (.fz x)).set j (.fz x))) :
    dCB (f1 fReprD) false (dCons (dLst false (dCons (dV i) (dCons (dV i) dNil))) dNil) ε M Q := by
  simp only [dCB, dLst, dCons, dNil, dV, hn, asDs]
  exact asD_look h (asD_look (look_set h h) ⟨sz 2 (by omega), hc, q⟩)
theorem repr1_look {i j : Nat} {ε : DSt} {M : Mem} {Q : DK} {x : PyData} (hn : ε.nth i = some (.o j)) (h : look M (.o j) = some x) (hc : CanD x) (q : Q (.d (.str x.shown)) M) :
    dCB (f1 fReprD) false (dCons (dV i) dNil) ε M Q := by
  simp only [dCB, dCons, dNil, dV, hn, lks, h]
  exact ⟨hc, q⟩
theorem pw_val {p a r : Int} (hp : Pr p) (ha : Nm p a) (h : PowIs p a ((p - 1) / 2) r) : (a = 0 → r = 0) ∧ (a ≠ 0 → isSq p a = true → r = 1) ∧ (a ≠ 0 → isSq p a = false → r = p - 1) := by
  have lo := hp.lo
  obtain ⟨⟨r0, r1⟩, h1, _⟩ := h
  have c := h1 (by omega)
  have a0 := ha.1
  have a1 := ha.2
  refine ⟨fun z => ?_, fun z s => ?_, fun z s => ?_⟩
  · subst z
    rw [Int.zero_pow (by omega)] at c
    exact Cg.uniq c r0 r1 (by omega) (by omega)
  · exact Cg.uniq (c.trans ((euler hp (by omega) a1).1.mpr (of_decide_eq_true s))) r0 r1 (by omega) (by omega)
  · rcases (euler hp (show 0 < a by omega) a1).2 with y | y
    · exact absurd ((euler hp (show 0 < a by omega) a1).1.mp y) (of_decide_eq_false s)
    · exact Cg.uniq (c.trans y) r0 r1 (by omega) (by omega)
theorem wk_none : WordOk "none" := by unfold WordOk; simp only [PyData.leavesShort]; decide +kernel
theorem none_can : CanD (.list [.str "none", .str "none"]) := ((Vw.list (VwAll.of (k := 1) (m := 4) fun d hd => by
  simp only [List.mem_cons, List.not_mem_nil, or_false] at hd
  have : Vw 1 4 (.str "none") := (Shp.sc (k := 0) (.inr (.inr (.inr (.inl ⟨_, rfl, wk_none⟩)))) : Shp 10 0 (.str "none")).vw (by decide) (by decide)
  rcases hd with rfl | rfl <;> exact this)).can (by decide) (by decide))
theorem roots_vw {p a : Int} (hp : Pr p) : Vw 2 10000 (.list (il (sqL p p.toNat a))) := by
  have hi := hp.hi
  have sh : Shp 10000 1 (.list (il (sqL p p.toNat a))) := Shp.ints (.inl rfl) fun n hn => by
    obtain ⟨x0, x1, _⟩ := sqL_mem.mp hn
    omega
  have bl : (PyData.list (il (sqL p p.toNat a))).bulk ≤ 10000 := by
    rw [bulk_seq (.inl rfl : Sq (.list (il (sqL p p.toNat a))) _), bulk_ints]
    have := sqL_len (p := p) (q := a) (i := p.toNat)
    omega
  exact Shp.vw (by decide) sh bl
theorem roots_can {p a : Int} (hp : Pr p) : CanD (.list (il (sqL p p.toNat a))) := (roots_vw hp).can (by decide) (by decide)
theorem roots_can2 {p a : Int} (hp : Pr p) : CanD (.list [.list (il (sqL p p.toNat a)), .list (il (sqL p p.toNat a))]) := ((Vw.list (VwAll.of (k := 2) (m := 10000) fun d hd => by
  simp only [List.mem_cons, List.not_mem_nil, or_false] at hd
  rcases hd with rfl | rfl <;> exact roots_vw hp)).can (by decide) (by show 2 * (10000 + 1) ≤ 300000; omega))
section
variable {P : Program} {w : World} {K : PySem.W.Frag} {mg : Str → Option Value} {base : Heap}
def f_squares_right : DF := fun ds Q => ∃ p, ds = [.int p] ∧ Pr p ∧ Q (.bool true)
theorem D_law_squares_right (T : Tx K mg) : Ow.Df P w K mg base CX0 8 "_law_squares_right" s_law_squares_right ["pot", "prime"] (spT K (f_squares_right)) := by
  refine df_T T.f_law_squares_right sc_law_squares_right bd_law_squares_right (fun ds Q h => ?_) (fun cdv A outer s H E f hG hR => ?_)
  · obtain ⟨p, rfl, hp, q⟩ := h
    rfl
  · have hu := hR.units
    have hu1 := hu_of hR
    refine ⟨_, (pdss_cons (pds_set (i := 2) sc_law_squares_right.nd rfl (Or.inl rfl) pd_rnew)
      (pdss_cons (pds_for 9 PassesOwn.never rfl (pdi_range1 T.b_range (da_cons (dv 1) da_nil)) (pdg_name (i := 3) sc_law_squares_right.nd rfl (Or.inl rfl))
      (pdss_one (pds_expr (pd_append (pd_setdef (dv 2) (pd_bo false oi_mod (pd_ct false bi_int T.b_int (da_cons (pd_bo false oi_mul (dv 3) (dv 3)) da_nil)) (dv 1)) (pd_lst true da_nil) ⟨rfl, rfl, rfl, rfl⟩) (dv 3)))))
      (pdss_cons (pds_if (pdt_co (oi_ne hu) (pd_lenR T.b_len (dv 2)) (pd_bo false oi_div (pd_bo false oi_add (dv 1) pd_int) pd_int) (nomark _))
      (pdss_one (pds_ret pd_bl))
      pdss_nil)
      (pdss_cons (pds_for 9 PassesOwn.never rfl (pdi_seq (pd_bo false oi_add (pd_lst false (da_cons pd_int (da_cons pd_int (da_cons (pd_bo false oi_sub (dv 1) pd_int) (da_cons pd_int (da_cons (pd_bo false oi_mod (pd_ct false bi_int T.b_int (da_cons (pd_bo false oi_mul pd_int pd_int) da_nil)) (dv 1)) da_nil)))))) (pd_lc (own := [("turn", 4)]) 9 false rfl sc_law_squares_right.nd (pdi_range1 T.b_range (da_cons pd_int da_nil)) (blkOk_by (N := ["pot", "prime", "roots", "one", "turn", "due", "is_so", "half", "told"]) (sc := defScope s_law_squares_right) (by decide +kernel)) (fun _ _ _ _ _ => (pdg_name (i := 4) sc_law_squares_right.nd rfl (Or.inl rfl))) (fun _ _ _ _ _ => pdts_nil) (fun _ _ _ _ _ => (pd_d (D_law_draw T) draw_ok hR (by decide) hG pass0 (by rfl) (da_cons (dv 0) (da_cons (dv 1) da_nil)))) (by decide)))) (pdg_name (i := 3) sc_law_squares_right.nd rfl (Or.inl rfl))
      (pdss_cons (pds_par (i := 5) (j := 6) rfl sc_law_squares_right.nd rfl rfl (by decide) rfl rfl (da_cons (pd_getR hu1 (dv 2) (dv 3) pd_str ⟨rfl, rfl, rfl, rfl⟩) (da_cons (pd_inR hu1 (dv 3) (dv 2) rfl) da_nil)) (by rfl))
        (pdss_cons (pds_if (pdt_co (oi_ne hu) (pd_cb false (bi_reprD hu hG) T.b_repr (da_cons (pd_lst false (da_cons (pd_d (D_law_heard T) cP_ok hR (by decide) hG pass0 (by rfl) (da_cons (dv 1) (da_cons (dv 3) da_nil))) (da_cons (pd_d (D_law_heard T) cP_ok hR (by decide) hG pass0 (by rfl) (da_cons (dv 1) (da_cons (dv 3) da_nil))) da_nil))) da_nil)) (pd_cb false (bi_reprD hu hG) T.b_repr (da_cons (pd_lst false (da_cons (dv 5) (da_cons (dv 5) da_nil))) da_nil)) (nomark _))
        (pdss_one (pds_ret pd_bl))
        pdss_nil)
        (pdss_cons (pds_if (pdt_w (pdw_and (pdt_val (dv 6)) (pdw_and1 (pdt_co (oi_ne hu) (pd_cb false (bi_reprD hu hG) T.b_repr (da_cons (pd_dk0 (D_halves T) cOPX_ok hR (by decide) hG passE0 w_halves_0_one_prime (by rfl) (pdk_cons (dv 3) (pdk_cons (dv 1) pdk_nil))) da_nil)) (pd_cb false (bi_reprD hu hG) T.b_repr (da_cons (dv 5) da_nil)) (nomark _)))))
        (pdss_one (pds_ret pd_bl))
        pdss_nil)
        (pdss_cons (pds_if (pdt_co (oi_ne hu) (pd_cb false (bi_reprD hu hG) T.b_repr (da_cons (pd_lst false (da_cons (pd_d (D_is_square T) cP_ok hR (by decide) hG pass0 (by rfl) (da_cons (dv 1) (da_cons (dv 3) da_nil))) (da_cons (pd_dk0 (D_is_square T) cP_ok hR (by decide) hG pass0 w_is_square_0_one_prime (by rfl) (pdk_cons (dv 3) (pdk_cons (dv 1) pdk_nil))) da_nil))) da_nil)) (pd_cb false (bi_reprD hu hG) T.b_repr (da_cons (pd_lst false (da_cons (dv 6) (da_cons (dv 6) da_nil))) da_nil)) (nomark _))
        (pdss_one (pds_ret pd_bl))
        pdss_nil)
        (pdss_cons (pds_set (i := 7) sc_law_squares_right.nd rfl (Or.inl rfl) (pd_d (D_power T) cP_ok hR (by decide) hG pass0 (by rfl) (da_cons (dv 1) (da_cons (dv 3) (da_cons (pd_bo false oi_div (pd_bo false oi_sub (dv 1) pd_int) pd_int) da_nil)))))
        (pdss_cons (pds_if (pdt_co (oi_ne hu) (dv 7) (pd_if (pdt_co (oi_eq hu) (dv 3) pd_int (nomark _)) pd_int (pd_if (pdt_val (dv 6)) pd_int (pd_bo false oi_sub (dv 1) pd_int))) (nomark _))
        (pdss_one (pds_ret pd_bl))
        pdss_nil)
        (pdss_one (pds_if (pdt_val (dv 6))
        (pdss_cons (pds_set (i := 8) sc_law_squares_right.nd rfl (Or.inl rfl) (pd_d (D_halves T) cOX_ok hR (by decide) hG passE0 (by rfl) (da_cons (dv 1) (da_cons (dv 3) da_nil))))
          (pdss_cons (pds_expr (pd_append (dv 8) pd_non))
          (pdss_one (pds_if (pdt_co (oi_ne hu) (pd_cb false (bi_reprD hu hG) T.b_repr (da_cons (pd_d (D_halves T) cOPX_ok hR (by decide) hG passE0 (by rfl) (da_cons (dv 1) (da_cons (dv 3) da_nil))) da_nil)) (pd_cb false (bi_reprD hu hG) T.b_repr (da_cons (dv 5) da_nil)) (nomark _))
          (pdss_one (pds_ret pd_bl))
          pdss_nil))))
        pdss_nil)))))))))
      (pdss_one (pds_ret pd_bl)))))), fun ds Q h => ?_⟩
    obtain ⟨p, rfl, hp, q⟩ := h
    have lo := hp.lo
    have hi := hp.hi
    refine ⟨⟨by omega, by omega⟩, ?_⟩
    refine ⟨fun i ε M => ∃ (o3 : Option DV) (kvs : List (Key × Nat)), ε = .lit [some (.o 0), some (.d (.int p)), some (.o 1), o3, none, none, none, none, none] ∧ Sq1 p i M kvs, ⟨none, [], rfl, Sq1.zero⟩, ?_, ?_⟩
    · rintro i x ε M hx ⟨o3, kvs, rfl, h⟩
      obtain ⟨hi2, rfl⟩ := rangeD_get hx
      have kl := h.len
      rw [Int.zero_add]
      refine ⟨1, kvs, rfl, h.rd, mul_l (by omega) (by omega), by omega, sz 0 (by omega), 1, kvs, rfl, ?_, (i : Int) * (i : Int) % p, M.length, rfl, rfl, sz (kvs.length + 1) (by omega), ?_⟩
      · rw [List.getElem?_append_left (List.getElem?_eq_some_iff.mp h.rd).1]
        exact h.rd
      cases hf : findR kvs (.inl ((i : Int) * (i : Int) % p)) with
      | some j =>
        obtain ⟨e1, s2⟩ := h.old hf
        have e3 : (M ++ [Cell.lst []])[j]? = some (.lst (il (sqL p i ((i : Int) * (i : Int) % p)))) := by
          rw [List.getElem?_append_left (List.getElem?_eq_some_iff.mp e1).1]
          exact e1
        refine cellL_at e3 ?_
        refine dV_at (y := .d (.int (i : Int))) rfl (asD_d ?_)
        exact (cellL_at e3 ⟨sz ((il (sqL p i ((i : Int) * (i : Int) % p))).length + 1) (by rw [il_len]; have := sqL_len (p := p) (i := i) (q := (i : Int) * (i : Int) % p); omega), _, kvs, rfl, s2⟩)
      | none =>
        have s2 := h.fresh hf
        have e3 : ((M ++ [Cell.lst []]).set 1 (.rdc (kvs ++ [(.inl ((i : Int) * (i : Int) % p), M.length)])))[M.length]? = some (.lst []) := by
          have := (List.getElem?_eq_some_iff.mp h.rd).1
          rw [List.getElem?_set_ne (by omega), List.getElem?_append_right (Nat.le_refl _), Nat.sub_self]
          rfl
        refine cellL_at e3 ?_
        refine dV_at (y := .d (.int (i : Int))) rfl (asD_d ?_)
        exact cellL_at e3 ⟨sz 1 (by omega), _, _, rfl, s2⟩
    · rintro ε M ⟨o3, kvs, rfl, h⟩
      rw [rangeD_len] at h
      have many := h.many hp
      have h := h.to2
      refine ⟨1, kvs, rfl, h.rd, ⟨by omega, by omega⟩, diteN (fun z => absurd many z) fun _ => ?_⟩
      refine ⟨mul_l (by omega) (by omega), by omega, sz 5 (by omega), by decide, ?_⟩
      refine lc_any (fun x => ∃ a, x = .int a ∧ Nm p a) (by decide) (fun k x hx R' r => ⟨h.pot, _, rfl, by omega, by omega, fun z z0 z1 => ⟨List.take_length, r _ ⟨z, rfl, z0, z1⟩⟩⟩) fun ys ly hy => ?_
      rw [rangeD_len] at ly
      have ly : ys.length = 5 := ly
      refine ⟨sz _ (by rw [ly]; show 5 + 5 ≤ 1000000; omega), fun k ε M => ∃ (o3 o4 o5 o6 o7 o8 : Option DV), ε = .lit [some (.o 0), some (.d (.int p)), some (.o 1), o3, o4, o5, o6, o7, o8] ∧ Sq2 p M kvs, ⟨_, _, _, _, _, _, rfl, h⟩, ?_, ?_⟩
      · clear h many
        rintro k x ε M hx ⟨o3, o4, o5, o6, o7, o8, rfl, h⟩
        have hx2 : ∃ a, x = .int a ∧ Nm p a := by
          rcases List.mem_append.mp (List.mem_of_getElem? hx) with z | z
          · simp only [List.mem_cons, List.not_mem_nil, or_false] at z
            rcases z with rfl | rfl | rfl | rfl | rfl
            · exact ⟨_, rfl, by omega, by omega⟩
            · exact ⟨_, rfl, by omega, by omega⟩
            · exact ⟨p - 1, rfl, by omega, by omega⟩
            · exact ⟨_, rfl, by omega, by omega⟩
            · exact ⟨_, rfl, nm_mod (by omega)⟩
          · exact hy x z
        obtain ⟨a, rfl, ha⟩ := hx2
        have a0 := ha.1
        have a1 := ha.2
        refine ⟨1, kvs, rfl, h.rd, 1, kvs, rfl, h.rd, a, rfl, ?_⟩
        rcases h.find a with ⟨j, e1, j2, e3, e4⟩ | ⟨e1, e4⟩
        · rw [e1]
          have isq : isSq p a = true := decide_eq_true e4
          refine ⟨1, kvs, rfl, h.rd, a, rfl, ?_⟩
          rw [e1]
          rw [show (some j).isSome = true from rfl]
          refine ⟨p, a, rfl, hp, ha, fun _ => ⟨p, a, rfl, hp, ha, fun _ => ⟨sz 2 (by omega), roots_can2 hp, ?_⟩, fun z => absurd z e4⟩, fun z => absurd z e4⟩
          refine born_v ?_
          refine repr2_look (j := j) ?_ e3 (roots_can2 hp) ?_
          · rfl
          have h2 := (h.fz j2 e3).fz j2 (look_set e3 e3)
          have e5 := look_set (look_set e3 e3) (look_set e3 e3)
          generalize (M.set j (.fz (.list (il (sqL p p.toNat a))))).set j (.fz (.list (il (sqL p p.toNat a)))) = M1 at h2 e5 ⊢
          clear h e3
          generalize (PyData.list [.list (il (sqL p p.toNat a)), .list (il (sqL p p.toNat a))]).shown = s1
          refine diteN (fun c => absurd rfl c) fun _ => ?_
          refine ⟨rfl, rfl, p, a, rfl, hp, ha, fun _ => ⟨roots_can hp, ?_⟩, fun z => absurd z e4⟩
          refine born_v ?_
          refine repr1_look (j := j) ?_ e5 (roots_can hp) ?_
          · rfl
          generalize (PyData.list (il (sqL p p.toNat a))).shown = s3
          refine diteN (fun c => absurd rfl c) fun _ => ?_
          refine ⟨_, _, rfl, hp, ha, rfl, rfl, _, _, rfl, hp, ha, sz 2 (by omega), bools2 _ _, sz 2 (by omega), bools2 _ _, ?_⟩
          rw [isq]
          generalize (PyData.list [.bool true, .bool true]).shown = s2
          refine diteN (fun c => absurd rfl c) fun _ => ?_
          refine ⟨⟨by omega, by omega⟩, p, a, _, rfl, hp, ha, by omega, by omega, fun z => by omega, fun r hr => ?_⟩
          obtain ⟨v0, v1, v2⟩ := pw_val hp ha hr
          have last : (p : Int) = p := rfl
          refine dite2 (fun z => diteN (fun y => absurd (v0 z) y) fun _ => ?_) fun z => diteN (fun y => absurd (v1 z isq) y) fun _ => ?_
          all_goals
            refine ⟨p, a, rfl, hp, ha, fun _ => ?_, fun z => absurd z e4⟩
            have e6 : (M1 ++ [Cell.lst (il (sqL p p.toNat a))])[M1.length]? = some (.lst (il (sqL p p.toNat a))) := by
              rw [List.getElem?_append_right (Nat.le_refl _), Nat.sub_self]
              rfl
            have ln : (il (sqL p p.toNat a)).length + 1 ≤ 1000000 := by
              rw [il_len]
              have := sqL_len (p := p) (q := a) (i := p.toNat)
              omega
            refine gD_ok ?_
            dsimp only
            refine seq_ok ?_
            refine drop_ok ?_
            refine append_at (k := M1.length) ?_ e6 ln ?_
            · rfl
            dsimp only
            rw [set_app]
            refine ⟨p, a, rfl, hp, ha, fun _ => ⟨roots_can hp, ?_⟩, fun z => absurd z e4⟩
            refine born_v ?_
            refine repr1_look (j := j) ?_ (look_app e5) (roots_can hp) ?_
            · rfl
            generalize (PyData.list (il (sqL p p.toNat a))).shown = s4
            exact diteN (fun c => absurd rfl c) fun _ => ⟨_, _, _, _, _, _, rfl, h2.app⟩
        · rw [e1]
          have isq : isSq p a = false := decide_eq_false fun z => z e4
          refine ⟨1, kvs, rfl, h.rd, a, rfl, ?_⟩
          rw [e1]
          rw [show (none : Option Nat).isSome = false from rfl]
          refine ⟨p, a, rfl, hp, ha, fun z => absurd e4 z, fun _ => ⟨p, a, rfl, hp, ha, fun z => absurd e4 z, fun _ => ⟨sz 2 (by omega), none_can, sz 2 (by omega), none_can, ?_⟩⟩⟩
          generalize (PyData.list [.str "none", .str "none"]).shown = s1
          refine diteN (fun c => absurd rfl c) fun _ => ?_
          refine ⟨_, _, rfl, hp, ha, rfl, rfl, _, _, rfl, hp, ha, sz 2 (by omega), bools2 _ _, sz 2 (by omega), bools2 _ _, ?_⟩
          rw [isq]
          generalize (PyData.list [.bool false, .bool false]).shown = s2
          refine diteN (fun c => absurd rfl c) fun _ => ?_
          refine ⟨⟨by omega, by omega⟩, p, a, _, rfl, hp, ha, by omega, by omega, fun z => by omega, fun r hr => ?_⟩
          obtain ⟨v0, v1, v2⟩ := pw_val hp ha hr
          refine dite2 (fun z => diteN (fun y => absurd (v0 z) y) fun _ => ?_) fun z => diteN (fun y => absurd (v2 z isq) y) fun _ => ?_
          · exact ⟨_, _, _, _, _, _, rfl, h⟩
          · exact ⟨_, _, _, _, _, _, rfl, h⟩
      · rintro ε M ⟨o3, o4, o5, o6, o7, o8, rfl, h⟩
        exact ⟨h.pot, q⟩
end

end Eqr
set_option maxHeartbeats 1000000
namespace Eqr
open PySem PySem.Spec L2 Ow Dl
section
variable {P : Program} {w : World} {K : PySem.W.Frag} {mg : Str → Option Value} {base : Heap}
def f_prime : DF := fun ds Q => ds = [] ∧ ∀ p, Pr p → Q (.int p)
theorem D_law_prime (T : Tx K mg) : Ow.Df P w K mg base CX0 3 "_law_prime" s_law_prime ["pot"] (spT K (f_prime)) := by
  refine df_T T.f_law_prime sc_law_prime bd_law_prime (fun ds Q h => ?_) (fun cdv A outer s H E f hG hR => ?_)
  · obtain ⟨rfl, q⟩ := h
    rfl
  · have hu := hR.units
    have hu1 := hu_of hR
    refine ⟨_, (pdss_cons (pds_if (pdt_co (oi_eq hu) (pd_d (D_law_draw T) draw_ok hR (by decide) hG pass0 (by rfl) (da_cons (dv 0) (da_cons pd_int da_nil))) pd_int (nomark _))
      (pdss_one (pds_ret (pd_d (D_law_pick T) cT_ok hR (by decide) hG pass0 (by rfl) (da_cons (dv 0) (da_cons (pd_lst false (da_cons pd_int (da_cons pd_int (da_cons pd_int (da_cons pd_int (da_cons pd_int (da_cons pd_int da_nil))))))) da_nil)))))
      pdss_nil)
      (pdss_cons (pds_set (i := 1) sc_law_prime.nd rfl (Or.inl rfl) (pd_bo false oi_add pd_int (pd_d (D_law_draw T) draw_ok hR (by decide) hG pass0 (by rfl) (da_cons (dv 0) (da_cons pd_int da_nil)))))
      (pdss_one (pds_ret (pd_idx (pd_lc (own := [("number", 2)]) 3 false rfl sc_law_prime.nd (pdi_range2 T.b_range (da_cons (dv 1) (da_cons (pd_cb false (bi_min rfl) T.b_min (da_cons (pd_bo false oi_add (dv 1) pd_int) (da_cons pd_int da_nil))) da_nil))) (blkOk_by (N := ["pot", "first", "number"]) (sc := defScope s_law_prime) (by decide +kernel)) (fun _ _ _ _ _ => (pdg_name (i := 2) sc_law_prime.nd rfl (Or.inl rfl))) (fun _ _ _ _ _ => pdts_one (pdt_val (pd_d (D_law_is_prime T) cP_ok hR (by decide) hG pass0 (by rfl) (da_cons (dv 2) da_nil)))) (fun _ _ _ _ _ => (dv 2)) (by decide)) pd_int (fun _ _ => rfl)))))), fun ds Q h => ?_⟩
    obtain ⟨rfl, q⟩ := h
    refine ⟨rfl, _, rfl, by omega, by omega, fun z z0 z1 => dite2 (fun _ => ?_) fun _ => ?_⟩
    · refine ⟨sz 6 (by omega), rfl, pick_ints (ns := [3, 5, 7, 11, 13, 9973]) (by decide) (by decide) fun m hm => ⟨rfl, q m ?_⟩⟩
      simp only [List.mem_cons, List.not_mem_nil, or_false] at hm
      rcases hm with rfl | rfl | rfl | rfl | rfl | rfl <;> exact pr_of (by decide) (by decide) (by decide +kernel)
    · refine ⟨rfl, _, rfl, by omega, by omega, fun d d0 d1 => ?_⟩
      obtain ⟨j, j1, j2, j3⟩ := next_prime (f := (3 + d).toNat) (by omega) (by omega)
      have ej : (((3 + d).toNat : Nat) : Int) = 3 + d := by omega
      rw [ej] at j3
      have hm : ∃ m, (if 9974 < 3 + d + 40 then 9974 else 3 + d + 40 : Int) = m ∧ m ≤ 9974 ∧ 3 + d + (j : Int) < m ∧ m ≤ 3 + d + 40 := by
        refine ⟨_, rfl, ?_, ?_, ?_⟩ <;> split <;> omega
      obtain ⟨m, em, m1, m2, m3⟩ := hm
      have hj : 3 + d + (j : Int) ∈ (rangeL (3 + d) (m - (3 + d)).toNat).filter primeB := List.mem_filter.mpr ⟨rangeL_mem.mpr (by omega), j3⟩
      refine ⟨⟨by omega, by omega, by split <;> omega, by split <;> omega⟩, lc_ints primeB (by split <;> omega) (fun i hi R r => ⟨_, rfl, ?_⟩) ?_⟩
      · cases h : primeB (3 + d + (i : Int)) with
        | true =>
          rw [h] at r
          exact iteT ⟨rfl, r⟩
        | false =>
          rw [h] at r
          exact iteF ⟨rfl, r⟩
      · rw [em]
        cases hL : (rangeL (3 + d) (m - (3 + d)).toNat).filter primeB with
        | nil =>
          rw [hL] at hj
          cases hj
        | cons x r =>
          have hx : x ∈ (rangeL (3 + d) (m - (3 + d)).toNat).filter primeB := by
            rw [hL]
            exact List.mem_cons_self
          obtain ⟨h1, h2⟩ := List.mem_filter.mp hx
          have h1 := rangeL_mem.mp h1
          exact lk1_mk (at_of (j := 0) (by omega) rfl) ⟨rfl, q x (pr_of (by omega) (by omega) h2)⟩
def f_right : DF := fun ds Q => ds = [] ∧ Q (.bool true)
theorem D_law_right (T : Tx K mg) : Ow.Df P w K mg base CX0 9 "_law_right" s_law_right ["pot"] (spT K (f_right)) := by
  refine df_T T.f_law_right sc_law_right bd_law_right (fun ds Q h => ?_) (fun cdv A outer s H E f hG hR => ?_)
  · obtain ⟨rfl, q⟩ := h
    rfl
  · have hu := hR.units
    have hu1 := hu_of hR
    refine ⟨_, (pdss_cons (pds_set (i := 1) sc_law_right.nd rfl (Or.inl rfl) (pd_d (D_law_prime T) cT_ok hR (by decide) hG pass0 (by rfl) (da_cons (dv 0) da_nil)))
      (pdss_cons (pds_setLc (i := 2) (own := [("number", 3)]) 6 false rfl sc_law_right.nd rfl rfl (sw_true rfl rfl rfl (by decide +kernel)) (pdi_range2 T.b_range (da_cons pd_int (da_cons pd_int da_nil))) (blkOk_by (N := ["pot", "prime", "small", "number", "counts", "count"]) (sc := defScope s_law_right) (by decide +kernel)) (fun _ _ _ _ _ => (pdg_name (i := 3) sc_law_right.nd rfl (Or.inl rfl))) (fun _ _ _ _ _ => pdts_one (pdt_val (pd_d (D_law_is_prime T) cP_ok hR (by decide) hG pass0 (by rfl) (da_cons (dv 3) da_nil)))) (fun _ _ _ _ _ => (dv 3)) (by decide))
      (pdss_cons (pds_set (i := 4) sc_law_right.nd rfl (Or.inl rfl) (pd_lst false (da_cons (dv 1) (da_cons (pd_bo false oi_sub (dv 1) pd_int) (da_cons (pd_bo false oi_add pd_int (pd_d (D_law_draw T) draw_ok hR (by decide) hG pass0 (by rfl) (da_cons (dv 0) (da_cons pd_int da_nil)))) (da_cons (pd_bo false oi_add pd_int (pd_d (D_law_draw T) draw_ok hR (by decide) hG pass0 (by rfl) (da_cons (dv 0) (da_cons pd_int da_nil)))) (da_cons (pd_bo false oi_mul (pd_d (D_law_pick T) cT_ok hR (by decide) hG pass0 (by rfl) (da_cons (dv 0) (da_cons (dv 2) da_nil))) (pd_d (D_law_pick T) cT_ok hR (by decide) hG pass0 (by rfl) (da_cons (dv 0) (da_cons (dv 2) da_nil)))) (da_cons pd_int (da_cons pd_int (da_cons pd_int da_nil))))))))))
      (pdss_one (pds_ret (pd_and (pd_cb false (bi_all rfl) T.b_all (da_cons (pd_lc (own := [("count", 5)]) 6 false rfl sc_law_right.nd (pdi_seq (dv 4)) (blkOk_by (N := ["pot", "prime", "small", "number", "counts", "count"]) (sc := defScope s_law_right) (by decide +kernel)) (fun _ _ _ _ _ => (pdg_name (i := 5) sc_law_right.nd rfl (Or.inl rfl))) (fun _ _ _ _ _ => pdts_nil) (fun _ _ _ _ _ => (pd_d (D_law_papers_right T) cT_ok hR (by decide) hG pass0 (by rfl) (da_cons (dv 0) (da_cons (dv 5) da_nil)))) (by decide)) da_nil)) (pd_one (pd_d (D_law_squares_right T) cT_ok hR (by decide) hG pass0 (by rfl) (da_cons (dv 0) (da_cons (dv 1) da_nil)))))))))), fun ds Q h => ?_⟩
    obtain ⟨rfl, q⟩ := h
    refine ⟨rfl, rfl, fun p hp => ?_⟩
    have lo := hp.lo
    have hi := hp.hi
    refine ⟨by decide, lc_ints primeB (by decide) (fun i hi R r => ⟨_, rfl, ?_⟩) ?_⟩
    · cases h : primeB (2 + (i : Int)) with
      | true =>
        rw [h] at r
        exact iteT ⟨rfl, r⟩
      | false =>
        rw [h] at r
        exact iteF ⟨rfl, r⟩
    · have hs : ∀ x ∈ (rangeL 2 (100 - 2 : Int).toNat).filter primeB, 2 ≤ x ∧ x < 100 := fun x hx => by
        have := rangeL_mem.mp (List.mem_filter.mp hx).1
        have e : (((100 - 2 : Int).toNat : Nat) : Int) = 98 := rfl
        omega
      have h2 : (2 : Int) ∈ (rangeL 2 (100 - 2 : Int).toNat).filter primeB := List.mem_filter.mpr ⟨rangeL_mem.mpr ⟨by omega, by decide⟩, by decide⟩
      have hl : ((rangeL 2 (100 - 2 : Int).toNat).filter primeB).length ≤ 98 := Nat.le_trans (List.length_filter_le _ _) (by unfold rangeL; rw [List.length_map, List.length_range]; decide)
      generalize (rangeL 2 (100 - 2 : Int).toNat).filter primeB = small at hs h2 hl ⊢
      have sp := List.length_pos_of_mem h2
      refine ⟨rfl, _, rfl, by omega, by omega, fun a a0 a1 => ⟨rfl, _, rfl, by omega, by omega, fun b b0 b1 => ⟨rfl, ?_⟩⟩⟩
      refine pick_ints sp (by omega) fun x hx => ⟨rfl, pick_ints sp (by omega) fun y hy => ?_⟩
      obtain ⟨x0, x1⟩ := hs x hx
      obtain ⟨y0, y1⟩ := hs y hy
      have xy0 : 2 * 2 ≤ x * y := Int.mul_le_mul x0 y0 (by omega) (by omega)
      have xy1 : x * y ≤ 99 * 99 := Int.mul_le_mul (by omega) (by omega) (by omega) (by omega)
      refine ⟨mul_l (by omega) (by omega), sz 8 (by omega), ?_⟩
      generalize hI : [PyData.int p, _, _, _, _, _, _, _] = I
      have hI2 : I.length = 8 ∧ ∀ z ∈ I, ∃ c, z = .int c ∧ 2 ≤ c ∧ c ≤ 9973 := by
        rw [← hI]
        refine ⟨rfl, fun z hz => ?_⟩
        simp only [List.mem_cons, List.not_mem_nil, or_false] at hz
        rcases hz with rfl | rfl | rfl | rfl | rfl | rfl | rfl | rfl
        · exact ⟨_, rfl, by omega, by omega⟩
        · exact ⟨p - 1, rfl, by omega, by omega⟩
        · exact ⟨_, rfl, by omega, by omega⟩
        · exact ⟨_, rfl, by omega, by omega⟩
        · exact ⟨x * y, rfl, by omega, by omega⟩
        · exact ⟨_, rfl, by omega, by omega⟩
        · exact ⟨_, rfl, by omega, by omega⟩
        · exact ⟨_, rfl, by omega, by omega⟩
      clear hI
      obtain ⟨lI, hI⟩ := hI2
      refine lc_map (fun _ => .bool true) (sz _ (by rw [lI]; decide)) (fun k z hz R r => ?_) ?_
      · obtain ⟨c, rfl, c2, c3⟩ := hI z (List.mem_of_getElem? hz)
        exact ⟨rfl, c, rfl, c2, c3, rfl, r⟩
      · refine lk1_mk (all_map (c := fun _ => true)) ?_
        have e : (I.map fun _ => true).all id = true := by simp
        show if (I.map fun _ => true).all id = true then _ else _
        rw [if_pos e]
        exact ⟨rfl, p, rfl, hp, rfl, q⟩
def sp_law (K : PySem.W.Frag) : Sp := spP K f_script
theorem D_law (T : Tx K mg) : Ow.Df P w K mg base CX0 10 "law" s_law ["script"] (spP K (f_script)) := by
  refine df_P T.f_law sc_law bd_law (fun ds Q h => ?_) (fun cdv A outer s H E f hG hR => ?_)
  · obtain ⟨ns, rfl, hl, q⟩ := h
    rfl
  · have hu := hR.units
    have hu1 := hu_of hR
    refine ⟨_, (pdss_one (pds_ret (pd_cb false (bi_all rfl) T.b_all (da_cons (pd_lc (own := [("k", 1)]) 2 false rfl sc_law.nd (pdi_range1 T.b_range (da_cons (pd_cb false (bi_max rfl) T.b_max (da_cons pd_int (da_cons (pd_cb false (bi_min rfl) T.b_min (da_cons pd_int (da_cons (pd_cb false bi_len T.b_len (da_cons (dv 0) da_nil)) da_nil))) da_nil))) da_nil)) (blkOk_by (N := ["script", "k"]) (sc := defScope s_law) (by decide +kernel)) (fun _ _ _ _ _ => (pdg_name (i := 1) sc_law.nd rfl (Or.inl rfl))) (fun _ _ _ _ _ => pdts_nil) (fun _ _ _ _ _ => (pd_d (D_law_right T) cT_ok hR (by decide) hG pass0 (by rfl) (da_cons (pd_d (D_law_pot T) pot_ok hR (by decide) hG pass0 (by rfl) (da_cons (dv 0) (da_cons (dv 1) da_nil))) da_nil))) (by decide)) da_nil)))), fun ds Q h => ?_⟩
    obtain ⟨ns, rfl, hl, q⟩ := h
    have nl : (ns.map PyData.int).length = ns.length := List.length_map ..
    refine ⟨by refine ⟨?_, ?_⟩ <;> (repeat' split) <;> omega, ?_⟩
    refine lc_map (fun _ => .bool true) (sz _ (by rw [rangeD_len]; (repeat' split) <;> omega)) (fun i x hx R r => ?_) ?_
    · obtain ⟨_, rfl⟩ := rangeD_get hx
      exact ⟨ns, _, rfl, by omega, rfl, rfl, rfl, r⟩
    · have all_true : ∀ l : List PyData, asBools (l.map fun _ => PyData.bool true) = some (l.map fun _ => true) := fun l => all_map (c := fun _ => true)
      refine lk1_mk (all_true _) ?_
      generalize rangeD _ _ = l
      have e : (l.map fun _ => true).all id = true := by simp
      have q2 : Q (.bool ((l.map fun _ => true).all id)) := by
        rw [e]
        exact q
      exact q2
end
theorem law_asks (K : PySem.W.Frag) (H : Hp) (a : Addr) (ns : List Int) (hl : ns.length ≤ 63) (hS : SqL K H a (ns.map V.int)) : sp_law K [.ref a] H (fun v _ => v = .bl true) E0 := script_in hl hS
theorem law_made {P : Program} {w : World} {K : PySem.W.Frag} {mg : Str → Option Value} {fa : Addr} (T : Tx K mg) (hmg : mg "law" = some (.ref fa)) :
    ∃ fd : FuncData, (∀ u : Value, bindArgs fd ⟨[u], []⟩ = pure [(("script" : Str), u)]) ∧ ∀ base : Heap, K.In base → base.Ns mainGlobals mg → Ow.Prm P w K mg base CX0 10 fa fd ["script"] (sp_law K) :=
  Ow.made_of T.f_law hmg bd_law fun _ => D_law T

end Eqr
section
open PySem PySem.W PyProof.Rows
set_option maxRecDepth 100000 in
set_option maxHeartbeats 0 in
open_top head for PySem.Challenge.rw_equalruns_k13_whole_prime_papers_and_squ
end
open PySem PySem.W PyProof.Rows
set_option maxRecDepth 100000 in
set_option maxHeartbeats 0 in
theorem PySem.Challenge.cw_equalruns_k13_whole_prime_papers_and_squ_holds : PySem.Challenge.rw_equalruns_k13_whole_prime_papers_and_squ.Holds :=
  head (by
    k_fill
    refine Ow.law_end (l := PySem.Challenge.rw_equalruns_k13_whole_prime_papers_and_squ) (n := 63) (k := 10) (x := "script") (sp := Eqr.sp_law) rfl (by decide) rfl ⟨rfl, by decide, by decide⟩ (fun w h Y => PySem.W.kIn_of Y) ?F Eqr.law_asks
    case F =>
      intro w mg fa h KX G hmg
      refine' Eqr.law_made ⟨?b_abs, ?b_all, ?b_any, ?b_bool, ?b_divmod, ?b_int, ?b_isinstance, ?b_len, ?b_list, ?b_max, ?b_min, ?b_range, ?b_repr, ?b_str, ?b_tuple, ?c_LEAST_COUNT, ?c_LEAST_PRIME, ?c_MOST_COUNT, ?c_MOST_EXPONENT, ?c_MOST_PRIME, ?x_NoSquare, ?m_NoSquare_NoSquare, ?f_is_integer, ?f_is_within, ?f_least_divisor, ?f_is_prime_of, ?f_check_prime, ?f_is_number_of, ?f_check_number, ?f_check_count, ?f_powered, ?f_back_of, ?f_is_prime, ?f_power, ?f_primes_of, ?f_is_full, ?f_least_full, ?f_halves_of, ?f_paper_of, ?f_is_parts_paper, ?f_are_parts, ?f_check_one, ?f_prime_paper, ?f_is_prime_paper, ?f_is_square, ?f_halves, ?f_law_pot, ?f_law_draw, ?f_law_pick, ?f_law_is_prime, ?f_law_prime, ?f_law_parts, ?f_law_power, ?f_law_is_full, ?f_law_paper, ?f_law_is_integer, ?f_law_is_paper, ?f_law_bent, ?f_law_papers_right, ?f_law_heard, ?f_law_squares_right, ?f_law_right, ?f_law⟩ hmg
      (case b_abs => exact Ow.none_of KX G (by k_is))
      (case b_all => exact Ow.none_of KX G (by k_is))
      (case b_any => exact Ow.none_of KX G (by k_is))
      (case b_bool => exact Ow.none_of KX G (by k_is))
      (case b_divmod => exact Ow.none_of KX G (by k_is))
      (case b_int => exact Ow.none_of KX G (by k_is))
      (case b_isinstance => exact Ow.none_of KX G (by k_is))
      (case b_len => exact Ow.none_of KX G (by k_is))
      (case b_list => exact Ow.none_of KX G (by k_is))
      (case b_max => exact Ow.none_of KX G (by k_is))
      (case b_min => exact Ow.none_of KX G (by k_is))
      (case b_range => exact Ow.none_of KX G (by k_is))
      (case b_repr => exact Ow.none_of KX G (by k_is))
      (case b_str => exact Ow.none_of KX G (by k_is))
      (case b_tuple => exact Ow.none_of KX G (by k_is))
      (case c_LEAST_COUNT => refine' Ow.int_of KX G ?a; (case a => k_is))
      (case c_LEAST_PRIME => refine' Ow.int_of KX G ?a; (case a => k_is))
      (case c_MOST_COUNT => refine' Ow.int_of KX G ?a; (case a => k_is))
      (case c_MOST_EXPONENT => refine' Ow.int_of KX G ?a; (case a => k_is))
      (case c_MOST_PRIME => refine' Ow.int_of KX G ?a; (case a => k_is))
      (case x_NoSquare => refine' Dl.exc0_of KX G PySem.F.excBase_RuntimeError ?a ?q ?k ?s ?t; (case a => k_is); (case q => kernel_rfl); (case k => k_is); (case s => k_is); (case t => k_is))
      (case m_NoSquare_NoSquare => refine' Dl.mat_of KX G ?a ?b ?e; (case a => k_is); (case b => k_is); (case e => kernel_rfl))
      (case f_is_integer => refine' Ow.stands_of KX G ?a ?l ?c ?k; (case a => k_is); (case l => k_is); (case c => k_is); (case k => k_is))
      (case f_is_within => refine' Ow.stands_of KX G ?a ?l ?c ?k; (case a => k_is); (case l => k_is); (case c => k_is); (case k => k_is))
      (case f_least_divisor => refine' Ow.stands_of KX G ?a ?l ?c ?k; (case a => k_is); (case l => k_is); (case c => k_is); (case k => k_is))
      (case f_is_prime_of => refine' Ow.stands_of KX G ?a ?l ?c ?k; (case a => k_is); (case l => k_is); (case c => k_is); (case k => k_is))
      (case f_check_prime => refine' Ow.stands_of KX G ?a ?l ?c ?k; (case a => k_is); (case l => k_is); (case c => k_is); (case k => k_is))
      (case f_is_number_of => refine' Ow.stands_of KX G ?a ?l ?c ?k; (case a => k_is); (case l => k_is); (case c => k_is); (case k => k_is))
      (case f_check_number => refine' Ow.stands_of KX G ?a ?l ?c ?k; (case a => k_is); (case l => k_is); (case c => k_is); (case k => k_is))
      (case f_check_count => refine' Ow.stands_of KX G ?a ?l ?c ?k; (case a => k_is); (case l => k_is); (case c => k_is); (case k => k_is))
      (case f_powered => refine' Ow.stands_of KX G ?a ?l ?c ?k; (case a => k_is); (case l => k_is); (case c => k_is); (case k => k_is))
      (case f_back_of => refine' Ow.stands_of KX G ?a ?l ?c ?k; (case a => k_is); (case l => k_is); (case c => k_is); (case k => k_is))
      (case f_is_prime => refine' Ow.stands_of KX G ?a ?l ?c ?k; (case a => k_is); (case l => k_is); (case c => k_is); (case k => k_is))
      (case f_power => refine' Ow.stands_of KX G ?a ?l ?c ?k; (case a => k_is); (case l => k_is); (case c => k_is); (case k => k_is))
      (case f_primes_of => refine' Ow.stands_of KX G ?a ?l ?c ?k; (case a => k_is); (case l => k_is); (case c => k_is); (case k => k_is))
      (case f_is_full => refine' Ow.stands_of KX G ?a ?l ?c ?k; (case a => k_is); (case l => k_is); (case c => k_is); (case k => k_is))
      (case f_least_full => refine' Ow.stands_of KX G ?a ?l ?c ?k; (case a => k_is); (case l => k_is); (case c => k_is); (case k => k_is))
      (case f_halves_of => refine' Ow.stands_of KX G ?a ?l ?c ?k; (case a => k_is); (case l => k_is); (case c => k_is); (case k => k_is))
      (case f_paper_of => refine' Ow.stands_of KX G ?a ?l ?c ?k; (case a => k_is); (case l => k_is); (case c => k_is); (case k => k_is))
      (case f_is_parts_paper => refine' Ow.stands_of KX G ?a ?l ?c ?k; (case a => k_is); (case l => k_is); (case c => k_is); (case k => k_is))
      (case f_are_parts => refine' Ow.stands_of KX G ?a ?l ?c ?k; (case a => k_is); (case l => k_is); (case c => k_is); (case k => k_is))
      (case f_check_one => refine' Ow.stands_of KX G ?a ?l ?c ?k; (case a => k_is); (case l => k_is); (case c => k_is); (case k => k_is))
      (case f_prime_paper => refine' Ow.stands_of KX G ?a ?l ?c ?k; (case a => k_is); (case l => k_is); (case c => k_is); (case k => k_is))
      (case f_is_prime_paper => refine' Ow.stands_of KX G ?a ?l ?c ?k; (case a => k_is); (case l => k_is); (case c => k_is); (case k => k_is))
      (case f_is_square => refine' Ow.stands_of KX G ?a ?l ?c ?k; (case a => k_is); (case l => k_is); (case c => k_is); (case k => k_is))
      (case f_halves => refine' Ow.stands_of KX G ?a ?l ?c ?k; (case a => k_is); (case l => k_is); (case c => k_is); (case k => k_is))
      (case f_law_pot => refine' Ow.stands_of KX G ?a ?l ?c ?k; (case a => k_is); (case l => k_is); (case c => k_is); (case k => k_is))
      (case f_law_draw => refine' Ow.stands_of KX G ?a ?l ?c ?k; (case a => k_is); (case l => k_is); (case c => k_is); (case k => k_is))
      (case f_law_pick => refine' Ow.stands_of KX G ?a ?l ?c ?k; (case a => k_is); (case l => k_is); (case c => k_is); (case k => k_is))
      (case f_law_is_prime => refine' Ow.stands_of KX G ?a ?l ?c ?k; (case a => k_is); (case l => k_is); (case c => k_is); (case k => k_is))
      (case f_law_prime => refine' Ow.stands_of KX G ?a ?l ?c ?k; (case a => k_is); (case l => k_is); (case c => k_is); (case k => k_is))
      (case f_law_parts => refine' Ow.stands_of KX G ?a ?l ?c ?k; (case a => k_is); (case l => k_is); (case c => k_is); (case k => k_is))
      (case f_law_power => refine' Ow.stands_of KX G ?a ?l ?c ?k; (case a => k_is); (case l => k_is); (case c => k_is); (case k => k_is))
      (case f_law_is_full => refine' Ow.stands_of KX G ?a ?l ?c ?k; (case a => k_is); (case l => k_is); (case c => k_is); (case k => k_is))
      (case f_law_paper => refine' Ow.stands_of KX G ?a ?l ?c ?k; (case a => k_is); (case l => k_is); (case c => k_is); (case k => k_is))
      (case f_law_is_integer => refine' Ow.stands_of KX G ?a ?l ?c ?k; (case a => k_is); (case l => k_is); (case c => k_is); (case k => k_is))
      (case f_law_is_paper => refine' Ow.stands_of KX G ?a ?l ?c ?k; (case a => k_is); (case l => k_is); (case c => k_is); (case k => k_is))
      (case f_law_bent => refine' Ow.stands_of KX G ?a ?l ?c ?k; (case a => k_is); (case l => k_is); (case c => k_is); (case k => k_is))
      (case f_law_papers_right => refine' Ow.stands_of KX G ?a ?l ?c ?k; (case a => k_is); (case l => k_is); (case c => k_is); (case k => k_is))
      (case f_law_heard => refine' Ow.stands_of KX G ?a ?l ?c ?k; (case a => k_is); (case l => k_is); (case c => k_is); (case k => k_is))
      (case f_law_squares_right => refine' Ow.stands_of KX G ?a ?l ?c ?k; (case a => k_is); (case l => k_is); (case c => k_is); (case k => k_is))
      (case f_law_right => refine' Ow.stands_of KX G ?a ?l ?c ?k; (case a => k_is); (case l => k_is); (case c => k_is); (case k => k_is))
      (case f_law => refine' Ow.stands_of KX G ?a ?l ?c ?k; (case a => k_is); (case l => k_is); (case c => k_is); (case k => k_is)))
