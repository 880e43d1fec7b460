import PyProof.Rows.All
import Wide.All
import OpenK.AllK
import Wide.FinOn
import HandS.ForMost
import HandS.IsInst
import HandS.WideBits
import HandS.Style
import HandS.Wide
import PyProof.ReprRoads
import HandS.Evl
import PySem.Challenge.RW_equalruns_k11_whole_numbers_reckoned
set_option Elab.async false
set_option linter.all false
set_option maxRecDepth 100000
set_option maxHeartbeats 4000000
/-! Own layer: promises that know that nothing is being shown (for repr), calls with keywords, repr of data. -/
namespace Ow
open PySem PySem.Spec PyProof.Rows L2
section
variable {P : Program} {w : World} {K : PySem.W.Frag} {mg : Str → Option Value} {base : Heap} {CX : CXT}
/-- a def keeps a promise, wherever no repr is under way -/
structure Prm (P : Program) (w : World) (K : PySem.W.Frag) (mg : Str → Option Value) (base : Heap) (CX : CXT) (k : Nat) (f : Addr) (fd : FuncData) (ps : List Str) (sp : Sp) : Prop where
  len : ∀ vs H Q E, sp vs H Q E → vs.length = ps.length
  go : ∀ (A : Around) (outer : List Env) (s : Shared) (H : Hp) (args : Args) (us : List Value) (vs : List V) (Q : VK) (E : XK), A.guards = some [] → Room k A → Env0 P w K mg base A outer s H →
    BindsTo s fd args (ps.zip us) → Vals vs us → sp vs H Q E → codeAny (model P w) A (.call (.ref f) args) (CR CX outer P w H s Q E) s
theorem Prm.mono {j k : Nat} {f : Addr} {fd : FuncData} {ps : List Str} {sp : Sp} (F : Prm P w K mg base CX j f fd ps sp) (h : j ≤ k) : Prm P w K mg base CX k f fd ps sp :=
  ⟨F.len, fun A outer s H args us vs Q E hg hr => F.go A outer s H args us vs Q E hg (hr.mono h)⟩
/-- a def of the text by its body -/
theorem prm_of {x qual : Str} {st : Stmt} {f : Addr} {fd : FuncData} {N ps : List Str} {k : Nat} {sp : Sp} (F : Fun K x qual st f fd) (S : FnScope N ps (defScope st))
    (len : ∀ vs H Q E, sp vs H Q E → vs.length = ps.length)
    (hbody : ∀ (cdv : Value) (A : Around) (outer : List Env) (s : Shared) (H : Hp) (vs : List V) (Q : VK) (E : XK), A.guards = some [] →
      Room k (A.deeper (envOfC qual (defScope st) s.heap.objs.size f cdv)) → sp vs H Q E →
      ∃ t, PSs (cxOf CX P w K mg base N qual (defScope st) f cdv A outer s H E) (defBody st) t ∧ t { nx := fun _ H' => Q .non H', rt := Q } (start N vs) H) :
    Prm P w K mg base CX (k + 1) f fd ps sp := by
  obtain ⟨oc, od, kV, doc, pm, an, cdv, ct, osl, rfl, lk, hcd⟩ := F.ex
  constructor
  · exact len
  intro A outer s H args us vs Q E hgd hr e0 hb r hsp
  have e1 : ∀ b o, base.get? b = some o → s.heap.get? b = some o := fun b o e => (e0.bs b o e).1
  have inH : K.In s.heap := e0.mod.kin.keeps e1
  refine codeAny_call_function hr.depth (inH _ _ lk) rfl S.co S.gen rfl (PySem.W.codeRec_of inH hcd) (hb _ _ _ _ ?_)
  refine wpAny_newFunctionEnv_cells S.kind ?_ ?_
  · rintro ⟨n, v⟩ hy
    rcases S.par n (List.of_mem_zip hy).1 with q | q
    · exact .inl q
    · exact .inr ⟨q, PySem.W.cellsFrom_some _ _ _ (.inl q)⟩
  · intro env he s1 x
    subst he
    refine ⟨(e0.mod.nolimit.keeps e1).keeps x.toInCall.keep, codeAny_func ?_⟩
    obtain ⟨t, ht, hq⟩ := hbody cdv A outer s H vs Q E hgd (hr.deeper _) hsp
    have I := inv_start (CX := CX) (cd := cdv) (f := f) (E := E) S hr.hd e0 (len _ _ _ _ hsp) r x
    refine wpAny_mono (ht.run [] s1 (start N vs) H _ I hq) ?_ (fun e s' hs => hs)
    intro fl s' hs
    cases fl with
    | brk => obtain ⟨_, _, _, q⟩ := hs; exact q.elim
    | cont => obtain ⟨_, _, _, q⟩ := hs; exact q.elim
    | next => obtain ⟨σ', H', J, q⟩ := hs; exact ⟨.non, H', J.os, J.bare, J.base, J.hok, rfl, q⟩
    | ret u => obtain ⟨v, σ', H', J, rv, q⟩ := hs; exact ⟨v, H', J.os, J.bare, J.base, J.hok, rv, q⟩
/-- how plain arguments bind -/
def Bind (x : Str) (st : Stmt) (ps : List Str) : Prop := ∀ (kV doc pm : Value) (an : Option Addr) (cdv ct : Value) (us : List Value), us.length = ps.length →
  bindArgs (PySem.W.fnOf x x (defArgs st) (defBody st) (defScope st) .none kV doc pm an cdv ct) ⟨us, []⟩ = pure (ps.zip us)
/-- a def stands at the top under its name -/
def Stands (K : PySem.W.Frag) (mg : Str → Option Value) (x : Str) (st : Stmt) : Prop := ∃ (f : Addr) (fd : FuncData), mg x = some (.ref f) ∧ Fun K x x st f fd
/-- a def that stands at the top under its name, with its promise -/
structure Df (P : Program) (w : World) (K : PySem.W.Frag) (mg : Str → Option Value) (base : Heap) (CX : CXT) (k : Nat) (x : Str) (st : Stmt) (ps : List Str) (sp : Sp) : Prop where
  ex : ∃ (f : Addr) (fd : FuncData), mg x = some (.ref f) ∧ Fun K x x st f fd ∧ Prm P w K mg base CX k f fd ps sp
  bd : Bind x st ps
/-- a def that lets no exception out, by its body -/
theorem df_of {x : Str} {st : Stmt} {N ps : List Str} {k : Nat} {sp : Sp} (F : Stands K mg x st) (S : FnScope N ps (defScope st)) (bd : Bind x st ps)
    (len : ∀ vs H Q E, sp vs H Q E → vs.length = ps.length)
    (hbody : ∀ (cdv : Value) (A : Around) (outer : List Env) (s : Shared) (H : Hp) (vs : List V) (Q : VK) (E : XK) (f : Addr), A.guards = some [] →
      Room k (A.deeper (envOfC x (defScope st) s.heap.objs.size f cdv)) → sp vs H Q E →
      ∃ t, PSs (cxOf CX0 P w K mg base N x (defScope st) f cdv A outer s H E).nox (defBody st) t ∧ t { nx := fun _ H' => Q .non H', rt := Q } (start N vs) H) :
    Df P w K mg base CX0 (k + 1) x st ps sp := by
  obtain ⟨f, fd, hm, F⟩ := F
  refine ⟨⟨f, fd, hm, F, prm_of F S len ?_⟩, bd⟩
  intro cdv A outer s H vs Q E hg hr h
  obtain ⟨t, h1, h2⟩ := hbody cdv A outer s H vs Q E f hg hr h
  exact ⟨t, h1.nox, h2⟩
end
section
variable {X : Cx} {CX : CXT} {k j : Nat} {ps ks : List Str} {sp : Sp} {E : XK} {x : Str} {st : Stmt} {p pos : Pos} {e : Expr} {es : List Expr} {kws : List Keyword} {t tk : TA}
/-- what a call brings back -/
theorem Prm.called {pins : List (Addr × Obj)} {σ : L2.St} {H : Hp} {s : Shared} {Q : VK} {us : List Value} {vs : List V} {f : Addr} {fd : FuncData} {pairs : List (Str × Value)} {first : List Value}
    (F : Prm X.prog X.w X.K X.mg X.base CX k f fd ps sp) (hr : Room k X.A) (hg : X.A.guards = some []) (hx : Passes CX X E) (I : Inv X pins σ H s) (r : Vals vs us)
    (hb : bindArgs fd ⟨first, pairs⟩ = pure (ps.zip us)) (h : sp vs H Q E) : wpAny (model X.prog X.w) X.A (call (.ref f) first pairs) (EP X pins σ Q) X.xe s := by
  refine wpAny_call (codeAny_mono (F.go X.A X.stack s H ⟨first, pairs⟩ us vs Q E hg hr I.env0 (.of_eq hb) r h) ?_)
  intro res s' hq
  cases res with
  | error er => exact hx pins σ H s er s' I hq
  | ok fl =>
    cases fl with
    | ret u => exact I.after hq
    | next => exact hq.elim
    | brk => exact hq.elim
    | cont => exact hq.elim
/-- f(a, b, ..) -/
theorem pe_d (D : Df X.prog X.w X.K X.mg X.base CX k x st ps sp) (hr : Room j X.A) (hk : k ≤ j) (hg : X.A.guards = some []) (hx : Passes CX X E)
    (gl : Gl X x) (ha : PA X (e :: es) t) (hdb : (x == ("__debug__" : Str)) = false := by decide) (he : starEach (e :: es) X.env = (false, eval e X.env) :: starEach es X.env := by rfl)
    (hpl : (backTo pos (starEach es X.env)).any (·.1) = false := by rfl) : PE X (.Call (.Name x p) (e :: es) [] pos) (tCall sp [] E t) := by
  obtain ⟨f, fd, hm, F, G⟩ := D.ex
  refine ⟨fun pins s σ H Q I h => ?_⟩
  refine wpAny_Call_Name_kw (ld_glob I gl hm ?_ hdb)
  refine PySem.W.callWith_K (h₀ := X.base) I.ok.mod.kin F.kp ?_ he hpl
  refine thn (ha.run pos pins s σ H _ I h) ?_
  rintro us s1 ⟨vs, H1, I1, r, q⟩
  refine ⟨I1.kIn, ?_⟩
  rw [List.append_nil] at q
  refine G.called (pairs := []) (first := us) (hr.mono hk) hg hx I1 r ?_ q
  obtain ⟨oc, od, kV, doc, pm, an, cdv, ct, osl, rfl, _, _⟩ := F.ex
  exact D.bd kV doc pm an cdv ct us (by rw [← r.length]; exact G.len _ _ _ _ q)
/-- f() -/
theorem pe_d0 (D : Df X.prog X.w X.K X.mg X.base CX k x st ps sp) (hr : Room j X.A) (hk : k ≤ j) (hg : X.A.guards = some []) (hx : Passes CX X E)
    (gl : Gl X x) (hdb : (x == ("__debug__" : Str)) = false := by decide) : PE X (.Call (.Name x p) [] [] pos) (tCall sp [] E tNil) := by
  obtain ⟨f, fd, hm, F, G⟩ := D.ex
  refine ⟨fun pins s σ H Q I h => ?_⟩
  refine wpAny_Call_Name_kw (ld_glob I gl hm ?_ hdb)
  refine PySem.W.callWith_K0 I.kIn F.kp ?_
  refine G.called (pairs := []) (first := []) (vs := []) (us := []) (hr.mono hk) hg hx I .nil ?_ h
  obtain ⟨oc, od, kV, doc, pm, an, cdv, ct, osl, rfl, _, _⟩ := F.ex
  exact D.bd kV doc pm an cdv ct [] (G.len _ _ _ _ h)
/-- the values in the parameters' order: ix tells for each parameter its place among the written values -/
def putIn {α : Type} (d : α) (ix : List Nat) (us ws : List α) : List α := ix.map fun i => (us ++ ws).getD i d
theorem vals_at {vs : List V} {us : List Value} (r : Vals vs us) (i : Nat) : RelV (vs.getD i .non) (us.getD i .none) := by
  rw [List.getD_eq_getElem?_getD, List.getD_eq_getElem?_getD]
  cases e : vs[i]? with
  | none => rw [r.none_of e]; exact rfl
  | some v =>
    obtain ⟨u, h1, h2⟩ := r.get e
    rw [h1]
    exact h2
theorem vals_put {vs zs : List V} {us ws : List Value} (r : Vals vs us) (q : Vals zs ws) : ∀ ix : List Nat, Vals (putIn .non ix vs zs) (putIn .none ix us ws)
  | [] => .nil
  | i :: ix => .cons (vals_at (r.append q) i) (vals_put r q ix)
def tCallKw (n m : Nat) (sp : Sp) (ix : List Nat) (E : XK) (t tk : TA) : TE := fun σ H Q => t σ H fun vs H1 => tk σ H1 fun zs H2 => vs.length = n ∧ zs.length = m ∧ sp (putIn .non ix vs zs) H2 Q E
/-- how such a call binds -/
def Way (x : Str) (st : Stmt) (ps : List Str) (n : Nat) (ks : List Str) (ix : List Nat) : Prop :=
  ∀ (kV doc pm : Value) (an : Option Addr) (cdv ct : Value) (us ws : List Value), us.length = n → ws.length = ks.length →
    bindArgs (PySem.W.fnOf x x (defArgs st) (defBody st) (defScope st) .none kV doc pm an cdv ct) ⟨us, ks.zip ws⟩ = pure (ps.zip (putIn .none ix us ws))
/-- f(a, .., k = b, ..) -/
theorem pe_dk {n : Nat} {ix : List Nat} (D : Df X.prog X.w X.K X.mg X.base CX k x st ps sp) (hr : Room j X.A) (hk : k ≤ j) (hg : X.A.guards = some []) (hx : Passes CX X E) (wy : Way x st ps n ks ix)
    (gl : Gl X x) (ha : PA X (e :: es) t) (hkw : PK X kws tk) (hall : (backToKw pos (keywordEach kws X.env)).all (·.1.isSome) = true := by rfl) (hks : (backToKw pos (keywordEach kws X.env)).filterMap (·.1) = ks := by rfl)
    (hdb : (x == ("__debug__" : Str)) = false := by decide) (he : starEach (e :: es) X.env = (false, eval e X.env) :: starEach es X.env := by rfl)
    (hpl : ((backTo pos (starEach (e :: es) X.env)).any (·.1) || (backToKw pos (keywordEach kws X.env)).any (·.1.isNone)) = false := by rfl) :
    PE X (.Call (.Name x p) (e :: es) kws pos) (tCallKw n ks.length sp ix E t tk) := by
  obtain ⟨f, fd, hm, F, G⟩ := D.ex
  refine ⟨fun pins s σ H Q I h => ?_⟩
  refine wpAny_Call_Name_kw (ld_glob I gl hm ?_ hdb)
  refine PySem.W.callWith_KW (h₀ := X.base) I.ok.mod.kin F.kp hall ?_ hpl he
  refine thn (ha.run pos pins s σ H _ I h) ?_
  rintro us s1 ⟨vs, H1, I1, r, q⟩
  refine thn (hkw.run pos pins s1 σ H1 _ I1 q) ?_
  rintro ws s2 ⟨zs, H2, I2, rz, l1, l2, q2⟩
  refine ⟨I2.kIn, ?_⟩
  rw [hks]
  refine G.called (pairs := ks.zip ws) (first := us) (hr.mono hk) hg hx I2 (vals_put r rz ix) ?_ q2
  obtain ⟨oc, od, kV, doc, pm, an, cdv, ct, osl, rfl, _, _⟩ := F.ex
  exact wy kV doc pm an cdv ct us ws (r.length.symm.trans l1) (rz.length.symm.trans l2)
/-- f(k = b, ..) -/
theorem pe_dk0 {ix : List Nat} (D : Df X.prog X.w X.K X.mg X.base CX k x st ps sp) (hr : Room j X.A) (hk : k ≤ j) (hg : X.A.guards = some []) (hx : Passes CX X E) (wy : Way x st ps 0 ks ix)
    (gl : Gl X x) (hkw : PK X kws tk) (hall : (backToKw pos (keywordEach kws X.env)).all (·.1.isSome) = true := by rfl) (hks : (backToKw pos (keywordEach kws X.env)).filterMap (·.1) = ks := by rfl)
    (hdb : (x == ("__debug__" : Str)) = false := by decide)
    (hpl : ((backTo pos (starEach [] X.env)).any (·.1) || (backToKw pos (keywordEach kws X.env)).any (·.1.isNone)) = false := by rfl) :
    PE X (.Call (.Name x p) [] kws pos) (tCallKw 0 ks.length sp ix E tNil tk) := by
  obtain ⟨f, fd, hm, F, G⟩ := D.ex
  refine ⟨fun pins s σ H Q I h => ?_⟩
  refine wpAny_Call_Name_kw (ld_glob I gl hm ?_ hdb)
  refine PySem.W.callWith_KW0 (h₀ := X.base) I.ok.mod.kin F.kp hall ?_ hpl
  refine thn (hkw.run pos pins s σ H _ I h) ?_
  rintro ws s2 ⟨zs, H2, I2, rz, l1, l2, q2⟩
  refine ⟨I2.kIn, ?_⟩
  rw [hks]
  refine G.called (pairs := ks.zip ws) (first := []) (hr.mono hk) hg hx I2 (vals_put .nil rz ix) ?_ q2
  obtain ⟨oc, od, kV, doc, pm, an, cdv, ct, osl, rfl, _, _⟩ := F.ex
  exact wy kV doc pm an cdv ct [] ws rfl (rz.length.symm.trans l2)
end
section
variable {X : Cx}
/-- a module's whole number -/
theorem pe_gi {x : Str} {i : Int} {pos : Pos} (hg : Gl X x) (hm : ∃ t, X.mg x = some (.int i t)) (hd : (x == ("__debug__" : Str)) = false := by decide) : PE X (.Name x pos) (tC (.int i)) := by
  obtain ⟨t, hm⟩ := hm
  exact pe_glob hg hm ⟨t, rfl⟩ hd
theorem op_div : OpR X (binaryOp .FloorDiv) (rI CDiv fun i j => .int (i / j)) := op_fdiv
end
end Ow
namespace Ow
open PySem PySem.Spec PyProof.Rows L2
section
variable {X : Cx}
/-- int(n) of a whole number -/
theorem call_int : CallR X (.type "int") (fun xs H Q => ∃ i, xs = [.int i] ∧ Q (.int i) H) := by
  intro pins s σ H xs us Q I r h
  obtain ⟨i, e, q⟩ := h
  exact call_int1 pins s σ H xs us Q I r (.inl ⟨i, e, q⟩)
end
end Ow
/-! Own layer, the end: a law's def under a promise Prm. -/
namespace Ow
open PySem PySem.Spec PyProof.Rows L2
theorem ints_vals : ∀ {us : List Value} {ns : List Int}, IntsAre us ns → Vals (ns.map V.int) us
  | _, _, .nil => .nil
  | _, _, .cons n t h => .cons ⟨t, rfl⟩ (ints_vals h)
section
variable {P : Program} {w : World} {K : PySem.W.Frag} {mg mb : Str → Option Value} {k : Nat} {fa a : Addr} {fd : FuncData} {x : Str} {sp : Sp} {s₁ : Shared} {us : List Value} {ns : List Int}
/-- from an abstract heap H that knows at most the script -/
theorem law_core (KX : K.In s₁.heap) (hns : s₁.heap.Ns mainGlobals mg) (hb : s₁.heap.Ns builtinsNs mb) (hbb : ∀ x : Str, x ≠ "__name__" → mb x = bootBuiltins x) (hlim : s₁.heap.NoLimit) (hg : s₁.gens = #[])
    (ha : s₁.heap.get? a = some { cls := .type "list", data := .seq us.toArray }) (hr : Room k callerA)
    (F : ∀ base : Heap, K.In base → base.Ns mainGlobals mg → Prm P w K mg base CX0 k fa fd [x] sp) (hbind : ∀ u : Value, bindArgs fd ⟨[u], []⟩ = pure [(x, u)])
    (H : Hp) (hH : ∀ b u, H b = some u → b = a ∧ K.lookup a = none ∧ ∃ xs, u = .frz { cls := .type "list", data := .seq us.toArray } (.lst xs)) (hok : HOk P w H s₁.heap)
    (hsp : sp [.ref a] H (fun v _ => v = .bl true) E0) :
    codeAny (model P w) callerA (.call (.ref fa) ⟨[.ref a], []⟩) (fun r s' => r = .ok (.ret (.bool true)) ∧ OldK s₁.heap s'.heap ∧ s'.os = s₁.os ∧ AllBare s'.gens) s₁ := by
  have isN : ∀ {b : Addr} {o : Obj}, s₁.heap.get? b = some o → (∀ its n, o.data ≠ .seq its n) → H b = none := by
    intro b o e d
    cases q : H b with
    | none => rfl
    | some u =>
      obtain ⟨rfl, _, _⟩ := hH b u q
      rw [ha] at e
      cases e
      exact absurd rfl (d us.toArray _)
  have below : ∀ {b : Addr} {m : Str → Option Value}, s₁.heap.Ns b m → (hidT s₁.heap H).Ns b m := by
    rintro b m ⟨o, es, ep, e, d, r⟩
    exact ⟨o, es, ep, hidT_get e (isN e (by intro its n z; rw [d] at z; cases z)), d, r⟩
  have inB : K.In (hidT s₁.heap H) := by
    intro b o e
    refine hidT_get (KX b o e) ?_
    cases q : H b with
    | none => rfl
    | some u =>
      obtain ⟨rfl, z, _⟩ := hH b u q
      rw [z] at e
      cases e
  obtain ⟨mc, n1, n2⟩ := hlim
  have md : Mod K mg (hidT s₁.heap H) := ⟨inB, below hns, ⟨mb, below hb, hbb⟩, ⟨mc, below n1, n2⟩⟩
  have e0 : Env0 P w K mg (hidT s₁.heap H) callerA [] s₁ H :=
    ⟨rfl, md, fun b o e => of_hidT e, Nat.le_of_eq (hidT_size _ _), trivial, (by intro b hb; cases hb), hok, .of_eq hg⟩
  have run := (F _ inB (below hns)).go callerA [] s₁ H ⟨[.ref a], []⟩ [.ref a] [.ref a] _ _ rfl hr e0 (.of_eq (hbind (.ref a))) (.cons rfl .nil) hsp
  refine codeAny_mono run ?_
  intro r s' h
  cases r with
  | error e => exact h.elim
  | ok fl =>
    cases fl with
    | next => exact h.elim
    | brk => exact h.elim
    | cont => exact h.elim
    | ret u =>
      obtain ⟨v, H', os, bare, un, hok', rv, q⟩ := h
      obtain rfl : v = .bl true := q
      obtain rfl : u = Value.bool true := rv
      refine ⟨rfl, OldK.of_keep ?_, os, bare⟩
      intro b o e
      cases q : H b with
      | none => exact un.keep b o e q (by intro z; cases z) (by intro z; cases z)
      | some u =>
        obtain ⟨rfl, _, xs, rfl⟩ := hH b u q
        obtain ⟨f1, _⟩ := hok' b _ (un.frzs b _ _ q)
        rw [ha] at e
        cases e
        exact f1
theorem law_run (KX : K.In s₁.heap) (hns : s₁.heap.Ns mainGlobals mg) (hb : s₁.heap.Ns builtinsNs mb) (hbb : ∀ x : Str, x ≠ "__name__" → mb x = bootBuiltins x) (hlim : s₁.heap.NoLimit) (hg : s₁.gens = #[])
    (ha : s₁.heap.get? a = some { cls := .type "list", data := .seq us.toArray }) (hi : IntsAre us ns) (hl : ns.length ≤ sizeLine) (hr : Room k callerA)
    (F : ∀ base : Heap, K.In base → base.Ns mainGlobals mg → Prm P w K mg base CX0 k fa fd [x] sp) (hbind : ∀ u : Value, bindArgs fd ⟨[u], []⟩ = pure [(x, u)])
    (hsp : ∀ H : Hp, SqL K H a (ns.map V.int) → sp [.ref a] H (fun v _ => v = .bl true) E0) :
    codeAny (model P w) callerA (.call (.ref fa) ⟨[.ref a], []⟩) (fun r s' => r = .ok (.ret (.bool true)) ∧ OldK s₁.heap s'.heap ∧ s'.os = s₁.os ∧ AllBare s'.gens) s₁ := by
  have rv := ints_vals hi
  cases hk : K.lookup a with
  | some o =>
    have e := KX a o hk
    rw [ha] at e
    cases e
    refine law_core KX hns hb hbb hlim hg ha hr F hbind (fun _ => none) (fun b u z => nomatch z) (fun b u z => nomatch z) (hsp _ (.inr ⟨_, us.toArray, _, hk, rfl, rfl, rfl, ?_, ?_⟩))
    · rw [List.size_toArray, hi.length]
      exact hl
    · simpa using rv
  | none =>
    refine law_core KX hns hb hbb hlim hg ha hr F hbind (fun b => if b = a then some (.frz { cls := .type "list", data := .seq us.toArray } (.lst (ns.map V.int))) else none) ?_ ?_ (hsp _ (.inl (.inr ⟨_, if_pos rfl⟩)))
    · intro b u z
      by_cases q : b = a
      · rw [if_pos q] at z
        cases z
        exact ⟨q, hk, _, rfl⟩
      · rw [if_neg q] at z
        cases z
    · intro b u z
      have z : (if b = a then some (HO.frz { cls := .type "list", data := .seq us.toArray } (.lst (ns.map V.int))) else none) = some u := z
      by_cases q : b = a
      · rw [if_pos q] at z
        cases z
        subst q
        exact ⟨ha, (by rw [List.length_map]; exact hl), us, _, rv, ha⟩
      · rw [if_neg q] at z
        cases z
/-- the goal that the head leaves, by the promise of the law's def -/
theorem law_end {l : PySem.W.OpenLaw} {n : Nat} {q : Program} {loose : List Str} {XP : (Str → Option Value) → Heap → Prop} {YP : World → Heap → Prop} {d : DefRec} {K : Params → PySem.W.Frag} {sp : PySem.W.Frag → Sp}
    (hn : l.most = some n) (hn2 : n ≤ sizeLine) (hdf : d.params.defaults = []) (hr : Room k callerA) (hY : ∀ (w : World) (h : Heap), YP w h → (K w.params).In h)
    (F : ∀ (w : World) (mg : Str → Option Value) (fa : Addr) (h : Heap), (K w.params).In h → h.Ns mainGlobals mg → mg d.name = some (.ref fa) →
      ∃ fd : FuncData, (∀ u : Value, bindArgs fd ⟨[u], []⟩ = pure [(x, u)]) ∧ ∀ base : Heap, (K w.params).In base → base.Ns mainGlobals mg → Prm l.prog w (K w.params) mg base CX0 k fa fd [x] (sp (K w.params)))
    (hsp : ∀ (K : PySem.W.Frag) (H : Hp) (a : Addr) (ns : List Int), ns.length ≤ n → SqL K H a (ns.map V.int) → sp K [.ref a] H (fun v _ => v = .bl true) E0) :
    PySem.W.WalkO q loose XP YP l.row.toRowW d [] (fun f vs => PySem.call f vs) := by
  refine Att.attach_call hn hdf ?_
  intro w s₀ s₁ mg mb fa o pm cd doc a vs ns G Y ho hd hcd hmg hobj hints hlen hg
  obtain ⟨fd, hb, hF⟩ := F w mg fa _ (hY w _ Y) G.T.g hmg
  exact law_run (hY w _ Y) G.T.g G.T.b G.T.builtins G.T.nolimit hg hobj hints (Nat.le_trans hlen hn2) hr hF hb fun H hS => hsp _ H a ns hlen hS
end
end Ow
namespace Ow
open PySem PySem.Spec PyProof.Rows L2
/-- what the head tells of a def -/
theorem stands_of {K : PySem.W.Frag} {h : Heap} {mg : Str → Option Value} {x : Str} {st : Stmt} {f : Addr} {od an : Option Addr} {sl : Array (Option Value)} {oc kV doc pm cdv ct : Value} (X : K.In h) (G : h.Ns mainGlobals mg)
    (a : PySem.W.nsIn K mainGlobals x = some (some (.ref f))) (l : K.lookup f = some ⟨oc, od, .func (PySem.W.fnOf x x (defArgs st) (defBody st) (defScope st) .none kV doc pm an cdv ct), sl⟩)
    (c : PySem.W.codeIn K cdv x = true) (k : PySem.W.keepIn K (.ref f) = true) : Stands K mg x st := ⟨f, _, PySem.W.mg_of X G a, fun_mk l c k⟩
theorem none_of {K : PySem.W.Frag} {h : Heap} {mg : Str → Option Value} {x : Str} (X : K.In h) (G : h.Ns mainGlobals mg) (a : PySem.W.nsIn K mainGlobals x = some none) : mg x = none := PySem.W.mg_none_of X G a
theorem int_of {K : PySem.W.Frag} {h : Heap} {mg : Str → Option Value} {x : Str} {i : Int} {t : Tok} (X : K.In h) (G : h.Ns mainGlobals mg) (a : PySem.W.nsIn K mainGlobals x = some (some (.int i t))) : ∃ t, mg x = some (.int i t) := ⟨t, PySem.W.mg_of X G a⟩
end Ow
namespace Ow
open PySem PySem.Spec PyProof.Rows L2
section
variable {P : Program} {w : World} {K : PySem.W.Frag} {mg : Str → Option Value} {base : Heap} {CX : CXT} {k : Nat} {x : Str} {st : Stmt} {ps : List Str} {sp : Sp} {f : Addr} {fd : FuncData}
/-- the promise, of the very def that stands there -/
theorem Df.prm (D : Df P w K mg base CX k x st ps sp) (hm : mg x = some (.ref f)) (F : Fun K x x st f fd) : Prm P w K mg base CX k f fd ps sp := by
  obtain ⟨g, gd, gm, G, R⟩ := D.ex
  rw [hm] at gm
  cases gm
  obtain ⟨o1, d1, _, _, _, _, _, _, l1, _, e1, _⟩ := F.ex
  obtain ⟨o2, d2, _, _, _, _, _, _, l2, _, e2, _⟩ := G.ex
  rw [e1] at e2
  cases e2
  exact R
/-- the law's def: what law_end asks -/
theorem made_of {s : PySem.W.Frag → Sp} (S : Stands K mg x st) (hm : mg x = some (.ref f)) (bd : Bind x st ["script"]) (D : ∀ base : Heap, Df P w K mg base CX k x st ["script"] (s K)) :
    ∃ fd : FuncData, (∀ u : Value, bindArgs fd ⟨[u], []⟩ = pure [(("script" : Str), u)]) ∧ ∀ base : Heap, K.In base → base.Ns mainGlobals mg → Prm P w K mg base CX k f fd ["script"] (s K) := by
  obtain ⟨g, fd, gm, G⟩ := S
  rw [hm] at gm
  cases gm
  refine ⟨fd, fun u => ?_, fun base _ _ => (D base).prm hm G⟩
  obtain ⟨_, _, kV, doc, pm, an, cdv, ct, _, rfl, _, _⟩ := G.ex
  exact bd kV doc pm an cdv ct [u] rfl
end
end Ow
/-! Own layer: repr of data. -/
namespace Ow
open PySem PySem.Spec PyProof.Rows L2
section
variable {X : Cx}
/-- repr(x), x data that holds no dict -/
def rShow (K : PySem.W.Frag) : List V → Hp → VK → Prop := fun xs H Q => ∃ (v : V) (d : PyData), xs = [v] ∧ Dp K H v d ∧ (d.hasDict = false ∧ d.showable = true ∧ d.depth ≤ 60 ∧ d.shown.length ≤ sizeLine) ∧ Q (.str d.shown) H
theorem call_show (hu : X.A.units + 64 < cLine) (hg : X.A.guards = some []) : CallR X (.builtin "repr") (rShow X.K) := by
  intro pins s σ H xs us Q I r h
  obtain ⟨v, d, rfl, hd, ⟨h1, h2, h3, h4⟩, q⟩ := h
  obtain ⟨u, rfl, ru⟩ := vals1 r
  have fin : ∀ (t : Tok) (tk : Nat) (h' : Heap), (∀ b o, s.heap.get? b = some o → h'.get? b = some o) → EP X pins σ Q (.str d.shown t) { s with heap := h', toks := tk } :=
    fun t tk h' hk => ⟨.str d.shown, H, I.kept hk, ⟨t, rfl⟩, q⟩
  have big : ∀ {a : Addr}, u = .ref a → wpAny (model X.prog X.w) X.A (call (.builtin "repr") [u]) (EP X pins σ Q) X.xe s := by
    intro a e
    subst e
    obtain ⟨as, rd⟩ := Dp.reads I d v _ hd ru
    exact repr_of_reads' rd h2 (fun z => by rw [h1] at z; cases z) hg (by omega) (fun _ _ e => e) (fun h' t tk hk => fin t tk h' hk) h4
  cases hd with
  | non => cases ru; exact PySem.P.repr_of_none (fin _ _ _ fun _ _ e => e)
  | bl b => cases ru; exact PySem.P.repr_of_bool (fin _ _ _ fun _ _ e => e)
  | int i => obtain ⟨t, rfl⟩ := ru; exact PySem.P.repr_of_int (by simpa [PyData.showable] using h2) (fin _ _ _ fun _ _ e => e)
  | str x => obtain ⟨t, rfl⟩ := ru; exact PySem.P.repr_of_str (fin _ _ _ fun _ _ e => e) (by simpa [PyData.shown] using h4)
  | @lst a xs ds hs ha => exact big ru
  | @tup a xs ds hs ha => exact big ru
end
end Ow
namespace Eqr
open PySem PySem.Spec L2
/-! ### numbers of a prime: the plain mathematics -/
/-- no part from 2 to 99 below the number divides it: the law's own look -/
def primeB (n : Int) : Bool := decide (1 < n) && !((List.range 98).any fun i => decide ((i : Int) + 2 < n) && decide (n % ((i : Int) + 2) = 0))
def within : V → Int → Int → Bool
  | .int i, l, m => decide (l ≤ i) && decide (i ≤ m)
  | _, _, _ => false
def prV : V → Bool
  | .int i => (decide (3 ≤ i) && decide (i ≤ 9973)) && primeB i
  | _ => false
/-- a prime here -/
def Pr (p : Int) : Prop := prV (.int p) = true
theorem Pr.lo {p : Int} (h : Pr p) : 3 ≤ p := by
  unfold Pr prV at h
  simp only [Bool.and_eq_true, decide_eq_true_eq] at h
  exact h.1.1
theorem Pr.hi {p : Int} (h : Pr p) : p ≤ 9973 := by
  unfold Pr prV at h
  simp only [Bool.and_eq_true, decide_eq_true_eq] at h
  exact h.1.2
theorem Pr.pr {p : Int} (h : Pr p) : primeB p = true := by
  unfold Pr prV at h
  simp only [Bool.and_eq_true, decide_eq_true_eq] at h
  exact h.2
theorem primeB_no {n : Int} (h : primeB n = true) {d : Int} (h2 : 2 ≤ d) (h3 : d < 100) (h4 : d < n) : n % d ≠ 0 := by
  intro e
  unfold primeB at h
  simp only [Bool.and_eq_true, Bool.not_eq_true', decide_eq_true_eq] at h
  have q : (List.range 98).any (fun i => decide ((i : Int) + 2 < n) && decide (n % ((i : Int) + 2) = 0)) = true := by
    rw [List.any_eq_true]
    refine ⟨(d - 2).toNat, List.mem_range.mpr (by omega), ?_⟩
    have e1 : (((d - 2).toNat : Nat) : Int) + 2 = d := by omega
    rw [e1]
    simp only [Bool.and_eq_true, decide_eq_true_eq]
    exact ⟨h4, e⟩
  rw [q] at h
  exact absurd h.2 (by decide)
theorem primeB_of {n : Int} (h1 : 1 < n) (h : ∀ d : Int, 2 ≤ d → d < 100 → d < n → n % d ≠ 0) : primeB n = true := by
  unfold primeB
  simp only [Bool.and_eq_true, Bool.not_eq_true', decide_eq_true_eq]
  refine ⟨h1, ?_⟩
  cases q : (List.range 98).any (fun i => decide ((i : Int) + 2 < n) && decide (n % ((i : Int) + 2) = 0)) with
  | false => rfl
  | true =>
    rw [List.any_eq_true] at q
    obtain ⟨i, hi, e⟩ := q
    simp only [Bool.and_eq_true, decide_eq_true_eq] at e
    have := List.mem_range.mp hi
    exact absurd e.2 (h _ (by omega) (by omega) e.1)
/-- what the trial by rising divisors finds: no divisor up to the root, no divisor at all -/
theorem no_small {n : Int} (h1 : 1 < n) (h2 : n < 10201) (h : ∀ d : Int, 2 ≤ d → d * d ≤ n → n % d ≠ 0) : primeB n = true := by
  refine primeB_of h1 fun d d1 d2 d3 e => ?_
  by_cases c : d * d ≤ n
  · exact h d d1 c e
  · obtain ⟨k, hk⟩ : ∃ k, n = d * k := ⟨n / d, by have := Int.mul_ediv_add_emod n d; omega⟩
    have k1 : 2 ≤ k := by
      rcases Int.lt_or_le k 2 with z | z
      · rcases Int.lt_or_le k 1 with y | y
        · have : d * k ≤ d * 0 := Int.mul_le_mul_of_nonneg_left (by omega) (by omega)
          omega
        · have : k = 1 := by omega
          subst this
          omega
      · exact z
    have k2 : k < d := by
      rcases Int.lt_or_le k d with z | z
      · exact z
      · have : d * d ≤ d * k := Int.mul_le_mul_of_nonneg_left z (by omega)
        omega
    refine h k k1 ?_ ?_
    · have : k * k ≤ d * k := Int.mul_le_mul_of_nonneg_right (by omega) (by omega)
      omega
    · rw [hk]
      exact Int.mul_emod_left d k
theorem has_small {n d : Int} (h2 : 2 ≤ d) (h3 : d * d ≤ n) (h4 : n % d = 0) (hn : n < 10201) : primeB n = false := by
  have d1 : d < 101 := by
    rcases Int.lt_or_le d 101 with z | z
    · exact z
    · have : 101 * 101 ≤ d * d := Int.mul_le_mul z z (by omega) (by omega)
      omega
  have d2 : d < n := by
    have : 2 * d ≤ d * d := Int.mul_le_mul_of_nonneg_right h2 (by omega)
    omega
  cases q : primeB n with
  | false => rfl
  | true =>
    rcases Int.lt_or_le d 100 with z | z
    · exact absurd h4 (primeB_no q h2 z d2)
    · have e : d = 100 := by omega
      subst e
      exact absurd (show n % 2 = 0 by omega) (primeB_no q (by omega) (by omega) (by omega))

end Eqr
namespace Eqr
open PySem PySem.Spec L2
/-! ### rests: sums of multiples -/
/-- x and y leave the same rest by p -/
def Cg (p x y : Int) : Prop := ∃ k, x = y + p * k
theorem Cg.refl (p x : Int) : Cg p x x := ⟨0, by simp⟩
theorem Cg.symm {p x y : Int} (h : Cg p x y) : Cg p y x := by
  obtain ⟨k, hk⟩ := h
  exact ⟨-k, by rw [hk, Int.mul_neg]; omega⟩
theorem Cg.trans {p x y z : Int} (h : Cg p x y) (g : Cg p y z) : Cg p x z := by
  obtain ⟨k, hk⟩ := h
  obtain ⟨l, hl⟩ := g
  exact ⟨k + l, by rw [hk, hl, Int.mul_add]; omega⟩
theorem Cg.mul {p x y u v : Int} (h : Cg p x y) (g : Cg p u v) : Cg p (x * u) (y * v) := by
  obtain ⟨k, rfl⟩ := h
  obtain ⟨l, rfl⟩ := g
  exact ⟨k * v + y * l + p * k * l, by grind⟩
theorem Cg.add {p x y u v : Int} (h : Cg p x y) (g : Cg p u v) : Cg p (x + u) (y + v) := by
  obtain ⟨k, rfl⟩ := h
  obtain ⟨l, rfl⟩ := g
  exact ⟨k + l, by grind⟩
theorem Cg.sub {p x y u v : Int} (h : Cg p x y) (g : Cg p u v) : Cg p (x - u) (y - v) := by
  obtain ⟨k, rfl⟩ := h
  obtain ⟨l, rfl⟩ := g
  exact ⟨k - l, by grind⟩
theorem Cg.pow {p x y : Int} (h : Cg p x y) : ∀ n : Nat, Cg p (x ^ n) (y ^ n)
  | 0 => by
    rw [Int.pow_zero, Int.pow_zero]
    exact Cg.refl _ _
  | n + 1 => by
    rw [Int.pow_succ, Int.pow_succ]
    exact (Cg.pow h n).mul h
theorem Cg.rest (p x : Int) : Cg p (x % p) x := ⟨-(x / p), by have := Int.mul_ediv_add_emod x p; rw [Int.mul_neg]; omega⟩
theorem Cg.emod {p x y : Int} (h : Cg p x y) : x % p = y % p := by
  obtain ⟨k, rfl⟩ := h
  exact Int.add_mul_emod_self_left y p k
theorem Cg.of {p x y : Int} (h : x % p = y % p) : Cg p x y := (Cg.rest p x).symm.trans (h ▸ Cg.rest p y)
theorem Cg.uniq {p x y : Int} (h : Cg p x y) (x0 : 0 ≤ x) (x1 : x < p) (y0 : 0 ≤ y) (y1 : y < p) : x = y := by
  have e := h.emod
  rw [Int.emod_eq_of_lt x0 x1, Int.emod_eq_of_lt y0 y1] at e
  exact e
/-- a back is one -/
theorem back_uniq {p a r s : Int} (hr : Cg p (r * a) 1) (hs : Cg p (s * a) 1) (r0 : 0 ≤ r) (r1 : r < p) (s0 : 0 ≤ s) (s1 : s < p) : r = s := by
  refine Cg.uniq (p := p) ?_ r0 r1 s0 s1
  have h1 : Cg p (r * (s * a)) (r * 1) := (Cg.refl p r).mul hs
  have h2 : Cg p (s * (r * a)) (s * 1) := (Cg.refl p s).mul hr
  have e : r * (s * a) = s * (r * a) := by grind
  rw [e] at h1
  simpa using h1.symm.trans h2
/-! ### primes -/
theorem Pr.nodiv {p : Int} (h : Pr p) {d : Int} (h2 : 2 ≤ d) (h3 : d < p) : p % d ≠ 0 := by
  intro e
  have lo := h.lo
  have hi := h.hi
  rcases Int.lt_or_le d 100 with z | z
  · exact primeB_no h.pr h2 z h3 e
  · have e2 : p = d * (p / d) := by have := Int.mul_ediv_add_emod p d; omega
    have k1 : 2 ≤ p / d := by
      rcases Int.lt_or_le (p / d) 2 with y | y
      · rcases Int.lt_or_le (p / d) 1 with x | x
        · have : d * (p / d) ≤ d * 0 := Int.mul_le_mul_of_nonneg_left (by omega) (by omega)
          omega
        · have : p / d = 1 := by omega
          rw [this] at e2
          omega
      · exact y
    have k2 : p / d < 100 := by
      rcases Int.lt_or_le (p / d) 100 with y | y
      · exact y
      · have : 100 * 100 ≤ d * (p / d) := Int.mul_le_mul z y (by omega) (by omega)
        omega
    refine primeB_no h.pr k1 k2 ?_ ?_
    · have : 2 * (p / d) ≤ d * (p / d) := Int.mul_le_mul_of_nonneg_right h2 (by omega)
      omega
    · generalize p / d = k at e2
      rw [e2]
      exact Int.mul_emod_left d k
/-- nothing but 1 parts both -/
def Apart (x y : Int) : Prop := ∀ d : Int, 2 ≤ d → ¬ (x % d = 0 ∧ y % d = 0)
theorem Pr.apart {p a : Int} (h : Pr p) (a0 : 0 < a) (a1 : a < p) : Apart p a := by
  rintro d d2 ⟨e1, e2⟩
  refine h.nodiv d2 ?_ e1
  rcases Int.lt_or_le d p with z | z
  · exact z
  · rw [Int.emod_eq_of_lt (by omega) (by omega)] at e2
    omega
theorem Apart.step {x y : Int} (h : Apart x y) (k : Int) : Apart y (x - k * y) := by
  rintro d d2 ⟨e1, e2⟩
  refine h d d2 ⟨?_, e1⟩
  have h1 := Int.dvd_of_emod_eq_zero e1
  have h2 := Int.dvd_of_emod_eq_zero e2
  refine Int.emod_eq_zero_of_dvd ?_
  have : x = (x - k * y) + k * y := by omega
  rw [this]
  exact Int.dvd_add h2 (Int.dvd_mul_of_dvd_right h1)
/-- one turn of the looking for a back -/
structure Turn (p a hi lo u v : Int) : Prop where
  ap : Apart hi lo
  h0 : 0 ≤ lo
  h1 : lo < hi
  h2 : hi ≤ p
  c1 : Cg p (u * a) hi
  c2 : Cg p (v * a) lo
theorem Turn.first {p a : Int} (h : Pr p) (a0 : 0 < a) (a1 : a < p) : Turn p a p a 0 1 :=
  ⟨h.apart a0 a1, by omega, a1, Int.le_refl _, ⟨-1, by omega⟩, ⟨0, by omega⟩⟩
theorem Turn.next {p a hi lo u v : Int} (t : Turn p a hi lo u v) (hl : 0 < lo) : Turn p a lo (hi - hi / lo * lo) v (u - hi / lo * v) := by
  have e := Int.mul_ediv_add_emod hi lo
  have e1 : hi - hi / lo * lo = hi % lo := by rw [Int.mul_comm]; omega
  refine ⟨t.ap.step _, ?_, ?_, by have := t.h1; have := t.h2; omega, t.c2, ?_⟩
  · rw [e1]
    exact Int.emod_nonneg _ (by omega)
  · rw [e1]
    exact Int.emod_lt_of_pos _ hl
  · have q := t.c1.sub ((Cg.refl p (hi / lo)).mul t.c2)
    have e2 : (u - hi / lo * v) * a = u * a - hi / lo * (v * a) := by grind
    rw [e2]
    exact q
theorem Turn.low {p a hi lo u v : Int} (t : Turn p a hi lo u v) (hl : 1 < lo) : 0 < hi - hi / lo * lo := by
  have n := t.next (by omega)
  rcases Int.lt_or_le 0 (hi - hi / lo * lo) with z | z
  · exact z
  · have e : hi - hi / lo * lo = 0 := by have := n.h0; omega
    exact absurd ⟨Int.emod_self, by rw [e]; simp⟩ (n.ap lo (by omega))
theorem Turn.share {p a hi lo u v : Int} (t : Turn p a hi lo u v) (hl : 0 < lo) : 0 ≤ hi / lo ∧ hi / lo ≤ p := by
  have h1 := t.h1
  have h2 := t.h2
  refine ⟨Int.ediv_nonneg (by omega) (by omega), Int.le_trans (Int.ediv_le_self _ (by omega)) h2⟩
theorem Turn.late {p a hi u v : Int} (t : Turn p a hi 1 u v) : Cg p (v % p * a) 1 := ((Cg.rest p v).mul (Cg.refl p a)).trans t.c2
theorem Turn.here {p a hi u v : Int} (t : Turn p a hi 0 u v) : Cg p (u % p * a) 1 := by
  have e : hi = 1 := by
    rcases Int.lt_or_le hi 2 with z | z
    · have := t.h1
      omega
    · exact absurd ⟨Int.emod_self, by simp⟩ (t.ap hi z)
  have q := ((Cg.rest p u).mul (Cg.refl p a)).trans t.c1
  rw [e] at q
  exact q
/-- the product of both halves at each turn -/
theorem Turn.half {p a hi lo u v : Int} (t : Turn p a hi lo u v) (hl : 0 < lo) : lo * (hi - hi / lo * lo) * 2 ≤ hi * lo := by
  have h1 := t.h1
  have n := t.next hl
  have s1 : 1 ≤ hi / lo := by
    rw [Int.le_ediv_iff_mul_le hl]
    omega
  have s2 : 1 * lo ≤ hi / lo * lo := Int.mul_le_mul_of_nonneg_right s1 (by omega)
  have n1 := n.h1
  have s3 : (hi - hi / lo * lo) * 2 ≤ hi := by omega
  have s4 : lo * ((hi - hi / lo * lo) * 2) ≤ lo * hi := Int.mul_le_mul_of_nonneg_left s3 (by omega)
  rw [Int.mul_assoc, Int.mul_comm hi lo]
  exact s4
/-! ### powers -/
theorem pow_odd (x : Int) (n : Nat) (h : n % 2 = 1) : x ^ n = x * (x * x) ^ (n / 2) := by
  have e : n = n / 2 + n / 2 + 1 := by omega
  conv => lhs; rw [e, Int.pow_succ, Int.pow_add, ← Int.mul_pow]
  exact Int.mul_comm _ _
theorem pow_even (x : Int) (n : Nat) (h : n % 2 = 0) : x ^ n = (x * x) ^ (n / 2) := by
  have e : n = n / 2 + n / 2 := by omega
  conv => lhs; rw [e, Int.pow_add, ← Int.mul_pow]
/-- r is a's power to m, by backs below 0 -/
def PowIs (p a m r : Int) : Prop := (0 ≤ r ∧ r < p) ∧ (0 ≤ m → Cg p r (a ^ m.toNat)) ∧ (m < 0 → Cg p (r * a ^ (-m).toNat) 1)
theorem PowIs.uniq {p a m r s : Int} (h : PowIs p a m r) (g : PowIs p a m s) : r = s := by
  rcases Int.lt_or_le m 0 with z | z
  · exact back_uniq (h.2.2 z) (g.2.2 z) h.1.1 h.1.2 g.1.1 g.1.2
  · exact Cg.uniq ((h.2.1 z).trans (g.2.1 z).symm) h.1.1 h.1.2 g.1.1 g.1.2
/-! ### Fermat -/
theorem perm_of_in : ∀ (l m : List Nat), l.Nodup → (∀ x ∈ l, x ∈ m) → m.length ≤ l.length → l.Perm m
  | [], m, _, _, h => by
    have e : m = [] := List.eq_nil_of_length_eq_zero (by simpa using h)
    rw [e]
  | a :: l, m, nd, hs, h => by
    have am : a ∈ m := hs a List.mem_cons_self
    have p1 := List.perm_cons_erase am
    have nd' := List.nodup_cons.mp nd
    have p2 : l.Perm (m.erase a) := by
      refine perm_of_in l (m.erase a) nd'.2 (fun x hx => ?_) ?_
      · have ne : x ≠ a := fun e => nd'.1 (e ▸ hx)
        exact (List.mem_erase_of_ne ne).mpr (hs x (List.mem_cons_of_mem _ hx))
      · rw [List.length_erase_of_mem am]
        simp only [List.length_cons] at h
        omega
    exact (List.Perm.cons a p2).trans p1.symm
def prodN : List Nat → Nat
  | [] => 1
  | x :: l => x * prodN l
theorem prodN_perm {l m : List Nat} (h : l.Perm m) : prodN l = prodN m := by
  induction h with
  | nil => rfl
  | cons x _ ih => simp only [prodN, ih]
  | swap x y l => simp only [prodN]; rw [← Nat.mul_assoc, ← Nat.mul_assoc, Nat.mul_comm x y]
  | trans _ _ ih1 ih2 => exact ih1.trans ih2
theorem prodN_mod (a p : Nat) : ∀ l : List Nat, prodN (l.map fun i => a * i % p) % p = a ^ l.length * prodN l % p
  | [] => by simp [prodN]
  | x :: l => by
    show (a * x % p) * prodN (l.map fun i => a * i % p) % p = a ^ (l.length + 1) * (x * prodN l) % p
    rw [Nat.mul_mod, prodN_mod a p l, Nat.mod_mod, ← Nat.mul_mod]
    congr 1
    rw [Nat.pow_succ]
    grind
theorem coprime_of {p a : Nat} (h : ∀ d : Nat, 2 ≤ d → d < p → p % d ≠ 0) (a0 : 0 < a) (a1 : a < p) : Nat.Coprime p a := by
  have g1 := Nat.gcd_dvd_left p a
  have g2 := Nat.gcd_dvd_right p a
  have g3 : Nat.gcd p a ≤ a := Nat.le_of_dvd a0 g2
  have g4 : 0 < Nat.gcd p a := Nat.gcd_pos_of_pos_right _ a0
  show Nat.gcd p a = 1
  rcases Nat.lt_or_ge (Nat.gcd p a) 2 with z | z
  · omega
  · exact absurd (Nat.mod_eq_zero_of_dvd g1) (h _ z (by omega))
theorem coprime_prod {p : Nat} : ∀ l : List Nat, (∀ x ∈ l, Nat.Coprime p x) → Nat.Coprime p (prodN l)
  | [], _ => Nat.coprime_one_right p
  | x :: l, h => Nat.Coprime.mul_right (h x List.mem_cons_self) (coprime_prod l fun y hy => h y (List.mem_cons_of_mem _ hy))
theorem nodup_map {f : Nat → Nat} : ∀ {l : List Nat}, l.Nodup → (∀ x ∈ l, ∀ y ∈ l, f x = f y → x = y) → (l.map f).Nodup
  | [], _, _ => List.nodup_nil
  | a :: l, nd, h => by
    have nd' := List.nodup_cons.mp nd
    rw [List.map_cons, List.nodup_cons]
    refine ⟨fun hm => ?_, nodup_map nd'.2 fun x hx y hy => h x (List.mem_cons_of_mem _ hx) y (List.mem_cons_of_mem _ hy)⟩
    obtain ⟨x, hx, e⟩ := List.mem_map.mp hm
    have := h x (List.mem_cons_of_mem _ hx) a List.mem_cons_self e
    exact nd'.1 (this ▸ hx)
theorem cancel_mod {p x y c : Nat} (h : Nat.Coprime p c) (hxy : y ≤ x) (e : x * c % p = y * c % p) : x % p = y % p := by
  have d : p ∣ (x - y) * c := by
    rw [Nat.sub_mul]
    exact Nat.dvd_of_mod_eq_zero (Nat.sub_mod_eq_zero_of_mod_eq e)
  have d2 := h.dvd_of_dvd_mul_right d
  obtain ⟨k, hk⟩ := d2
  have : x = y + p * k := by omega
  rw [this, Nat.add_mul_mod_self_left]
/-- Fermat, in natural numbers -/
theorem fermatN {p a : Nat} (h : ∀ d : Nat, 2 ≤ d → d < p → p % d ≠ 0) (hp : 2 ≤ p) (a0 : 0 < a) (a1 : a < p) : a ^ (p - 1) % p = 1 := by
  have ca := coprime_of h a0 a1
  have inR : ∀ x ∈ List.range' 1 (p - 1), 0 < x ∧ x < p := fun x hx => by
    have := List.mem_range'_1.mp hx
    omega
  have cp : Nat.Coprime p (prodN (List.range' 1 (p - 1))) := coprime_prod _ fun x hx => coprime_of h (inR x hx).1 (inR x hx).2
  have inj : ∀ x ∈ List.range' 1 (p - 1), ∀ y ∈ List.range' 1 (p - 1), a * x % p = a * y % p → x = y := by
    intro x hx y hy e
    obtain ⟨x0, x1⟩ := inR x hx
    obtain ⟨y0, y1⟩ := inR y hy
    rw [Nat.mul_comm a x, Nat.mul_comm a y] at e
    have fin : ∀ u v : Nat, u < p → v < p → v ≤ u → u * a % p = v * a % p → u = v := fun u v hu hv huv e => by
      have q := cancel_mod ca huv e
      rw [Nat.mod_eq_of_lt hu, Nat.mod_eq_of_lt hv] at q
      exact q
    rcases Nat.le_total y x with z | z
    · exact fin x y x1 y1 z e
    · exact (fin y x y1 x1 z e.symm).symm
  have pm : ((List.range' 1 (p - 1)).map fun i => a * i % p).Perm (List.range' 1 (p - 1)) := by
    refine perm_of_in _ _ (nodup_map (List.nodup_range' 1 (by omega)) inj) (fun x hx => ?_) (by simp)
    obtain ⟨i, hi, rfl⟩ := List.mem_map.mp hx
    obtain ⟨i0, i1⟩ := inR i hi
    have lt : a * i % p < p := Nat.mod_lt _ (by omega)
    have ne : a * i % p ≠ 0 := fun e => by
      have d := Nat.dvd_of_mod_eq_zero e
      have d2 := ca.dvd_of_dvd_mul_left d
      have := Nat.le_of_dvd i0 d2
      omega
    exact List.mem_range'_1.mpr ⟨by omega, by omega⟩
  have e1 := prodN_mod a p (List.range' 1 (p - 1))
  rw [prodN_perm pm, List.length_range'] at e1
  have e2 : a ^ (p - 1) * prodN (List.range' 1 (p - 1)) % p = 1 * prodN (List.range' 1 (p - 1)) % p := by rw [Nat.one_mul]; exact e1.symm
  have q := cancel_mod cp (Nat.one_le_iff_ne_zero.mpr (Nat.ne_of_gt (Nat.pow_pos a0))) e2
  rw [q, Nat.mod_eq_of_lt (by omega)]
theorem Pr.nat {p : Int} (h : Pr p) : ∀ d : Nat, 2 ≤ d → d < p.toNat → p.toNat % d ≠ 0 := by
  intro d d2 d3 e
  refine h.nodiv (d := (d : Int)) (by omega) (by omega) ?_
  have lo := h.lo
  have e2 : p = ((p.toNat : Nat) : Int) := by omega
  rw [e2, ← Int.natCast_emod, e]
  rfl
theorem fermat {p a : Int} (h : Pr p) (a0 : 0 < a) (a1 : a < p) : Cg p (a ^ (p - 1).toNat) 1 := by
  have lo := h.lo
  have q := fermatN (p := p.toNat) (a := a.toNat) h.nat (by omega) (by omega) (by omega)
  have e1 : a = ((a.toNat : Nat) : Int) := by omega
  have e2 : p = ((p.toNat : Nat) : Int) := by omega
  have e3 : (p - 1).toNat = p.toNat - 1 := by omega
  refine Cg.of ?_
  rw [e3, Int.emod_eq_of_lt (show (0:Int) ≤ 1 by omega) (show (1 : Int) < p by omega)]
  conv => lhs; rw [e1, e2]
  rw [← Int.natCast_pow, ← Int.natCast_emod]
  have e4 : ((p.toNat : Nat) : Int).toNat = p.toNat := by omega
  rw [e4, q]
  rfl
theorem dvd_pow_of {p a : Nat} (h : Nat.Coprime p a) (hp : 2 ≤ p) : ∀ n : Nat, a ^ n % p ≠ 0
  | 0 => by rw [Nat.pow_zero, Nat.mod_eq_of_lt (by omega)]; omega
  | n + 1 => fun e => by
    rw [Nat.pow_succ] at e
    have d := h.dvd_of_dvd_mul_right (Nat.dvd_of_mod_eq_zero e)
    exact dvd_pow_of h hp n (Nat.mod_eq_zero_of_dvd d)
/-- a power of a number but 0 is none -/
theorem pow_ne {p a : Int} (h : Pr p) (a0 : 0 < a) (a1 : a < p) (n : Nat) : a ^ n % p ≠ 0 := by
  have lo := h.lo
  have q := dvd_pow_of (coprime_of (p := p.toNat) (a := a.toNat) h.nat (by omega) (by omega)) (by omega) n
  have e1 : a = ((a.toNat : Nat) : Int) := by omega
  have e2 : p = ((p.toNat : Nat) : Int) := by omega
  intro e
  rw [e1, e2, ← Int.natCast_pow, ← Int.natCast_emod] at e
  omega

end Eqr
namespace Eqr
open PySem PySem.Spec L2
def top (i : Nat) : Stmt := PySem.Challenge.pw_equalruns_k11_whole_numbers_reckoned.main.body.getD i (.Pass ⟨0, 0, 0, 0⟩)
abbrev s_is_integer : Stmt := top 10
theorem sc_is_integer : FnScope ["value"] ["value"] (defScope s_is_integer) := ⟨rfl, rfl, rfl, by decide +kernel, rfl, by decide +kernel, by decide +kernel⟩
theorem bd_is_integer : Ow.Bind "is_integer" s_is_integer ["value"] := fun _ _ _ _ _ _ us hl => match us, hl with | [_], _ => rfl
abbrev s_is_within : Stmt := top 11
theorem sc_is_within : FnScope ["value", "least", "most"] ["value", "least", "most"] (defScope s_is_within) := ⟨rfl, rfl, rfl, by decide +kernel, rfl, by decide +kernel, by decide +kernel⟩
theorem bd_is_within : Ow.Bind "is_within" s_is_within ["value", "least", "most"] := fun _ _ _ _ _ _ us hl => match us, hl with | [_, _, _], _ => rfl
abbrev s_least_divisor : Stmt := top 12
theorem sc_least_divisor : FnScope ["count", "found"] ["count"] (defScope s_least_divisor) := ⟨rfl, rfl, rfl, by decide +kernel, rfl, by decide +kernel, by decide +kernel⟩
theorem bd_least_divisor : Ow.Bind "least_divisor" s_least_divisor ["count"] := fun _ _ _ _ _ _ us hl => match us, hl with | [_], _ => rfl
abbrev s_is_prime_of : Stmt := top 13
theorem sc_is_prime_of : FnScope ["value"] ["value"] (defScope s_is_prime_of) := ⟨rfl, rfl, rfl, by decide +kernel, rfl, by decide +kernel, by decide +kernel⟩
theorem bd_is_prime_of : Ow.Bind "is_prime_of" s_is_prime_of ["value"] := fun _ _ _ _ _ _ us hl => match us, hl with | [_], _ => rfl
abbrev s_check_prime : Stmt := top 14
theorem sc_check_prime : FnScope ["value"] ["value"] (defScope s_check_prime) := ⟨rfl, rfl, rfl, by decide +kernel, rfl, by decide +kernel, by decide +kernel⟩
theorem bd_check_prime : Ow.Bind "check_prime" s_check_prime ["value"] := fun _ _ _ _ _ _ us hl => match us, hl with | [_], _ => rfl
abbrev s_is_number_of : Stmt := top 15
theorem sc_is_number_of : FnScope ["prime", "value"] ["prime", "value"] (defScope s_is_number_of) := ⟨rfl, rfl, rfl, by decide +kernel, rfl, by decide +kernel, by decide +kernel⟩
theorem bd_is_number_of : Ow.Bind "is_number_of" s_is_number_of ["prime", "value"] := fun _ _ _ _ _ _ us hl => match us, hl with | [_, _], _ => rfl
abbrev s_check_number : Stmt := top 16
theorem sc_check_number : FnScope ["prime", "value"] ["prime", "value"] (defScope s_check_number) := ⟨rfl, rfl, rfl, by decide +kernel, rfl, by decide +kernel, by decide +kernel⟩
theorem bd_check_number : Ow.Bind "check_number" s_check_number ["prime", "value"] := fun _ _ _ _ _ _ us hl => match us, hl with | [_, _], _ => rfl
abbrev s_powered : Stmt := top 19
theorem sc_powered : FnScope ["prime", "one", "many", "found", "square", "left", "odd"] ["prime", "one", "many"] (defScope s_powered) := ⟨rfl, rfl, rfl, by decide +kernel, rfl, by decide +kernel, by decide +kernel⟩
theorem bd_powered : Ow.Bind "powered" s_powered ["prime", "one", "many"] := fun _ _ _ _ _ _ us hl => match us, hl with | [_, _, _], _ => rfl
abbrev s_back_of : Stmt := top 20
theorem sc_back_of : FnScope ["prime", "one", "high", "low", "many", "late", "share"] ["prime", "one"] (defScope s_back_of) := ⟨rfl, rfl, rfl, by decide +kernel, rfl, by decide +kernel, by decide +kernel⟩
theorem bd_back_of : Ow.Bind "back_of" s_back_of ["prime", "one"] := fun _ _ _ _ _ _ us hl => match us, hl with | [_, _], _ => rfl
abbrev s_check_pair : Stmt := top 21
theorem sc_check_pair : FnScope ["prime", "one", "other"] ["prime", "one", "other"] (defScope s_check_pair) := ⟨rfl, rfl, rfl, by decide +kernel, rfl, by decide +kernel, by decide +kernel⟩
theorem bd_check_pair : Ow.Bind "check_pair" s_check_pair ["prime", "one", "other"] := fun _ _ _ _ _ _ us hl => match us, hl with | [_, _, _], _ => rfl
abbrev s_is_prime : Stmt := top 22
theorem sc_is_prime : FnScope ["value"] ["value"] (defScope s_is_prime) := ⟨rfl, rfl, rfl, by decide +kernel, rfl, by decide +kernel, by decide +kernel⟩
theorem bd_is_prime : Ow.Bind "is_prime" s_is_prime ["value"] := fun _ _ _ _ _ _ us hl => match us, hl with | [_], _ => rfl
abbrev s_rest : Stmt := top 23
theorem sc_rest : FnScope ["prime", "number"] ["prime", "number"] (defScope s_rest) := ⟨rfl, rfl, rfl, by decide +kernel, rfl, by decide +kernel, by decide +kernel⟩
theorem bd_rest : Ow.Bind "rest" s_rest ["prime", "number"] := fun _ _ _ _ _ _ us hl => match us, hl with | [_, _], _ => rfl
abbrev s_plus : Stmt := top 24
theorem sc_plus : FnScope ["prime", "one", "other"] ["prime", "one", "other"] (defScope s_plus) := ⟨rfl, rfl, rfl, by decide +kernel, rfl, by decide +kernel, by decide +kernel⟩
theorem bd_plus : Ow.Bind "plus" s_plus ["prime", "one", "other"] := fun _ _ _ _ _ _ us hl => match us, hl with | [_, _, _], _ => rfl
abbrev s_minus : Stmt := top 25
theorem sc_minus : FnScope ["prime", "one", "other"] ["prime", "one", "other"] (defScope s_minus) := ⟨rfl, rfl, rfl, by decide +kernel, rfl, by decide +kernel, by decide +kernel⟩
theorem bd_minus : Ow.Bind "minus" s_minus ["prime", "one", "other"] := fun _ _ _ _ _ _ us hl => match us, hl with | [_, _, _], _ => rfl
abbrev s_times : Stmt := top 26
theorem sc_times : FnScope ["prime", "one", "other"] ["prime", "one", "other"] (defScope s_times) := ⟨rfl, rfl, rfl, by decide +kernel, rfl, by decide +kernel, by decide +kernel⟩
theorem bd_times : Ow.Bind "times" s_times ["prime", "one", "other"] := fun _ _ _ _ _ _ us hl => match us, hl with | [_, _, _], _ => rfl
abbrev s_over : Stmt := top 27
theorem sc_over : FnScope ["prime", "one", "other"] ["prime", "one", "other"] (defScope s_over) := ⟨rfl, rfl, rfl, by decide +kernel, rfl, by decide +kernel, by decide +kernel⟩
theorem bd_over : Ow.Bind "over" s_over ["prime", "one", "other"] := fun _ _ _ _ _ _ us hl => match us, hl with | [_, _, _], _ => rfl
abbrev s_back : Stmt := top 28
theorem sc_back : FnScope ["prime", "one"] ["prime", "one"] (defScope s_back) := ⟨rfl, rfl, rfl, by decide +kernel, rfl, by decide +kernel, by decide +kernel⟩
theorem bd_back : Ow.Bind "back" s_back ["prime", "one"] := fun _ _ _ _ _ _ us hl => match us, hl with | [_, _], _ => rfl
abbrev s_power : Stmt := top 29
theorem sc_power : FnScope ["prime", "one", "many"] ["prime", "one", "many"] (defScope s_power) := ⟨rfl, rfl, rfl, by decide +kernel, rfl, by decide +kernel, by decide +kernel⟩
theorem bd_power : Ow.Bind "power" s_power ["prime", "one", "many"] := fun _ _ _ _ _ _ us hl => match us, hl with | [_, _, _], _ => rfl
abbrev s_law_pot : Stmt := top 31
theorem sc_law_pot : FnScope ["script", "k", "cell"] ["script", "k"] (defScope s_law_pot) := ⟨rfl, rfl, rfl, by decide +kernel, rfl, by decide +kernel, by decide +kernel⟩
theorem bd_law_pot : Ow.Bind "_law_pot" s_law_pot ["script", "k"] := fun _ _ _ _ _ _ us hl => match us, hl with | [_, _], _ => rfl
abbrev s_law_draw : Stmt := top 32
theorem sc_law_draw : FnScope ["pot", "many", "digit"] ["pot", "many"] (defScope s_law_draw) := ⟨rfl, rfl, rfl, by decide +kernel, rfl, by decide +kernel, by decide +kernel⟩
theorem bd_law_draw : Ow.Bind "_law_draw" s_law_draw ["pot", "many"] := fun _ _ _ _ _ _ us hl => match us, hl with | [_, _], _ => rfl
abbrev s_law_pick : Stmt := top 33
theorem sc_law_pick : FnScope ["pot", "some"] ["pot", "some"] (defScope s_law_pick) := ⟨rfl, rfl, rfl, by decide +kernel, rfl, by decide +kernel, by decide +kernel⟩
theorem bd_law_pick : Ow.Bind "_law_pick" s_law_pick ["pot", "some"] := fun _ _ _ _ _ _ us hl => match us, hl with | [_, _], _ => rfl
abbrev s_law_is_prime : Stmt := top 34
theorem sc_law_is_prime : FnScope ["number", "part"] ["number"] (defScope s_law_is_prime) := ⟨rfl, rfl, rfl, by decide +kernel, rfl, by decide +kernel, by decide +kernel⟩
theorem bd_law_is_prime : Ow.Bind "_law_is_prime" s_law_is_prime ["number"] := fun _ _ _ _ _ _ us hl => match us, hl with | [_], _ => rfl
abbrev s_law_prime : Stmt := top 35
theorem sc_law_prime : FnScope ["pot", "first", "number"] ["pot"] (defScope s_law_prime) := ⟨rfl, rfl, rfl, by decide +kernel, rfl, by decide +kernel, by decide +kernel⟩
theorem bd_law_prime : Ow.Bind "_law_prime" s_law_prime ["pot"] := fun _ _ _ _ _ _ us hl => match us, hl with | [_], _ => rfl
abbrev s_law_back : Stmt := top 36
theorem sc_law_back : FnScope ["prime", "one", "near", "far", "here", "late", "turn", "share"] ["prime", "one"] (defScope s_law_back) := ⟨rfl, rfl, rfl, by decide +kernel, rfl, by decide +kernel, by decide +kernel⟩
theorem bd_law_back : Ow.Bind "_law_back" s_law_back ["prime", "one"] := fun _ _ _ _ _ _ us hl => match us, hl with | [_, _], _ => rfl
abbrev s_law_power : Stmt := top 37
theorem sc_law_power : FnScope ["prime", "one", "many", "base", "found", "left", "turn"] ["prime", "one", "many"] (defScope s_law_power) := ⟨rfl, rfl, rfl, by decide +kernel, rfl, by decide +kernel, by decide +kernel⟩
theorem bd_law_power : Ow.Bind "_law_power" s_law_power ["prime", "one", "many"] := fun _ _ _ _ _ _ us hl => match us, hl with | [_, _, _], _ => rfl
abbrev s_law_is_told : Stmt := top 38
theorem sc_law_is_told : FnScope ["value", "due"] ["value", "due"] (defScope s_law_is_told) := ⟨rfl, rfl, rfl, by decide +kernel, rfl, by decide +kernel, by decide +kernel⟩
theorem bd_law_is_told : Ow.Bind "_law_is_told" s_law_is_told ["value", "due"] := fun _ _ _ _ _ _ us hl => match us, hl with | [_, _], _ => rfl
abbrev s_law_are_told : Stmt := top 39
theorem sc_law_are_told : FnScope ["some", "due", "value"] ["some", "due"] (defScope s_law_are_told) := ⟨rfl, rfl, rfl, by decide +kernel, rfl, by decide +kernel, by decide +kernel⟩
theorem bd_law_are_told : Ow.Bind "_law_are_told" s_law_are_told ["some", "due"] := fun _ _ _ _ _ _ us hl => match us, hl with | [_, _], _ => rfl
abbrev s_law_two_right : Stmt := top 40
theorem sc_law_two_right : FnScope ["prime", "one", "other", "due"] ["prime", "one", "other"] (defScope s_law_two_right) := ⟨rfl, rfl, rfl, by decide +kernel, rfl, by decide +kernel, by decide +kernel⟩
theorem bd_law_two_right : Ow.Bind "_law_two_right" s_law_two_right ["prime", "one", "other"] := fun _ _ _ _ _ _ us hl => match us, hl with | [_, _, _], _ => rfl
abbrev s_law_one_right : Stmt := top 41
theorem sc_law_one_right : FnScope ["pot", "prime", "one", "due", "turn", "many"] ["pot", "prime", "one"] (defScope s_law_one_right) := ⟨rfl, rfl, rfl, by decide +kernel, rfl, by decide +kernel, by decide +kernel⟩
theorem bd_law_one_right : Ow.Bind "_law_one_right" s_law_one_right ["pot", "prime", "one"] := fun _ _ _ _ _ _ us hl => match us, hl with | [_, _, _], _ => rfl
abbrev s_law_right : Stmt := top 42
theorem sc_law_right : FnScope ["pot", "prime", "turn", "number", "numbers", "one", "other", "some", "value", "is_so"] ["pot"] (defScope s_law_right) := ⟨rfl, rfl, rfl, by decide +kernel, rfl, by decide +kernel, by decide +kernel⟩
theorem bd_law_right : Ow.Bind "_law_right" s_law_right ["pot"] := fun _ _ _ _ _ _ us hl => match us, hl with | [_], _ => rfl
abbrev s_law : Stmt := top 43
theorem sc_law : FnScope ["script", "k"] ["script"] (defScope s_law) := ⟨rfl, rfl, rfl, by decide +kernel, rfl, by decide +kernel, by decide +kernel⟩
theorem bd_law : Ow.Bind "law" s_law ["script"] := fun _ _ _ _ _ _ us hl => match us, hl with | [_], _ => rfl
theorem w_plus_0_other_one_prime : Ow.Way "plus" s_plus ["prime", "one", "other"] 0 ["other", "one", "prime"] [2, 1, 0] := fun _ _ _ _ _ _ us ws h1 h2 => match us, ws, h1, h2 with | [], [_, _, _], _, _ => rfl
theorem w_minus_0_other_one_prime : Ow.Way "minus" s_minus ["prime", "one", "other"] 0 ["other", "one", "prime"] [2, 1, 0] := fun _ _ _ _ _ _ us ws h1 h2 => match us, ws, h1, h2 with | [], [_, _, _], _, _ => rfl
theorem w_times_0_other_one_prime : Ow.Way "times" s_times ["prime", "one", "other"] 0 ["other", "one", "prime"] [2, 1, 0] := fun _ _ _ _ _ _ us ws h1 h2 => match us, ws, h1, h2 with | [], [_, _, _], _, _ => rfl
theorem w_over_0_other_one_prime : Ow.Way "over" s_over ["prime", "one", "other"] 0 ["other", "one", "prime"] [2, 1, 0] := fun _ _ _ _ _ _ us ws h1 h2 => match us, ws, h1, h2 with | [], [_, _, _], _, _ => rfl
theorem w_back_0_one_prime : Ow.Way "back" s_back ["prime", "one"] 0 ["one", "prime"] [1, 0] := fun _ _ _ _ _ _ us ws h1 h2 => match us, ws, h1, h2 with | [], [_, _], _, _ => rfl
theorem w_power_0_many_one_prime : Ow.Way "power" s_power ["prime", "one", "many"] 0 ["many", "one", "prime"] [2, 1, 0] := fun _ _ _ _ _ _ us ws h1 h2 => match us, ws, h1, h2 with | [], [_, _, _], _, _ => rfl
theorem w_rest_0_number_prime : Ow.Way "rest" s_rest ["prime", "number"] 0 ["number", "prime"] [1, 0] := fun _ _ _ _ _ _ us ws h1 h2 => match us, ws, h1, h2 with | [], [_, _], _, _ => rfl
theorem w_is_prime_0_value : Ow.Way "is_prime" s_is_prime ["value"] 0 ["value"] [0] := fun _ _ _ _ _ _ us ws h1 h2 => match us, ws, h1, h2 with | [], [_], _, _ => rfl
/-- what the top has written -/
structure Tx (K : PySem.W.Frag) (mg : Str → Option Value) : Prop where
  b_abs : mg "abs" = none
  b_all : mg "all" = none
  b_any : mg "any" = none
  b_bool : mg "bool" = none
  b_divmod : mg "divmod" = none
  b_int : mg "int" = none
  b_isinstance : mg "isinstance" = none
  b_len : mg "len" = none
  b_max : mg "max" = none
  b_min : mg "min" = none
  b_range : mg "range" = none
  b_repr : mg "repr" = none
  c_LEAST_PRIME : ∃ t, mg "LEAST_PRIME" = some (.int 3 t)
  c_MOST_EXPONENT : ∃ t, mg "MOST_EXPONENT" = some (.int 1000000 t)
  c_MOST_PRIME : ∃ t, mg "MOST_PRIME" = some (.int 9973 t)
  f_is_integer : Ow.Stands K mg "is_integer" s_is_integer
  f_is_within : Ow.Stands K mg "is_within" s_is_within
  f_least_divisor : Ow.Stands K mg "least_divisor" s_least_divisor
  f_is_prime_of : Ow.Stands K mg "is_prime_of" s_is_prime_of
  f_check_prime : Ow.Stands K mg "check_prime" s_check_prime
  f_is_number_of : Ow.Stands K mg "is_number_of" s_is_number_of
  f_check_number : Ow.Stands K mg "check_number" s_check_number
  f_powered : Ow.Stands K mg "powered" s_powered
  f_back_of : Ow.Stands K mg "back_of" s_back_of
  f_check_pair : Ow.Stands K mg "check_pair" s_check_pair
  f_is_prime : Ow.Stands K mg "is_prime" s_is_prime
  f_rest : Ow.Stands K mg "rest" s_rest
  f_plus : Ow.Stands K mg "plus" s_plus
  f_minus : Ow.Stands K mg "minus" s_minus
  f_times : Ow.Stands K mg "times" s_times
  f_over : Ow.Stands K mg "over" s_over
  f_back : Ow.Stands K mg "back" s_back
  f_power : Ow.Stands K mg "power" s_power
  f_law_pot : Ow.Stands K mg "_law_pot" s_law_pot
  f_law_draw : Ow.Stands K mg "_law_draw" s_law_draw
  f_law_pick : Ow.Stands K mg "_law_pick" s_law_pick
  f_law_is_prime : Ow.Stands K mg "_law_is_prime" s_law_is_prime
  f_law_prime : Ow.Stands K mg "_law_prime" s_law_prime
  f_law_back : Ow.Stands K mg "_law_back" s_law_back
  f_law_power : Ow.Stands K mg "_law_power" s_law_power
  f_law_is_told : Ow.Stands K mg "_law_is_told" s_law_is_told
  f_law_are_told : Ow.Stands K mg "_law_are_told" s_law_are_told
  f_law_two_right : Ow.Stands K mg "_law_two_right" s_law_two_right
  f_law_one_right : Ow.Stands K mg "_law_one_right" s_law_one_right
  f_law_right : Ow.Stands K mg "_law_right" s_law_right
  f_law : Ow.Stands K mg "law" s_law
end Eqr
namespace Eqr
open PySem PySem.Spec L2
/-! ### kinds of values -/
/-- a value and whether it is a whole number -/
inductive IsV (H : Hp) : V → Bool → Prop
  | int (i : Int) : IsV H (.int i) true
  | non : IsV H .non false
  | bl (b : Bool) : IsV H (.bl b) false
  | str (x : Str) : IsV H (.str x) false
  | lst {a : Addr} {xs : List V} (h : H a = some (.lst xs)) : IsV H (.ref a) false
  | tup {a : Addr} {xs : List V} (h : H a = some (.tup xs)) : IsV H (.ref a) false
theorem kit_no {K : PySem.W.Frag} {a b : String} {u : Bool} (h : kitB a b = some u) : PySem.W.kitOne K (.type a) (.type b) = some u := kit_ty h
section
variable {P : Program} {w : World} {K : PySem.W.Frag} {mg : Str → Option Value} {base : Heap}
/-! ### the parts of basics -/
def sp_is_integer : Sp := fun vs H Q _ => ∃ v b, vs = [v] ∧ IsV H v b ∧ Q (.bl b) H
theorem D_is_integer (T : Tx K mg) : Ow.Df P w K mg base CX0 1 "is_integer" s_is_integer ["value"] (sp_is_integer) := by
  refine Ow.df_of T.f_is_integer sc_is_integer bd_is_integer (fun vs H Q E h => ?_) (fun cdv A outer s H vs Q E f hg hr h => ?_)
  · obtain ⟨_, _, rfl, _⟩ := h
    rfl
  · obtain ⟨v, b, rfl, hv, q⟩ := h
    have hu := hr.units
    refine ⟨_, (pss_one (ps_ret (pe_and (pe_callB call_isi (by rfl) T.b_isinstance (by decide +kernel) (pa_cons (pv 0) (pa_cons (pe_bltn (v := .ty "int") (by rfl) T.b_int (by decide +kernel) rfl) pa_nil))) (pe_one (pe_not (pe_callB call_isi (by rfl) T.b_isinstance (by decide +kernel) (pa_cons (pv 0) (pa_cons (pe_bltn (v := .ty "bool") (by rfl) T.b_bool (by decide +kernel) rfl) pa_nil)))))))), ?_⟩
    refine ⟨_, rfl, v, .ty "int", ?_⟩
    cases hv with
    | int i => exact ⟨_, _, _, rfl, .ty _, .base (.int i), kit_ty (by decide +kernel), _, rfl, iteT ⟨_, rfl, _, _, _, _, false, rfl, .ty _, .base (.int i), kit_ty (by decide +kernel), _, rfl, q⟩⟩
    | non => exact ⟨_, _, _, rfl, .ty _, .base .non, kit_ty (by decide +kernel), _, rfl, iteF q⟩
    | bl b => exact ⟨_, _, _, rfl, .ty _, .base (.bl b), kit_ty (by decide +kernel), _, rfl, iteT ⟨_, rfl, _, _, _, _, true, rfl, .ty _, .base (.bl b), kit_ty (by decide +kernel), _, rfl, q⟩⟩
    | str x => exact ⟨_, _, _, rfl, .ty _, .base (.str x), kit_ty (by decide +kernel), _, rfl, iteF q⟩
    | lst h => exact ⟨_, _, _, rfl, .ty _, .base (.lst h), kit_ty (by decide +kernel), _, rfl, iteF q⟩
    | tup h => exact ⟨_, _, _, rfl, .ty _, .base (.tup h), kit_ty (by decide +kernel), _, rfl, iteF q⟩
def sp_is_within : Sp := fun vs H Q _ => ∃ v b l m, vs = [v, .int l, .int m] ∧ IsV H v b ∧ Q (.bl (within v l m)) H
theorem D_is_within (T : Tx K mg) : Ow.Df P w K mg base CX0 2 "is_within" s_is_within ["value", "least", "most"] (sp_is_within) := by
  refine Ow.df_of T.f_is_within sc_is_within bd_is_within (fun vs H Q E h => ?_) (fun cdv A outer s H vs Q E f hg hr h => ?_)
  · obtain ⟨_, _, _, _, rfl, _⟩ := h
    rfl
  · obtain ⟨v, b, l, m, rfl, hv, q⟩ := h
    have hu := hr.units
    refine ⟨_, (pss_one (ps_ret (pe_and (Ow.pe_d (D_is_integer T) hr (by decide) hg pass0 (by rfl) (pa_cons (pv 0) pa_nil)) (pe_one (pe_chain op_le op_le (pv 1) (pv 0) (pv 2)))))), ?_⟩
    refine ⟨_, rfl, v, b, rfl, hv, _, rfl, ?_⟩
    cases hv with
    | int i =>
      refine iteT ⟨_, rfl, _, rfl, _, _, rfl, rfl, _, rfl, ?_⟩
      have e : within (.int i) l m = (decide (l ≤ i) && decide (i ≤ m)) := rfl
      rw [e] at q
      cases h1 : decide (l ≤ i) with
      | true =>
        rw [h1] at q
        exact iteT ⟨_, rfl, _, _, rfl, rfl, q⟩
      | false =>
        rw [h1] at q
        exact iteF q
    | non => exact iteF q
    | bl b => exact iteF q
    | str x => exact iteF q
    | lst h => exact iteF q
    | tup h => exact iteF q
def sp_least_divisor : Sp := fun vs H Q _ => ∃ n, vs = [.int n] ∧ 1 < n ∧ n < 10201 ∧ ∀ r, decide (r = n) = primeB n → Q (.int r) H
theorem D_least_divisor (T : Tx K mg) : Ow.Df P w K mg base CX0 1 "least_divisor" s_least_divisor ["count"] (sp_least_divisor) := by
  refine Ow.df_of T.f_least_divisor sc_least_divisor bd_least_divisor (fun vs H Q E h => ?_) (fun cdv A outer s H vs Q E f hg hr h => ?_)
  · obtain ⟨_, rfl, _⟩ := h
    rfl
  · obtain ⟨n, rfl, h1, h2, q⟩ := h
    have hu := hr.units
    refine ⟨_, (pss_cons (ps_set (i := 1) sc_least_divisor.nd rfl (Or.inl rfl) pe_int)
      (pss_cons (ps_while PassesOwn.never (pt_cmpR op_le (pe_op op_mul (pv 1) (pv 1)) (pv 0) (nomark _))
      (pss_cons (ps_if (pt_cmpR op_eq (pe_op op_mod (pv 0) (pv 1)) pe_int (nomark _))
        (pss_one (ps_ret (pv 1)))
        pss_nil)
        (pss_one (ps_set (i := 1) sc_least_divisor.nd rfl (Or.inl rfl) (pe_op op_add (pv 1) pe_int)))))
      (pss_one (ps_ret (pv 0))))), ?_⟩
    refine ⟨fun m σ H' => H' = H ∧ ∃ d : Int, σ = [some (.int n), some (.int d)] ∧ m = (n + 1 - d).toNat ∧ 2 ≤ d ∧ d ≤ n ∧ ∀ c : Int, 2 ≤ c → c < d → n % c ≠ 0, ⟨_, rfl, 2, rfl, rfl, by omega, by omega, fun c c1 c2 => by omega⟩, ?_⟩
    rintro m σ H' ⟨rfl, d, rfl, rfl, d1, d2, hd⟩
    refine ⟨_, rfl, _, rfl, _, _, rfl, rfl, .inl ⟨by omega, by omega⟩, _, rfl, _, _, rfl, rfl, _, rfl, ?_⟩
    refine ite2 (fun c => ⟨fun σ' H' => ∃ m', m' < _ ∧ _, fun _ _ h => h, ?_⟩) (fun c => ?_)
    · have c : d * d ≤ n := of_decide_eq_true c
      refine ⟨_, rfl, _, rfl, _, _, rfl, rfl, (show 0 < d by omega), rfl, _, rfl, ?_⟩
      refine ite2 (fun z => ?_) (fun z => ?_)
      · have z : n % d = 0 := V.int.inj (of_decide_eq_true z)
        have np := has_small d1 c z h2
        refine ⟨_, rfl, q d ?_⟩
        rw [np]
        refine decide_eq_false fun e => ?_
        subst e
        have : 2 * d ≤ d * d := Int.mul_le_mul_of_nonneg_right d1 (by omega)
        omega
      · have z : n % d ≠ 0 := fun e => z (decide_eq_true (congrArg V.int e))
        have dn : d ≠ n := fun e => by
          subst e
          exact z (Int.emod_self)
        refine ⟨_, rfl, _, _, rfl, rfl, (n + 1 - (d + 1)).toNat, by omega, rfl, d + 1, rfl, rfl, by omega, by omega, fun x x1 x2 => ?_⟩
        rcases Int.lt_or_le x d with y | y
        · exact hd x x1 y
        · have e : x = d := by omega
          rw [e]
          exact z
    · have c : ¬ d * d ≤ n := fun z => c (decide_eq_true z)
      refine ⟨_, rfl, q n ?_⟩
      rw [decide_eq_true rfl]
      refine (no_small h1 h2 fun x x1 x2 => hd x x1 ?_).symm
      rcases Int.lt_or_le x d with y | y
      · exact y
      · have : d * d ≤ x * x := Int.mul_le_mul y y (by omega) (by omega)
        omega
end

end Eqr
namespace Eqr
open PySem PySem.Spec L2
section
variable {P : Program} {w : World} {K : PySem.W.Frag} {mg : Str → Option Value} {base : Heap}
def sp_is_prime_of : Sp := fun vs H Q _ => ∃ v b, vs = [v] ∧ IsV H v b ∧ Q (.bl (prV v)) H
theorem D_is_prime_of (T : Tx K mg) : Ow.Df P w K mg base CX0 3 "is_prime_of" s_is_prime_of ["value"] (sp_is_prime_of) := by
  refine Ow.df_of T.f_is_prime_of sc_is_prime_of bd_is_prime_of (fun vs H Q E h => ?_) (fun cdv A outer s H vs Q E f hg hr h => ?_)
  · obtain ⟨_, _, rfl, _⟩ := h
    rfl
  · obtain ⟨v, b, rfl, hv, q⟩ := h
    have hu := hr.units
    refine ⟨_, (pss_one (ps_ret (pe_and (Ow.pe_d (D_is_within T) hr (by decide) hg pass0 (by rfl) (pa_cons (pv 0) (pa_cons (Ow.pe_gi rfl T.c_LEAST_PRIME) (pa_cons (Ow.pe_gi rfl T.c_MOST_PRIME) pa_nil)))) (pe_one (pe_cmpR op_eq (Ow.pe_d (D_least_divisor T) hr (by decide) hg pass0 (by rfl) (pa_cons (pv 0) pa_nil)) (pv 0) (nomark _)))))), ?_⟩
    refine ⟨_, rfl, v, b, 3, 9973, rfl, hv, _, rfl, ?_⟩
    cases hv with
    | int i =>
      have e : within (.int i) 3 9973 = (decide (3 ≤ i) && decide (i ≤ 9973)) := rfl
      have e2 : prV (.int i) = ((decide (3 ≤ i) && decide (i ≤ 9973)) && primeB i) := rfl
      rw [e2] at q
      rw [e]
      cases h1 : (decide (3 ≤ i) && decide (i ≤ 9973)) with
      | true =>
        rw [h1] at q
        simp only [Bool.and_eq_true, decide_eq_true_eq] at h1
        refine iteT ⟨_, rfl, i, rfl, by omega, by omega, fun r hr => ⟨_, rfl, rfl, ?_⟩⟩
        have e3 : decide (V.int r = V.int i) = primeB i := by
          rw [← hr]
          exact decide_eq_decide.mpr ⟨V.int.inj, fun e => congrArg V.int e⟩
        rw [e3]
        exact q
      | false =>
        rw [h1] at q
        exact iteF q
    | non => exact iteF q
    | bl b => exact iteF q
    | str x => exact iteF q
    | lst h => exact iteF q
    | tup h => exact iteF q
def sp_check_prime : Sp := fun vs H Q _ => ∃ p, vs = [.int p] ∧ Pr p ∧ Q .non H
theorem D_check_prime (T : Tx K mg) : Ow.Df P w K mg base CX0 4 "check_prime" s_check_prime ["value"] (sp_check_prime) := by
  refine Ow.df_of T.f_check_prime sc_check_prime bd_check_prime (fun vs H Q E h => ?_) (fun cdv A outer s H vs Q E f hg hr h => ?_)
  · obtain ⟨_, rfl, _⟩ := h
    rfl
  · obtain ⟨p, rfl, hp, q⟩ := h
    have hu := hr.units
    refine ⟨_, (pss_one (ps_if (pt_not (pt_val (Ow.pe_d (D_is_prime_of T) hr (by decide) hg pass0 (by rfl) (pa_cons (pv 0) pa_nil))))
      (pss_one ps_never)
      pss_nil)), ?_⟩
    refine ⟨_, rfl, _, _, rfl, .int p, true, congrArg V.bl hp, ?_⟩
    exact iteF q
def sp_is_number_of : Sp := fun vs H Q _ => ∃ p v b, vs = [.int p, v] ∧ IsV H v b ∧ Q (.bl (within v 0 (p - 1))) H
theorem D_is_number_of (T : Tx K mg) : Ow.Df P w K mg base CX0 3 "is_number_of" s_is_number_of ["prime", "value"] (sp_is_number_of) := by
  refine Ow.df_of T.f_is_number_of sc_is_number_of bd_is_number_of (fun vs H Q E h => ?_) (fun cdv A outer s H vs Q E f hg hr h => ?_)
  · obtain ⟨_, _, _, rfl, _⟩ := h
    rfl
  · obtain ⟨p, v, b, rfl, hv, q⟩ := h
    have hu := hr.units
    refine ⟨_, (pss_one (ps_ret (Ow.pe_d (D_is_within T) hr (by decide) hg pass0 (by rfl) (pa_cons (pv 1) (pa_cons pe_int (pa_cons (pe_op op_sub (pv 0) pe_int) pa_nil)))))), ?_⟩
    exact ⟨_, rfl, _, rfl, _, _, rfl, rfl, _, _, _, _, rfl, hv, q⟩
/-- a number of a prime -/
def Nm (p a : Int) : Prop := 0 ≤ a ∧ a < p
theorem Nm.within {p a : Int} (h : Nm p a) : within (.int a) 0 (p - 1) = true := by
  have e : Eqr.within (.int a) 0 (p - 1) = (decide (0 ≤ a) && decide (a ≤ p - 1)) := rfl
  rw [e, decide_eq_true h.1, decide_eq_true (by have := h.2; omega)]
  rfl
def sp_check_number : Sp := fun vs H Q _ => ∃ p a, vs = [.int p, .int a] ∧ Nm p a ∧ Q .non H
theorem D_check_number (T : Tx K mg) : Ow.Df P w K mg base CX0 4 "check_number" s_check_number ["prime", "value"] (sp_check_number) := by
  refine Ow.df_of T.f_check_number sc_check_number bd_check_number (fun vs H Q E h => ?_) (fun cdv A outer s H vs Q E f hg hr h => ?_)
  · obtain ⟨_, _, rfl, _⟩ := h
    rfl
  · obtain ⟨p, a, rfl, ha, q⟩ := h
    have hu := hr.units
    refine ⟨_, (pss_one (ps_if (pt_not (pt_val (Ow.pe_d (D_is_number_of T) hr (by decide) hg pass0 (by rfl) (pa_cons (pv 0) (pa_cons (pv 1) pa_nil)))))
      (pss_one ps_never)
      pss_nil)), ?_⟩
    refine ⟨_, rfl, _, rfl, p, .int a, true, rfl, .int a, true, ?_, iteF q⟩
    rw [ha.within]
def sp_powered : Sp := fun vs H Q _ => ∃ p a m, vs = [.int p, .int a, .int m] ∧ Pr p ∧ Nm p a ∧ 0 ≤ m ∧ ∀ r H', Same H H' → Nm p r → Cg p r (a ^ m.toNat) → Q (.int r) H'
theorem nm_mod {p x : Int} (h : 0 < p) : Nm p (x % p) := ⟨Int.emod_nonneg _ (by omega), Int.emod_lt_of_pos _ h⟩
theorem same_new {H : Hp} {p : Addr} {o : HO} (h : H p = none) : Same H (upd H p o) := fun b u e => by
  rw [upd_ne (ne_of_none e h)]
  exact e
theorem div_small {i j : Int} (h : 0 < j) (h2 : j < 1073741824) : CDivP i j := ⟨h, PyProof.noPylong_small (by omega)⟩
theorem D_powered (T : Tx K mg) : Ow.Df P w K mg base CX0 1 "powered" s_powered ["prime", "one", "many"] (sp_powered) := by
  refine Ow.df_of T.f_powered sc_powered bd_powered (fun vs H Q E h => ?_) (fun cdv A outer s H vs Q E f hg hr h => ?_)
  · obtain ⟨_, _, _, rfl, _⟩ := h
    rfl
  · obtain ⟨p, a, m, rfl, hp, ha, hm, q⟩ := h
    have hu := hr.units
    refine ⟨_, (pss_cons (ps_par3 (i := 3) (j := 4) (l := 5) rfl sc_powered.nd rfl rfl rfl (by decide) (by decide) (by decide) rfl rfl rfl (pa_cons pe_int (pa_cons (pv 1) (pa_cons (pv 2) pa_nil))) (by rfl))
      (pss_cons (ps_while PassesOwn.never (pt_cmpR op_gt (pv 5) pe_int (nomark _))
      (pss_cons (ps_asg (pe_callB call_divmodW (by rfl) T.b_divmod (by decide +kernel) (pa_cons (pv 5) (pa_cons pe_int pa_nil))) (pg_tup rfl (pgs_cons (pg_name (i := 5) sc_powered.nd rfl (Or.inl rfl)) (pgs_cons (pg_name (i := 6) sc_powered.nd rfl (Or.inl rfl)) pgs_nil))))
        (pss_cons (ps_if (pt_cmpR op_eq (pv 6) pe_int (nomark _))
        (pss_one (ps_set (i := 3) sc_powered.nd rfl (Or.inl rfl) (pe_op op_mod (pe_op op_mul (pv 3) (pv 4)) (pv 0))))
        pss_nil)
        (pss_one (ps_set (i := 4) sc_powered.nd rfl (Or.inl rfl) (pe_op op_mod (pe_op op_mul (pv 4) (pv 4)) (pv 0)))))))
      (pss_one (ps_ret (pv 3))))), ?_⟩
    have lo := hp.lo
    have hi := hp.hi
    refine ⟨_, rfl, _, rfl, _, _, _, rfl, ?_⟩
    refine ⟨fun k σ H' => Same H H' ∧ ∃ (f s l : Int) (o : Option V), σ = [some (.int p), some (.int a), some (.int m), some (.int f), some (.int s), some (.int l), o] ∧ k = l.toNat ∧ Nm p f ∧ Nm p s ∧ 0 ≤ l ∧ Cg p (f * s ^ l.toNat) (a ^ m.toNat),
      ⟨_, Same.refl H, 1, a, m, none, rfl, rfl, ⟨by omega, by omega⟩, ha, hm, by rw [Int.one_mul]; exact Cg.refl _ _⟩, ?_⟩
    rintro k σ H' ⟨sm, f, s, l, o, rfl, rfl, hf, hs, hl, hc⟩
    refine ⟨_, rfl, _, _, rfl, rfl, _, rfl, ?_⟩
    refine ite2 (fun c => ⟨fun σ' H' => ∃ m', m' < _ ∧ _, fun _ _ h => h, ?_⟩) (fun c => ?_)
    · have c : 0 < l := of_decide_eq_true c
      refine ⟨_, rfl, _, _, rfl, div_small (by omega) (by omega), fun t ht => ?_⟩
      refine ⟨t, _, rfl, .inl (.inl upd_same), rfl, _, _, rfl, _, _, rfl, rfl, ?_⟩
      have sm2 : Same H (upd H' t (.tup [.int (l / 2), .int (l % 2)])) := sm.trans (same_new ht)
      have l0 : 0 ≤ l / 2 := by omega
      have l1 : (l / 2).toNat = l.toNat / 2 := by omega
      refine ⟨_, rfl, rfl, _, rfl, ?_⟩
      refine ite2 (fun z => ?_) (fun z => ?_)
      · have z : l % 2 = 1 := V.int.inj (of_decide_eq_true z)
        refine ⟨_, rfl, _, rfl, _, _, rfl, rfl, .inl ⟨by have := hf.1; omega, by have := hf.2; omega⟩, _, rfl, _, _, rfl, rfl, (show 0 < p by omega), ?_⟩
        refine ⟨_, rfl, _, rfl, _, _, rfl, rfl, .inl ⟨by have := hs.1; omega, by have := hs.2; omega⟩, _, rfl, _, _, rfl, rfl, (show 0 < p by omega), ?_⟩
        refine ⟨(l / 2).toNat, by omega, sm2, _, _, _, _, rfl, rfl, nm_mod (by omega), nm_mod (by omega), l0, ?_⟩
        rw [l1]
        refine Cg.trans ?_ hc
        rw [pow_odd s l.toNat (by omega), ← Int.mul_assoc]
        exact (Cg.rest p (f * s)).mul ((Cg.rest p (s * s)).pow _)
      · have z : l % 2 ≠ 1 := fun e => z (decide_eq_true (congrArg V.int e))
        refine ⟨_, rfl, _, rfl, _, _, rfl, rfl, .inl ⟨by have := hs.1; omega, by have := hs.2; omega⟩, _, rfl, _, _, rfl, rfl, (show 0 < p by omega), ?_⟩
        refine ⟨(l / 2).toNat, by omega, sm2, _, _, _, _, rfl, rfl, hf, nm_mod (by omega), l0, ?_⟩
        rw [l1]
        refine Cg.trans ?_ hc
        rw [pow_even s l.toNat (by omega)]
        exact (Cg.refl p f).mul ((Cg.rest p (s * s)).pow _)
    · have c : ¬ 0 < l := fun z => c (decide_eq_true z)
      refine ⟨_, rfl, q f H' sm hf ?_⟩
      have e : l.toNat = 0 := by omega
      rw [e, Int.pow_zero, Int.mul_one] at hc
      exact hc
def sp_back_of : Sp := fun vs H Q _ => ∃ p a, vs = [.int p, .int a] ∧ Pr p ∧ 0 < a ∧ a < p ∧ ∀ r H', Same H H' → Nm p r → Cg p (r * a) 1 → Q (.int r) H'
theorem D_back_of (T : Tx K mg) : Ow.Df P w K mg base CX0 1 "back_of" s_back_of ["prime", "one"] (sp_back_of) := by
  refine Ow.df_of T.f_back_of sc_back_of bd_back_of (fun vs H Q E h => ?_) (fun cdv A outer s H vs Q E f hg hr h => ?_)
  · obtain ⟨_, _, rfl, _⟩ := h
    rfl
  · obtain ⟨p, a, rfl, hp, a0, a1, q⟩ := h
    have hu := hr.units
    refine ⟨_, (pss_cons (ps_asg (pe_tup (pa_cons (pv 0) (pa_cons (pv 1) (pa_cons pe_int (pa_cons pe_int pa_nil))))) (pg_tup rfl (pgs_cons (pg_name (i := 2) sc_back_of.nd rfl (Or.inl rfl)) (pgs_cons (pg_name (i := 3) sc_back_of.nd rfl (Or.inl rfl)) (pgs_cons (pg_name (i := 4) sc_back_of.nd rfl (Or.inl rfl)) (pgs_cons (pg_name (i := 5) sc_back_of.nd rfl (Or.inl rfl)) pgs_nil))))))
      (pss_cons (ps_while PassesOwn.never (pt_cmpR op_gt (pv 3) pe_int (nomark _))
      (pss_cons (ps_set (i := 6) sc_back_of.nd rfl (Or.inl rfl) (pe_op Ow.op_div (pv 2) (pv 3)))
        (pss_one (ps_asg (pe_tup (pa_cons (pv 3) (pa_cons (pe_op op_sub (pv 2) (pe_op op_mul (pv 6) (pv 3))) (pa_cons (pv 5) (pa_cons (pe_op op_sub (pv 4) (pe_op op_mul (pv 6) (pv 5))) pa_nil))))) (pg_tup rfl (pgs_cons (pg_name (i := 2) sc_back_of.nd rfl (Or.inl rfl)) (pgs_cons (pg_name (i := 3) sc_back_of.nd rfl (Or.inl rfl)) (pgs_cons (pg_name (i := 4) sc_back_of.nd rfl (Or.inl rfl)) (pgs_cons (pg_name (i := 5) sc_back_of.nd rfl (Or.inl rfl)) pgs_nil)))))))))
      (pss_one (ps_ret (pe_op op_mod (pv 5) (pv 0)))))), ?_⟩
    have lo := hp.lo
    have hi := hp.hi
    refine ⟨_, rfl, _, rfl, (by show 4 ≤ sizeLine; decide), fun t ht => ?_⟩
    refine ⟨t, _, rfl, .inl (.inl upd_same), rfl, _, _, rfl, _, _, rfl, _, _, rfl, _, _, rfl, rfl, ?_⟩
    refine ⟨fun k σ H' => Same H H' ∧ ∃ (h l u v : Int) (o : Option V), σ = [some (.int p), some (.int a), some (.int h), some (.int l), some (.int u), some (.int v), o] ∧ k = l.toNat ∧ 0 < l ∧ Turn p a h l u v,
      ⟨_, same_new ht, p, a, 0, 1, none, rfl, rfl, a0, .first hp a0 a1⟩, ?_⟩
    rintro k σ H' ⟨sm, h, l, u, v, o, rfl, rfl, hl, tn⟩
    refine ⟨_, rfl, _, _, rfl, rfl, _, rfl, ?_⟩
    have l1 := tn.h1
    have l2 := tn.h2
    refine ite2 (fun c => ⟨fun σ' H' => ∃ m', m' < _ ∧ _, fun _ _ h => h, ?_⟩) (fun c => ?_)
    · have c : 1 < l := of_decide_eq_true c
      have sh := tn.share hl
      have nx := tn.next hl
      have n1 := nx.h1
      refine ⟨_, rfl, _, rfl, _, _, rfl, rfl, ⟨by omega, by omega⟩, ?_⟩
      refine ⟨_, rfl, _, rfl, _, rfl, _, rfl, _, _, rfl, rfl, .inl ⟨by omega, by omega⟩, _, _, rfl, rfl, _, rfl, _, rfl, _, rfl, _, rfl, _, _, rfl, rfl, .inl ⟨by omega, by omega⟩, _, _, rfl, rfl, (by show 4 ≤ sizeLine; decide), fun t2 ht2 => ?_⟩
      refine ⟨t2, _, rfl, .inl (.inl upd_same), rfl, _, _, rfl, _, _, rfl, _, _, rfl, _, _, rfl, rfl, ?_⟩
      exact ⟨_, by omega, sm.trans (same_new ht2), _, _, _, _, _, rfl, rfl, tn.low c, nx⟩
    · have c : ¬ 1 < l := fun z => c (decide_eq_true z)
      have e : l = 1 := by omega
      subst e
      refine ⟨_, rfl, _, rfl, _, _, rfl, rfl, (show 0 < p by omega), ?_⟩
      exact q _ H' sm (nm_mod (by omega)) tn.late
def sp_check_pair : Sp := fun vs H Q _ => ∃ p a b, vs = [.int p, .int a, .int b] ∧ Pr p ∧ Nm p a ∧ Nm p b ∧ Q .non H
theorem D_check_pair (T : Tx K mg) : Ow.Df P w K mg base CX0 5 "check_pair" s_check_pair ["prime", "one", "other"] (sp_check_pair) := by
  refine Ow.df_of T.f_check_pair sc_check_pair bd_check_pair (fun vs H Q E h => ?_) (fun cdv A outer s H vs Q E f hg hr h => ?_)
  · obtain ⟨_, _, _, rfl, _⟩ := h
    rfl
  · obtain ⟨p, a, b, rfl, hp, ha, hb, q⟩ := h
    have hu := hr.units
    refine ⟨_, (pss_cons (ps_expr (Ow.pe_d (D_check_prime T) hr (by decide) hg pass0 (by rfl) (pa_cons (pv 0) pa_nil)))
      (pss_cons (ps_expr (Ow.pe_d (D_check_number T) hr (by decide) hg pass0 (by rfl) (pa_cons (pv 0) (pa_cons (pv 1) pa_nil))))
      (pss_one (ps_expr (Ow.pe_d (D_check_number T) hr (by decide) hg pass0 (by rfl) (pa_cons (pv 0) (pa_cons (pv 2) pa_nil))))))), ?_⟩
    exact ⟨_, rfl, p, rfl, hp, _, rfl, _, rfl, p, a, rfl, ha, _, rfl, _, rfl, p, b, rfl, hb, q⟩
theorem D_is_prime (T : Tx K mg) : Ow.Df P w K mg base CX0 4 "is_prime" s_is_prime ["value"] (sp_is_prime_of) := by
  refine Ow.df_of T.f_is_prime sc_is_prime bd_is_prime (fun vs H Q E h => ?_) (fun cdv A outer s H vs Q E f hg hr h => ?_)
  · obtain ⟨_, _, rfl, _⟩ := h
    rfl
  · obtain ⟨v, b, rfl, hv, q⟩ := h
    have hu := hr.units
    refine ⟨_, (pss_one (ps_ret (Ow.pe_d (D_is_prime_of T) hr (by decide) hg pass0 (by rfl) (pa_cons (pv 0) pa_nil)))), ?_⟩
    exact ⟨_, rfl, v, b, rfl, hv, q⟩
def sp_rest : Sp := fun vs H Q _ => ∃ p n, vs = [.int p, .int n] ∧ Pr p ∧ Q (.int (n % p)) H
theorem D_rest (T : Tx K mg) : Ow.Df P w K mg base CX0 5 "rest" s_rest ["prime", "number"] (sp_rest) := by
  refine Ow.df_of T.f_rest sc_rest bd_rest (fun vs H Q E h => ?_) (fun cdv A outer s H vs Q E f hg hr h => ?_)
  · obtain ⟨_, _, rfl, _⟩ := h
    rfl
  · obtain ⟨p, n, rfl, hp, q⟩ := h
    have hu := hr.units
    refine ⟨_, (pss_cons (ps_expr (Ow.pe_d (D_check_prime T) hr (by decide) hg pass0 (by rfl) (pa_cons (pv 0) pa_nil)))
      (pss_cons (ps_if (pt_not (pt_val (Ow.pe_d (D_is_integer T) hr (by decide) hg pass0 (by rfl) (pa_cons (pv 1) pa_nil))))
      (pss_one ps_never)
      pss_nil)
      (pss_one (ps_ret (pe_op op_mod (pv 1) (pv 0)))))), ?_⟩
    have lo := hp.lo
    exact ⟨_, rfl, p, rfl, hp, _, rfl, _, _, rfl, .int n, true, rfl, iteF ⟨_, rfl, _, rfl, _, _, rfl, rfl, (show 0 < p by omega), q⟩⟩
/-- two numbers and what is made of them -/
def sp_two (f : Int → Int → Int → Int) : Sp := fun vs H Q _ => ∃ p a b, vs = [.int p, .int a, .int b] ∧ Pr p ∧ Nm p a ∧ Nm p b ∧ Q (.int (f p a b)) H
theorem D_plus (T : Tx K mg) : Ow.Df P w K mg base CX0 6 "plus" s_plus ["prime", "one", "other"] (sp_two fun p a b => (a + b) % p) := by
  refine Ow.df_of T.f_plus sc_plus bd_plus (fun vs H Q E h => ?_) (fun cdv A outer s H vs Q E f hg hr h => ?_)
  · obtain ⟨_, _, _, rfl, _⟩ := h
    rfl
  · obtain ⟨p, a, b, rfl, hp, ha, hb, q⟩ := h
    have hu := hr.units
    refine ⟨_, (pss_cons (ps_expr (Ow.pe_d (D_check_pair T) hr (by decide) hg pass0 (by rfl) (pa_cons (pv 0) (pa_cons (pv 1) (pa_cons (pv 2) pa_nil)))))
      (pss_one (ps_ret (pe_op op_mod (pe_op op_add (pv 1) (pv 2)) (pv 0))))), ?_⟩
    have lo := hp.lo
    exact ⟨_, rfl, _, rfl, _, rfl, p, a, b, rfl, hp, ha, hb, _, rfl, _, rfl, _, _, rfl, rfl, _, rfl, _, _, rfl, rfl, (show 0 < p by omega), q⟩
theorem D_minus (T : Tx K mg) : Ow.Df P w K mg base CX0 6 "minus" s_minus ["prime", "one", "other"] (sp_two fun p a b => (a - b) % p) := by
  refine Ow.df_of T.f_minus sc_minus bd_minus (fun vs H Q E h => ?_) (fun cdv A outer s H vs Q E f hg hr h => ?_)
  · obtain ⟨_, _, _, rfl, _⟩ := h
    rfl
  · obtain ⟨p, a, b, rfl, hp, ha, hb, q⟩ := h
    have hu := hr.units
    refine ⟨_, (pss_cons (ps_expr (Ow.pe_d (D_check_pair T) hr (by decide) hg pass0 (by rfl) (pa_cons (pv 0) (pa_cons (pv 1) (pa_cons (pv 2) pa_nil)))))
      (pss_one (ps_ret (pe_op op_mod (pe_op op_sub (pv 1) (pv 2)) (pv 0))))), ?_⟩
    have lo := hp.lo
    exact ⟨_, rfl, _, rfl, _, rfl, p, a, b, rfl, hp, ha, hb, _, rfl, _, rfl, _, _, rfl, rfl, _, rfl, _, _, rfl, rfl, (show 0 < p by omega), q⟩
theorem D_times (T : Tx K mg) : Ow.Df P w K mg base CX0 6 "times" s_times ["prime", "one", "other"] (sp_two fun p a b => a * b % p) := by
  refine Ow.df_of T.f_times sc_times bd_times (fun vs H Q E h => ?_) (fun cdv A outer s H vs Q E f hg hr h => ?_)
  · obtain ⟨_, _, _, rfl, _⟩ := h
    rfl
  · obtain ⟨p, a, b, rfl, hp, ha, hb, q⟩ := h
    have hu := hr.units
    refine ⟨_, (pss_cons (ps_expr (Ow.pe_d (D_check_pair T) hr (by decide) hg pass0 (by rfl) (pa_cons (pv 0) (pa_cons (pv 1) (pa_cons (pv 2) pa_nil)))))
      (pss_one (ps_ret (pe_op op_mod (pe_op op_mul (pv 1) (pv 2)) (pv 0))))), ?_⟩
    have lo := hp.lo
    have hi := hp.hi
    exact ⟨_, rfl, _, rfl, _, rfl, p, a, b, rfl, hp, ha, hb, _, rfl, _, rfl, _, _, rfl, rfl, .inl ⟨by have := ha.1; omega, by have := ha.2; omega⟩, _, rfl, _, _, rfl, rfl, (show 0 < p by omega), q⟩
def sp_over : Sp := fun vs H Q _ => ∃ p a b, vs = [.int p, .int a, .int b] ∧ Pr p ∧ Nm p a ∧ Nm p b ∧ 0 < b ∧ ∀ r H', Same H H' → Nm p r → Cg p (r * b) 1 → Q (.int (a * r % p)) H'
theorem D_over (T : Tx K mg) : Ow.Df P w K mg base CX0 6 "over" s_over ["prime", "one", "other"] (sp_over) := by
  refine Ow.df_of T.f_over sc_over bd_over (fun vs H Q E h => ?_) (fun cdv A outer s H vs Q E f hg hr h => ?_)
  · obtain ⟨_, _, _, rfl, _⟩ := h
    rfl
  · obtain ⟨p, a, b, rfl, hp, ha, hb, b0, q⟩ := h
    have hu := hr.units
    refine ⟨_, (pss_cons (ps_expr (Ow.pe_d (D_check_pair T) hr (by decide) hg pass0 (by rfl) (pa_cons (pv 0) (pa_cons (pv 1) (pa_cons (pv 2) pa_nil)))))
      (pss_cons (ps_if (pt_cmpR op_eq (pv 2) pe_int (nomark _))
      (pss_one ps_never)
      pss_nil)
      (pss_one (ps_ret (pe_op op_mod (pe_op op_mul (pv 1) (Ow.pe_d (D_back_of T) hr (by decide) hg pass0 (by rfl) (pa_cons (pv 0) (pa_cons (pv 2) pa_nil)))) (pv 0)))))), ?_⟩
    have lo := hp.lo
    have hi := hp.hi
    refine ⟨_, rfl, _, rfl, _, rfl, p, a, b, rfl, hp, ha, hb, _, rfl, rfl, _, rfl, ite2 (fun z => ?_) (fun z => ?_)⟩
    · have z : b = 0 := V.int.inj (of_decide_eq_true z)
      omega
    · refine ⟨_, rfl, _, rfl, _, rfl, p, b, rfl, hp, b0, hb.2, fun r H' sm hr hc => ?_⟩
      exact ⟨_, _, rfl, rfl, .inl ⟨by have := ha.1; omega, by have := ha.2; omega⟩, _, rfl, _, _, rfl, rfl, (show 0 < p by omega), q r H' sm hr hc⟩
theorem D_back (T : Tx K mg) : Ow.Df P w K mg base CX0 5 "back" s_back ["prime", "one"] (sp_back_of) := by
  refine Ow.df_of T.f_back sc_back bd_back (fun vs H Q E h => ?_) (fun cdv A outer s H vs Q E f hg hr h => ?_)
  · obtain ⟨_, _, rfl, _⟩ := h
    rfl
  · obtain ⟨p, a, rfl, hp, a0, a1, q⟩ := h
    have hu := hr.units
    refine ⟨_, (pss_cons (ps_expr (Ow.pe_d (D_check_prime T) hr (by decide) hg pass0 (by rfl) (pa_cons (pv 0) pa_nil)))
      (pss_cons (ps_expr (Ow.pe_d (D_check_number T) hr (by decide) hg pass0 (by rfl) (pa_cons (pv 0) (pa_cons (pv 1) pa_nil))))
      (pss_cons (ps_if (pt_cmpR op_eq (pv 1) pe_int (nomark _))
      (pss_one ps_never)
      pss_nil)
      (pss_one (ps_ret (Ow.pe_d (D_back_of T) hr (by decide) hg pass0 (by rfl) (pa_cons (pv 0) (pa_cons (pv 1) pa_nil)))))))), ?_⟩
    refine ⟨_, rfl, p, rfl, hp, _, rfl, _, rfl, p, a, rfl, ⟨by omega, a1⟩, _, rfl, rfl, _, rfl, ite2 (fun z => ?_) (fun z => ?_)⟩
    · have z : a = 0 := V.int.inj (of_decide_eq_true z)
      omega
    · exact ⟨_, rfl, _, rfl, p, a, rfl, hp, a0, a1, q⟩
def sp_power : Sp := fun vs H Q _ => ∃ p a m, vs = [.int p, .int a, .int m] ∧ Pr p ∧ Nm p a ∧ -1000000 ≤ m ∧ m ≤ 1000000 ∧ (m < 0 → 0 < a) ∧ ∀ r H', Same H H' → PowIs p a m r → Q (.int r) H'
theorem D_power (T : Tx K mg) : Ow.Df P w K mg base CX0 5 "power" s_power ["prime", "one", "many"] (sp_power) := by
  refine Ow.df_of T.f_power sc_power bd_power (fun vs H Q E h => ?_) (fun cdv A outer s H vs Q E f hg hr h => ?_)
  · obtain ⟨_, _, _, rfl, _⟩ := h
    rfl
  · obtain ⟨p, a, m, rfl, hp, ha, m0, m1, hm, q⟩ := h
    have hu := hr.units
    refine ⟨_, (pss_cons (ps_expr (Ow.pe_d (D_check_prime T) hr (by decide) hg pass0 (by rfl) (pa_cons (pv 0) pa_nil)))
      (pss_cons (ps_expr (Ow.pe_d (D_check_number T) hr (by decide) hg pass0 (by rfl) (pa_cons (pv 0) (pa_cons (pv 1) pa_nil))))
      (pss_cons (ps_if (pt_not (pt_val (Ow.pe_d (D_is_within T) hr (by decide) hg pass0 (by rfl) (pa_cons (pv 2) (pa_cons (pe_op op_sub pe_int (Ow.pe_gi rfl T.c_MOST_EXPONENT)) (pa_cons (Ow.pe_gi rfl T.c_MOST_EXPONENT) pa_nil))))))
      (pss_one ps_never)
      pss_nil)
      (pss_cons (ps_if (pt_cmpR op_ge (pv 2) pe_int (nomark _))
      (pss_one (ps_ret (Ow.pe_d (D_powered T) hr (by decide) hg pass0 (by rfl) (pa_cons (pv 0) (pa_cons (pv 1) (pa_cons (pv 2) pa_nil))))))
      pss_nil)
      (pss_cons (ps_if (pt_cmpR op_eq (pv 1) pe_int (nomark _))
      (pss_one ps_never)
      pss_nil)
      (pss_one (ps_ret (Ow.pe_d (D_back_of T) hr (by decide) hg pass0 (by rfl) (pa_cons (pv 0) (pa_cons (Ow.pe_d (D_powered T) hr (by decide) hg pass0 (by rfl) (pa_cons (pv 0) (pa_cons (pv 1) (pa_cons (pe_op op_sub pe_int (pv 2)) pa_nil)))) pa_nil)))))))))), ?_⟩
    have lo := hp.lo
    have e : within (.int m) (0 - 1000000) 1000000 = true := by
      have e : within (.int m) (0 - 1000000) 1000000 = (decide (0 - 1000000 ≤ m) && decide (m ≤ 1000000)) := rfl
      rw [e, decide_eq_true (by omega), decide_eq_true m1]
      rfl
    refine ⟨_, rfl, p, rfl, hp, _, rfl, _, rfl, p, a, rfl, ha, _, rfl, _, _, rfl, rfl, .int m, true, _, _, rfl, .int m, _, rfl, ?_⟩
    rw [e]
    refine iteF ?_
    refine ⟨_, rfl, _, _, rfl, rfl, _, rfl, ite2 (fun c => ?_) (fun c => ?_)⟩
    · have c : 0 ≤ m := of_decide_eq_true c
      refine ⟨_, rfl, _, rfl, _, rfl, p, a, m, rfl, hp, ha, c, fun r H' sm hr hc => ?_⟩
      exact q r H' sm ⟨hr, fun _ => hc, fun z => by omega⟩
    · have c : ¬ 0 ≤ m := fun z => c (decide_eq_true z)
      have a0 := hm (by omega)
      refine ⟨_, rfl, rfl, _, rfl, ite2 (fun z => ?_) (fun z => ?_)⟩
      · have z : a = 0 := V.int.inj (of_decide_eq_true z)
        omega
      · refine ⟨_, rfl, _, rfl, _, rfl, _, rfl, _, _, rfl, rfl, p, a, 0 - m, rfl, hp, ha, by omega, fun r H' sm hr hc => ?_⟩
        have r0 : r ≠ 0 := fun z => by
          have e := hc.emod
          rw [z, Int.zero_emod] at e
          exact pow_ne hp a0 ha.2 _ e.symm
        refine ⟨p, r, rfl, hp, by have := hr.1; omega, hr.2, fun s H2 sm2 hs hd => ?_⟩
        refine q s H2 (sm.trans sm2) ⟨hs, fun z => by omega, fun _ => ?_⟩
        have e2 : (-m).toNat = (0 - m).toNat := by omega
        rw [e2]
        exact (((Cg.refl p s).mul hc).symm).trans hd
end

end Eqr
namespace Eqr
open PySem PySem.Spec L2
/-! ### the pot: two numbers, the second one below 2 ^ 32 -/
def PotAt (H : Hp) (a : Addr) : Prop := ∃ x y : Int, H a = some (.lst [.int x, .int y]) ∧ 0 ≤ x ∧ 0 ≤ y ∧ y < 4294967296
/-- nothing known has changed but the pot -/
structure Stp (a : Addr) (H H' : Hp) : Prop where
  kp : ∀ b o, b ≠ a → H b = some o → H' b = some o
  pot : PotAt H' a
theorem Stp.refl {a : Addr} {H : Hp} (h : PotAt H a) : Stp a H H := ⟨fun _ _ _ e => e, h⟩
theorem Stp.trans {a : Addr} {H H1 H2 : Hp} (h : Stp a H H1) (g : Stp a H1 H2) : Stp a H H2 := ⟨fun b o n e => g.kp b o n (h.kp b o n e), g.pot⟩
theorem PotAt.same {a : Addr} {H H' : Hp} (h : PotAt H a) (s : Same H H') : PotAt H' a := by
  obtain ⟨x, y, e, r⟩ := h
  exact ⟨x, y, s _ _ e, r⟩
theorem Stp.same {a : Addr} {H H1 H2 : Hp} (h : Stp a H H1) (s : Same H1 H2) : Stp a H H2 := ⟨fun b o n e => s _ _ (h.kp b o n e), h.pot.same s⟩
theorem Stp.of {a : Addr} {H H1 : Hp} (h : PotAt H a) (s : Same H H1) : Stp a H H1 := (Stp.refl h).same s
theorem PotAt.some {a : Addr} {H : Hp} (h : PotAt H a) : H a ≠ none := by
  obtain ⟨x, y, e, _⟩ := h
  rw [e]
  intro z
  cases z
theorem PotAt.ne {a p : Addr} {H : Hp} (h : PotAt H a) (hp : H p = none) : p ≠ a := fun e => h.some (e ▸ hp)
section
variable {P : Program} {w : World} {K : PySem.W.Frag} {mg : Str → Option Value} {base : Heap}
def sp_law_pot (K : PySem.W.Frag) : Sp := fun vs H Q _ => ∃ a k ns, vs = [.ref a, .int k] ∧ SqL K H a (List.map V.int ns) ∧ 0 ≤ k ∧ ∀ H' p, Same H H' → H p = none → PotAt H' p → Q (.ref p) H'
theorem D_law_pot (T : Tx K mg) : Ow.Df P w K mg base CX0 1 "_law_pot" s_law_pot ["script", "k"] (sp_law_pot K) := by
  refine Ow.df_of T.f_law_pot sc_law_pot bd_law_pot (fun vs H Q E h => ?_) (fun cdv A outer s H vs Q E f hg hr h => ?_)
  · obtain ⟨_, _, _, rfl, _⟩ := h
    rfl
  · obtain ⟨a, k, ns, rfl, hS, hk, q⟩ := h
    have hu := hr.units
    refine ⟨_, (pss_cons (ps_set (i := 2) sc_law_pot.nd rfl (Or.inl rfl) (pe_ifExp (pt_cmpR op_lt (pv 1) (pe_callB call_len_seq (by rfl) T.b_len (by decide +kernel) (pa_cons (pv 0) pa_nil)) (nomark _)) (pe_callB call_abs (by rfl) T.b_abs (by decide +kernel) (pa_cons (pe_ix ix_list (pv 0) (pv 1) (fun _ _ => rfl)) pa_nil)) (pe_op op_add (pe_op op_mul pe_int (pv 1)) pe_int)))
      (pss_one (ps_ret (pe_lst (pa_cons (pe_callB (call_max2 rfl) (by rfl) T.b_max (by decide +kernel) (pa_cons pe_int (pa_cons (pe_op op_sub (pv 2) (pe_op op_pow pe_int pe_int)) pa_nil))) (pa_cons (pe_op op_add (pe_op op_mod (pe_callTy Ow.call_int (by rfl) T.b_int (by decide +kernel) (pa_cons (pe_op op_add (pe_op op_add (pe_op op_mul (pe_op op_mod (pe_callTy Ow.call_int (by rfl) T.b_int (by decide +kernel) (pa_cons (pv 2) pa_nil)) pe_int) pe_int) (pe_op op_mul pe_int (pv 1))) pe_int) pa_nil)) pe_int) pe_int) pa_nil)))))), ?_⟩
    have fin : ∀ x y : Int, 0 ≤ x → 0 ≤ y → y < 4294967296 → [V.int x, V.int y].length ≤ sizeLine ∧ ∀ p, H p = none → Q (.ref p) (upd H p (.lst [.int x, .int y])) :=
      fun x y x0 y0 y1 => ⟨(by show 2 ≤ sizeLine; decide), fun p hp => q _ p (same_new hp) hp ⟨x, y, upd_same, x0, y0, y1⟩⟩
    refine ⟨_, rfl, _, rfl, a, _, rfl, .inl hS, _, _, rfl, rfl, _, rfl, ?_⟩
    refine ite2 (fun c => ?_) (fun c => ?_)
    · have c : k < ((List.map V.int ns).length : Int) := of_decide_eq_true c
      rw [List.length_map] at c
      have g : (List.map V.int ns)[k.toNat]? = some (.int ns[k.toNat]) := by
        rw [List.getElem?_map, List.getElem?_eq_getElem (by omega)]
        rfl
      refine ⟨_, rfl, _, rfl, a, _, k, _, rfl, rfl, hS, at_of (by omega) g, _, rfl, ?_⟩
      generalize (if ns[k.toNat] < 0 then -ns[k.toNat] else ns[k.toNat]) = c
      refine ⟨_, rfl, _, _, rfl, rfl, ⟨by decide, by decide, by decide⟩, _, _, rfl, rfl, _, _, rfl, _, rfl, _, rfl, _, _, rfl, rfl, (by show (0 : Int) < _; omega), _, _, rfl, rfl, (by first | exact .inl ⟨by omega, by omega⟩ | exact .inr ⟨by omega, by omega⟩), _, rfl, _, _, rfl, rfl, (by first | exact .inl ⟨by omega, by omega⟩ | exact .inr ⟨by omega, by omega⟩), _, _, rfl, rfl, _, _, rfl, rfl, _, rfl, _, _, rfl, rfl, (by show (0 : Int) < _; omega), _, _, rfl, rfl, fin _ _ ?_ ?_ ?_⟩
      · split <;> omega
      · have := Int.emod_nonneg (c % 2147483549 * 40014 + 6113 * k + 4127) (show (2147483563 : Int) ≠ 0 by decide)
        omega
      · have := Int.emod_lt_of_pos (c % 2147483549 * 40014 + 6113 * k + 4127) (show (0 : Int) < 2147483563 by decide)
        omega
    · refine ⟨_, rfl, _, _, rfl, rfl, (by first | exact .inl ⟨by omega, by omega⟩ | exact .inr ⟨by omega, by omega⟩), _, _, rfl, rfl, ?_⟩
      generalize 6113 * k + 3613 = c
      refine ⟨_, rfl, _, _, rfl, rfl, ⟨by decide, by decide, by decide⟩, _, _, rfl, rfl, _, _, rfl, _, rfl, _, rfl, _, _, rfl, rfl, (by show (0 : Int) < _; omega), _, _, rfl, rfl, (by first | exact .inl ⟨by omega, by omega⟩ | exact .inr ⟨by omega, by omega⟩), _, rfl, _, _, rfl, rfl, (by first | exact .inl ⟨by omega, by omega⟩ | exact .inr ⟨by omega, by omega⟩), _, _, rfl, rfl, _, _, rfl, rfl, _, rfl, _, _, rfl, rfl, (by show (0 : Int) < _; omega), _, _, rfl, rfl, fin _ _ ?_ ?_ ?_⟩
      · split <;> omega
      · have := Int.emod_nonneg (c % 2147483549 * 40014 + 6113 * k + 4127) (show (2147483563 : Int) ≠ 0 by decide)
        omega
      · have := Int.emod_lt_of_pos (c % 2147483549 * 40014 + 6113 * k + 4127) (show (0 : Int) < 2147483563 by decide)
        omega
def sp_law_draw : Sp := fun vs H Q _ => ∃ a m, vs = [.ref a, .int m] ∧ PotAt H a ∧ 0 < m ∧ m < 2 ^ 200 ∧ ∀ d H', Stp a H H' → 0 ≤ d → d < m → Q (.int d) H'
theorem div_big {i j : Int} (h : 0 < j) (h2 : j < 2 ^ 200) : CDivP i j := ⟨h, PyProof.noPylong_of_log2 (by
  have e : j.natAbs < 2 ^ 200 := by omega
  have := (Nat.log2_lt (by omega : j.natAbs ≠ 0)).mpr e
  omega)⟩
theorem stp_put {a : Addr} {H H' : Hp} {x y : Int} (s : ∀ b o, b ≠ a → H b = some o → H' b = some o) (x0 : 0 ≤ x) (y0 : 0 ≤ y) (y1 : y < 4294967296) : Stp a H (upd H' a (.lst [.int x, .int y])) :=
  ⟨fun b o n e => by rw [upd_ne n]; exact s b o n e, x, y, upd_same, x0, y0, y1⟩
theorem D_law_draw (T : Tx K mg) : Ow.Df P w K mg base CX0 1 "_law_draw" s_law_draw ["pot", "many"] (sp_law_draw) := by
  refine Ow.df_of T.f_law_draw sc_law_draw bd_law_draw (fun vs H Q E h => ?_) (fun cdv A outer s H vs Q E f hg hr h => ?_)
  · obtain ⟨_, _, rfl, _⟩ := h
    rfl
  · obtain ⟨a, m, rfl, hp, m0, m1, q⟩ := h
    have hu := hr.units
    refine ⟨_, (pss_cons (ps_if (pt_cmpR op_gt (pe_ix ix_list (pv 0) pe_int (fun _ _ => rfl)) pe_int (nomark _))
      (pss_cons (ps_asg (pe_callB call_divmodW (by rfl) T.b_divmod (by decide +kernel) (pa_cons (pe_ix ix_list (pv 0) pe_int (fun _ _ => rfl)) (pa_cons (pv 1) pa_nil))) (pg_tup rfl (pgs_cons (pg_sub (pv 0) pe_int set_list) (pgs_cons (pg_name (i := 2) sc_law_draw.nd rfl (Or.inl rfl)) pgs_nil))))
        (pss_one (ps_ret (pv 2))))
      pss_nil)
      (pss_cons (ps_asg (pe_op op_mod (pe_callTy Ow.call_int (by rfl) T.b_int (by decide +kernel) (pa_cons (pe_op op_add (pe_op op_mul (pe_ix ix_list (pv 0) pe_int (fun _ _ => rfl)) pe_int) pe_int) pa_nil)) pe_int) (pg_sub (pv 0) pe_int set_list))
      (pss_one (ps_ret (pe_op op_mod (pe_callTy Ow.call_int (by rfl) T.b_int (by decide +kernel) (pa_cons (pe_op Ow.op_div (pe_op op_mod (pe_callTy Ow.call_int (by rfl) T.b_int (by decide +kernel) (pa_cons (pe_op op_mul (pe_ix ix_list (pv 0) pe_int (fun _ _ => rfl)) (pe_ix ix_list (pv 0) pe_int (fun _ _ => rfl))) pa_nil)) pe_int) pe_int) pa_nil)) (pv 1)))))), ?_⟩
    obtain ⟨x, y, e, x0, y0, y1⟩ := hp
    refine ⟨_, rfl, a, _, 0, .int x, rfl, rfl, .of e, rfl, _, _, rfl, rfl, _, rfl, ?_⟩
    refine ite2 (fun c => ?_) (fun c => ?_)
    · have c : 0 < x := of_decide_eq_true c
      refine ⟨_, rfl, a, _, 0, .int x, rfl, rfl, .of e, rfl, _, rfl, _, _, rfl, div_big m0 m1, fun t ht => ?_⟩
      have ne : a ≠ t := ne_of_none e ht
      refine ⟨t, _, rfl, .inl (.inl upd_same), rfl, _, _, rfl, _, rfl, a, _, 0, 0, rfl, rfl, (upd_ne ne).trans e, rfl, ?_⟩
      refine ⟨_, _, rfl, rfl, _, rfl, ?_⟩
      have s := same_new (o := .tup [.int (x / m), .int (x % m)]) ht
      exact q _ _ (stp_put (fun b o _ e => s b o e) (Int.ediv_nonneg (by omega) (by omega)) y0 y1) (Int.emod_nonneg _ (by omega)) (Int.emod_lt_of_pos _ m0)
    · refine ⟨_, rfl, a, _, 1, .int y, rfl, rfl, .of e, rfl, _, _, rfl, rfl, .inl ⟨by omega, by omega⟩, _, _, rfl, rfl, _, rfl, _, _, rfl, rfl, (by show (0 : Int) < _; omega), ?_⟩
      have z0 := Int.emod_nonneg (y * 40692 + 4127) (show (2147483587 : Int) ≠ 0 by decide)
      have z1 := Int.emod_lt_of_pos (y * 40692 + 4127) (show (0 : Int) < 2147483587 by decide)
      refine ⟨_, rfl, a, _, 1, 1, rfl, rfl, e, rfl, ?_⟩
      have e2 : (upd H a (.lst [.int x, .int ((y * 40692 + 4127) % 2147483587)])) a = some (.lst [.int x, .int ((y * 40692 + 4127) % 2147483587)]) := upd_same
      refine ⟨_, rfl, a, _, 1, _, rfl, rfl, .of e2, rfl, _, rfl, a, _, 1, _, rfl, rfl, .of e2, rfl, _, _, rfl, rfl, .inl ⟨by omega, by omega⟩, _, rfl, _, _, rfl, rfl, (by show (0 : Int) < _; omega), _, _, rfl, rfl, ⟨by omega, by omega⟩, _, rfl, _, rfl, _, _, rfl, rfl, m0, ?_⟩
      exact q _ _ (stp_put (fun b o _ e => e) x0 z0 (by omega)) (Int.emod_nonneg _ (by omega)) (Int.emod_lt_of_pos _ m0)
def sp_law_pick : Sp := fun vs H Q _ => ∃ a l xs, vs = [.ref a, .ref l] ∧ PotAt H a ∧ H l = some (.lst xs) ∧ l ≠ a ∧ 0 < xs.length ∧ xs.length < 1000 ∧ ∀ v H', Stp a H H' → v ∈ xs → Q v H'
theorem D_law_pick (T : Tx K mg) : Ow.Df P w K mg base CX0 2 "_law_pick" s_law_pick ["pot", "some"] (sp_law_pick) := by
  refine Ow.df_of T.f_law_pick sc_law_pick bd_law_pick (fun vs H Q E h => ?_) (fun cdv A outer s H vs Q E f hg hr h => ?_)
  · obtain ⟨_, _, _, rfl, _⟩ := h
    rfl
  · obtain ⟨a, l, xs, rfl, hp, hl, ne, x0, x1, q⟩ := h
    have hu := hr.units
    refine ⟨_, (pss_one (ps_ret (pe_ix ix_list (pv 1) (Ow.pe_d (D_law_draw T) hr (by decide) hg pass0 (by rfl) (pa_cons (pv 0) (pa_cons (pe_callB call_len_seq (by rfl) T.b_len (by decide +kernel) (pa_cons (pv 1) pa_nil)) pa_nil))) (fun _ _ => rfl)))), ?_⟩
    refine ⟨_, rfl, _, rfl, _, rfl, l, xs, rfl, .inl (.of hl), a, _, rfl, hp, by omega, by omega, fun d H' s d0 d1 => ?_⟩
    have g : xs[d.toNat]? = some xs[d.toNat] := List.getElem?_eq_getElem (by omega)
    exact ⟨l, xs, d, _, rfl, rfl, .of (s.kp _ _ ne hl), at_of (by omega) g, q _ _ s (List.getElem_mem _)⟩
end

end Eqr
namespace Eqr
open PySem PySem.Spec L2
/-! ### comprehensions without a test -/
def Gives (te : TE) (σ : L2.St) (H : Hp) (S : Hp → Hp → Prop) (R : V → Prop) : Prop := ∀ Q : VK, (∀ v H', S H H' → R v → Q v H') → te σ H Q
/-- what a comprehension's turns may do -/
structure Fair (S : Hp → Hp → Prop) (H1 : Hp) (D : Addr) : Prop where
  tr : ∀ {H H'}, S H1 H → S H H' → S H1 H'
  up : ∀ {H H' : Hp} {o : HO}, S H H' → H D = some o → H' D = some o
  put : ∀ {H : Hp} (o : HO), S H1 H → S H1 (upd H D o)
  nw : ∀ (o : HO), S H1 (upd H1 D o)
theorem Fair.same {H1 : Hp} {D : Addr} (h : H1 D = none) : Fair Same H1 D where
  tr := fun a b => a.trans b
  up := fun a e => a _ _ e
  put := fun o a b u e => by rw [upd_ne (ne_of_none e h)]; exact a b u e
  nw := fun o => same_new h
theorem Fair.pot {H1 : Hp} {D a : Addr} (h : H1 D = none) (hp : PotAt H1 a) : Fair (Stp a) H1 D where
  tr := fun x y => x.trans y
  up := fun x e => x.kp _ _ (hp.ne h) e
  put := fun o x => ⟨fun b u n e => by rw [upd_ne (ne_of_none e h)]; exact x.kp b u n e, by
    obtain ⟨u, v, e, r⟩ := x.pot
    exact ⟨u, v, by rw [upd_ne (hp.ne h).symm]; exact e, r⟩⟩
  nw := fun o => .of hp (same_new h)
section
variable {lo : Int} {n j : Nat} {te : TE} {vs : List Nat} {σ : L2.St} {H1 : Hp} {D : Addr} {Qd : Hp → Prop} {S : Hp → Hp → Prop}
theorem take_turn {Hc : Hp} {i : Nat} {y : V} {R : Nat → V → Prop} {acc : List V} (F : Fair S H1 D) (hs : S H1 Hc) (hd : Hc D = some (.lst acc)) (hl : acc.length = i) (ha : ∀ k v, acc[k]? = some v → R k v) (hy : R i y) :
    S H1 (upd Hc D (.lst (acc ++ [y]))) ∧ ∃ acc', (upd Hc D (.lst (acc ++ [y]))) D = some (.lst acc') ∧ acc'.length = i + 1 ∧ ∀ k v, acc'[k]? = some v → R k v := by
  refine ⟨F.put _ hs, acc ++ [y], upd_same, by simp [hl], fun k v e => ?_⟩
  rcases Nat.lt_or_ge k acc.length with z | z
  · rw [List.getElem?_append_left z] at e
    exact ha k v e
  · rw [List.getElem?_append_right z] at e
    have z2 : k - acc.length = 0 := by
      rcases Nat.eq_zero_or_pos (k - acc.length) with q | q
      · exact q
      · rw [List.getElem?_eq_none (by simp; omega)] at e
        cases e
    rw [z2] at e
    have e2 : y = v := Option.some.inj e
    have e3 : k = i := by omega
    rw [← e2, e3]
    exact hy
theorem comp_range (R : Nat → V → Prop) (F : Fair S H1 D) (hn : n < 1000) (hw : ∀ x, wipe ((wipe σ vs).set j (some x)) vs = wipe σ vs)
    (he : ∀ (i : Nat) H', i < n → S H1 H' → Gives te ((wipe σ vs).set j (some (.int (lo + i)))) H' S (R i))
    (hq : ∀ xs H', xs.length = n → (∀ k v, xs[k]? = some v → R k v) → S H1 H' → H' D = some (.lst xs) → Qd H') :
    ∃ W : Nat → Nat → Hp → Prop, (∃ m, W 0 m (upd H1 D (.lst []))) ∧ ∀ i m H, W i m H →
      ((Itr lo n).stop i H ∧ Qd H) ∨ ((Itr lo n).go i H ∧ ∃ Nx : Hp → Prop, (∀ H', Nx H' → ∃ m', m' < m ∧ W (i + 1) m' H') ∧ ∀ x H', (Itr lo n).yld i H x H' → gName j x (wipe σ vs) H' fun σ2 H2 => wipe σ2 vs = wipe σ vs ∧ tYes σ2 H2 fun b H3 =>
        if b = true then te σ2 H3 fun y H4 => ∃ acc, H4 D = some (.lst acc) ∧ acc.length < sizeLine ∧ Nx (upd H4 D (.lst (acc ++ [y]))) else Nx H3) := by
  refine lc_range (fun i H' => S H1 H' ∧ ∃ acc, H' D = some (.lst acc) ∧ acc.length = i ∧ ∀ k v, acc[k]? = some v → R k v) ⟨F.nw _, [], upd_same, rfl, fun k v e => by simp at e⟩ ?_ ?_
  · rintro i H' hi ⟨s, acc, e, hl, ha⟩
    refine ⟨hw _, iteT (B := S H1 H' ∧ ∃ acc, H' D = some (.lst acc) ∧ acc.length = i + 1 ∧ ∀ k v, acc[k]? = some v → R k v) (he i H' hi s _ fun v H2 s2 r => ⟨acc, F.up s2 e, small1000 (by omega), ?_⟩)⟩
    exact take_turn F (F.tr s s2) (F.up s2 e) hl ha r
  · rintro H' ⟨s, acc, e, hl, ha⟩
    exact hq acc H' hl ha s e
theorem comp_list {K : PySem.W.Frag} {a : Addr} {xs : List V} (R : Nat → V → Prop) (F : Fair S H1 D) (hn : xs.length < 1000) (hw : ∀ x, wipe ((wipe σ vs).set j (some x)) vs = wipe σ vs)
    (hl : ∀ H', S H1 H' → SqL K H' a xs)
    (he : ∀ (i : Nat) x H', xs[i]? = some x → S H1 H' → Gives te ((wipe σ vs).set j (some x)) H' S (R i))
    (hq : ∀ ys H', ys.length = xs.length → (∀ k v, ys[k]? = some v → R k v) → S H1 H' → H' D = some (.lst ys) → Qd H') :
    ∃ W : Nat → Nat → Hp → Prop, (∃ m, W 0 m (upd H1 D (.lst []))) ∧ ∀ i m H, W i m H →
      ((Itl K a).stop i H ∧ Qd H) ∨ ((Itl K a).go i H ∧ ∃ Nx : Hp → Prop, (∀ H', Nx H' → ∃ m', m' < m ∧ W (i + 1) m' H') ∧ ∀ x H', (Itl K a).yld i H x H' → gName j x (wipe σ vs) H' fun σ2 H2 => wipe σ2 vs = wipe σ vs ∧ tYes σ2 H2 fun b H3 =>
        if b = true then te σ2 H3 fun y H4 => ∃ acc, H4 D = some (.lst acc) ∧ acc.length < sizeLine ∧ Nx (upd H4 D (.lst (acc ++ [y]))) else Nx H3) := by
  refine lc_list (xs := xs) (fun i H' => S H1 H' ∧ ∃ acc, H' D = some (.lst acc) ∧ acc.length = i ∧ ∀ k v, acc[k]? = some v → R k v) ⟨F.nw _, [], upd_same, rfl, fun k v e => by simp at e⟩ (fun i H' _ p => hl H' p.1) ?_ ?_
  · rintro i x H' hi ⟨s, acc, e, hl2, ha⟩
    have := (List.getElem?_eq_some_iff.mp hi).1
    refine ⟨hw _, iteT (B := S H1 H' ∧ ∃ acc, H' D = some (.lst acc) ∧ acc.length = i + 1 ∧ ∀ k v, acc[k]? = some v → R k v) (he i x H' hi s _ fun v H2 s2 r => ⟨acc, F.up s2 e, small1000 (by omega), ?_⟩)⟩
    exact take_turn F (F.tr s s2) (F.up s2 e) hl2 ha r
  · rintro H' ⟨s, acc, e, hl2, ha⟩
    exact hq acc H' hl2 ha s e
end
theorem list_map_of {ys : List V} {α : Type} {f : α → V} {zs : List α} (hl : ys.length = zs.length) (h : ∀ (k : Nat) v z, ys[k]? = some v → zs[k]? = some z → v = f z) : ys = zs.map f := by
  refine List.ext_getElem? fun k => ?_
  rw [List.getElem?_map]
  cases e : zs[k]? with
  | none =>
    rw [List.getElem?_eq_none_iff] at e
    rw [List.getElem?_eq_none (by omega)]
    rfl
  | some z =>
    have : k < ys.length := by
      have := (List.getElem?_eq_some_iff.mp e).1
      omega
    rw [List.getElem?_eq_getElem this]
    exact congrArg some (h k _ z (List.getElem?_eq_getElem this) e)
/-! ### where the next prime stands -/
def noDiv (n : Nat) : Nat → Nat → Bool
  | 0, _ => true
  | k + 1, d => cond (Nat.beq (n % d) 0) (Nat.ble n d) (noDiv n k (d + 1))
theorem noDiv_ok {n : Nat} : ∀ {k d : Nat}, noDiv n k d = true → ∀ c, d ≤ c → c < d + k → c < n → n % c ≠ 0
  | 0, d, _, c, h1, h2, _ => by omega
  | k + 1, d, h, c, h1, h2, h3 => by
    unfold noDiv at h
    cases e : Nat.beq (n % d) 0 with
    | true =>
      rw [e] at h
      have h : Nat.ble n d = true := h
      have := Nat.le_of_ble_eq_true h
      omega
    | false =>
      rw [e] at h
      have h : noDiv n k (d + 1) = true := h
      rcases Nat.lt_or_ge d c with z | z
      · exact noDiv_ok h c (by omega) (by omega) h3
      · have e2 : c = d := by omega
        rw [e2]
        exact Nat.ne_of_beq_eq_false e
def gaps : Nat → Nat → Bool
  | 0, _ => true
  | n + 1, d => cond (noDiv (n + 1) 98 2) (gaps n 0) (cond (Nat.ble 39 d) (Nat.ble (n + 1) 2) (gaps n (d + 1)))
theorem gaps_ok : ∀ (n d : Nat), gaps n d = true → (∃ j, j ≤ d ∧ n + 1 + d = n + 1 + j ∧ noDiv (n + 1 + d) 98 2 = true) → d ≤ 39 → ∀ f, 3 ≤ f → f ≤ n + 1 → ∃ j, j < 40 ∧ f + j ≤ n + 1 + d ∧ noDiv (f + j) 98 2 = true
  | 0, d, _, _, _, f, h1, h2 => by omega
  | n + 1, d, h, ⟨j, hj, he, hp⟩, hd, f, h1, h2 => by
    rcases Nat.lt_or_ge f (n + 2) with z | z
    · unfold gaps at h
      cases e : noDiv (n + 1) 98 2 with
      | true =>
        rw [e] at h
        obtain ⟨i, i1, i2, i3⟩ := gaps_ok n 0 h ⟨0, Nat.le_refl _, rfl, e⟩ (by omega) f h1 (by omega)
        exact ⟨i, i1, by omega, i3⟩
      | false =>
        rw [e] at h
        have h : cond (Nat.ble 39 d) (Nat.ble (n + 1) 2) (gaps n (d + 1)) = true := h
        cases e2 : Nat.ble 39 d with
        | true =>
          rw [e2] at h
          have := Nat.le_of_ble_eq_true (show Nat.ble (n + 1) 2 = true from h)
          omega
        | false =>
          rw [e2] at h
          have hd2 : ¬ 39 ≤ d := fun q => by rw [Nat.ble_eq_true_of_le q] at e2; cases e2
          have eq : n + 1 + (d + 1) = n + 1 + 1 + d := by omega
          obtain ⟨i, i1, i2, i3⟩ := gaps_ok n (d + 1) h ⟨d + 1, Nat.le_refl _, rfl, by rw [eq]; exact hp⟩ (by omega) f h1 (by omega)
          exact ⟨i, i1, by omega, i3⟩
    · have e : f = n + 2 := by omega
      refine ⟨d, by omega, by omega, ?_⟩
      have eq : f + d = n + 1 + 1 + d := by omega
      rw [eq]
      exact hp
set_option maxRecDepth 1000000 in
theorem gaps_9973 : gaps 9972 0 = true := by decide +kernel
theorem next_prime {f : Nat} (h1 : 3 ≤ f) (h2 : f ≤ 9973) : ∃ j, j < 40 ∧ f + j ≤ 9973 ∧ primeB ((f : Int) + (j : Int)) = true := by
  obtain ⟨j, j1, j2, j3⟩ := gaps_ok 9972 0 gaps_9973 ⟨0, Nat.le_refl _, rfl, by decide +kernel⟩ (by omega) f h1 (by omega)
  refine ⟨j, j1, by omega, primeB_of (by omega) fun d d1 d2 d3 e => ?_⟩
  refine noDiv_ok j3 d.toNat (by omega) (by omega) (by omega) ?_
  have e1 : (((f + j) % d.toNat : Nat) : Int) = ((f : Int) + (j : Int)) % d := by
    rw [Int.natCast_emod, Int.natCast_add]
    congr 1
    omega
  rw [e] at e1
  omega

end Eqr
namespace Eqr
open PySem PySem.Spec L2
section
variable {P : Program} {w : World} {K : PySem.W.Frag} {mg : Str → Option Value} {base : Heap}
def sp_law_is_prime : Sp := fun vs H Q _ => ∃ n, vs = [.int n] ∧ ∀ H', Same H H' → Q (.bl (primeB n)) H'
theorem any_one {α : Type} (l : List α) (f : α → Bool) (x : α) : (l ++ [x]).any f = (l.any f || f x) := by simp
theorem D_law_is_prime (T : Tx K mg) : Ow.Df P w K mg base CX0 1 "_law_is_prime" s_law_is_prime ["number"] (sp_law_is_prime) := by
  refine Ow.df_of T.f_law_is_prime sc_law_is_prime bd_law_is_prime (fun vs H Q E h => ?_) (fun cdv A outer s H vs Q E f hg hr h => ?_)
  · obtain ⟨_, rfl, _⟩ := h
    rfl
  · obtain ⟨n, rfl, q⟩ := h
    have hu := hr.units
    refine ⟨_, (pss_one (ps_ret (pe_and (pe_cmpR op_gt (pv 0) pe_int (nomark _)) (pe_one (pe_not (pe_callB (cr_any rfl) (by rfl) T.b_any (by decide +kernel) (pa_cons (pe_lc (own := [("part", 1)]) (g := gName 1) rfl sc_law_is_prime.nd (pi_range2 (by rfl) T.b_range (pa_cons pe_int (pa_cons pe_int pa_nil))) (blkOk_by (N := ["number", "part"]) (sc := defScope s_law_is_prime) (by decide +kernel)) (fun _ _ _ _ _ => pg_name (i := 1) sc_law_is_prime.nd rfl (Or.inl rfl)) (fun _ _ _ _ _ => pts_one (pt_cmpR op_lt (pv 1) (pv 0) (nomark _))) (fun _ _ _ _ _ => (pe_cmpR op_eq (pe_op op_mod (pe_callTy Ow.call_int (by rfl) T.b_int (by decide +kernel) (pa_cons (pv 0) pa_nil)) (pv 1)) pe_int (nomark _)))) pa_nil))))))), ?_⟩
    have e0 : primeB n = (decide (1 < n) && !((List.range 98).any fun i => decide ((i : Int) + 2 < n) && decide (n % ((i : Int) + 2) = 0))) := rfl
    refine ⟨_, rfl, _, _, rfl, rfl, _, rfl, ite2 (fun c => ?_) (fun c => ?_)⟩
    · have c : 1 < n := of_decide_eq_true c
      rw [decide_eq_true c] at e0
      refine ⟨2, 100, rfl, ⟨by decide, by decide, by decide, by decide⟩, fun D hD => ?_⟩
      refine lc_range (lo := 2) (n := 98) (fun i H' => Same H H' ∧ ∃ bs : List Bool, H' D = some (.lst (bs.map V.bl)) ∧ bs.length ≤ i ∧ bs.any id = (List.range i).any fun i => decide ((i : Int) + 2 < n) && decide (n % ((i : Int) + 2) = 0))
        ⟨same_new hD, [], upd_same, Nat.le_refl _, rfl⟩ ?_ ?_
      · rintro i H' hi ⟨sm, bs, e, hl, ha⟩
        have hf : ∀ b u, H b = some u → b ≠ D := fun b u z => ne_of_none z hD
        refine ⟨rfl, _, rfl, _, rfl, _, _, rfl, rfl, _, rfl, ite2 (fun z => ?_) (fun z => ?_)⟩
        · have z : 2 + (i : Int) < n := of_decide_eq_true z
          refine ⟨_, rfl, _, rfl, _, rfl, _, _, rfl, rfl, (by show (0 : Int) < _; omega), rfl, bs.map V.bl, e, by rw [List.length_map]; exact small1000 (by omega), fun b u z2 => ?_, bs ++ [decide (V.int (n % (2 + (i : Int))) = V.int 0)], ?_, ?_, ?_⟩
          · rw [upd_ne (hf b u z2)]
            exact sm b u z2
          · rw [upd_same, List.map_append]
            rfl
          · simp only [List.length_append, List.length_cons, List.length_nil]
            omega
          · rw [any_one, ha, List.range_succ, any_one]
            congr 1
            have e1 : (i : Int) + 2 = 2 + (i : Int) := Int.add_comm _ _
            rw [e1, decide_eq_true z]
            exact decide_eq_decide.mpr ⟨V.int.inj, fun e => congrArg V.int e⟩
        · have z : ¬ 2 + (i : Int) < n := fun y => z (decide_eq_true y)
          refine ⟨sm, bs, e, by omega, ?_⟩
          rw [ha, List.range_succ, any_one]
          have e1 : (i : Int) + 2 = 2 + (i : Int) := Int.add_comm _ _
          rw [e1, decide_eq_false z]
          simp
      · rintro H' ⟨sm, bs, e, hl, ha⟩
        refine ⟨D, bs, rfl, .of e, _, rfl, ?_⟩
        rw [ha]
        have := q H' sm
        rw [e0] at this
        exact this
    · have c : ¬ 1 < n := fun z => c (decide_eq_true z)
      rw [decide_eq_false c] at e0
      have := q H (Same.refl H)
      rw [e0] at this
      exact this
def sp_law_prime : Sp := fun vs H Q _ => ∃ a, vs = [.ref a] ∧ PotAt H a ∧ ∀ p H', Stp a H H' → Pr p → Q (.int p) H'
theorem D_law_prime (T : Tx K mg) : Ow.Df P w K mg base CX0 3 "_law_prime" s_law_prime ["pot"] (sp_law_prime) := by
  refine Ow.df_of T.f_law_prime sc_law_prime bd_law_prime (fun vs H Q E h => ?_) (fun cdv A outer s H vs Q E f hg hr h => ?_)
  · obtain ⟨_, rfl, _⟩ := h
    rfl
  · obtain ⟨a, rfl, hp, q⟩ := h
    have hu := hr.units
    refine ⟨_, (pss_cons (ps_if (pt_cmpR op_eq (Ow.pe_d (D_law_draw T) hr (by decide) hg pass0 (by rfl) (pa_cons (pv 0) (pa_cons pe_int pa_nil))) pe_int (nomark _))
      (pss_one (ps_ret (Ow.pe_d (D_law_pick T) hr (by decide) hg pass0 (by rfl) (pa_cons (pv 0) (pa_cons (pe_lst (pa_cons pe_int (pa_cons pe_int (pa_cons pe_int (pa_cons pe_int (pa_cons pe_int (pa_cons pe_int pa_nil))))))) pa_nil)))))
      pss_nil)
      (pss_cons (ps_set (i := 1) sc_law_prime.nd rfl (Or.inl rfl) (pe_op op_add pe_int (Ow.pe_d (D_law_draw T) hr (by decide) hg pass0 (by rfl) (pa_cons (pv 0) (pa_cons pe_int pa_nil)))))
      (pss_one (ps_ret (pe_ix ix_list (pe_lc (own := [("number", 2)]) (g := gName 2) rfl sc_law_prime.nd (pi_range2 (by rfl) T.b_range (pa_cons (pv 1) (pa_cons (pe_callB (call_min2 rfl) (by rfl) T.b_min (by decide +kernel) (pa_cons (pe_op op_add (pv 1) pe_int) (pa_cons pe_int pa_nil))) pa_nil))) (blkOk_by (N := ["pot", "first", "number"]) (sc := defScope s_law_prime) (by decide +kernel)) (fun _ _ _ _ _ => pg_name (i := 2) sc_law_prime.nd rfl (Or.inl rfl)) (fun _ _ _ _ _ => pts_one (pt_val (Ow.pe_d (D_law_is_prime T) hr (by decide) hg pass0 (by rfl) (pa_cons (pv 2) pa_nil)))) (fun _ _ _ _ _ => (pv 2))) pe_int (fun _ _ => rfl)))))), ?_⟩
    refine ⟨_, rfl, a, 3, rfl, hp, by omega, by omega, fun d H1 s1 d0 d1 => ⟨rfl, _, rfl, ite2 (fun c => ?_) (fun c => ?_)⟩⟩
    · refine ⟨_, rfl, by show 6 ≤ sizeLine; decide, fun l hl => ?_⟩
      refine ⟨a, l, _, rfl, s1.pot.same (same_new hl), upd_same, s1.pot.ne hl, by show 0 < 6; omega, by show 6 < 1000; omega, fun v H2 s2 hv => ?_⟩
      have st : Stp a H H2 := (s1.same (same_new hl)).trans s2
      simp only [List.mem_cons, List.not_mem_nil, or_false] at hv
      rcases hv with rfl | rfl | rfl | rfl | rfl | rfl <;> exact q _ _ st (by show prV _ = true; decide +kernel)
    · refine ⟨_, rfl, a, 9971, rfl, s1.pot, by omega, by omega, fun e H2 s2 e0 e1 => ⟨_, _, rfl, rfl, ?_⟩⟩
      have st := s1.trans s2
      have hn : ∀ x : Int, (if 9974 < x then 9974 else x) = min x 9974 := fun x => by
        rw [Int.min_def]
        split <;> split <;> omega
      refine ⟨_, rfl, _, rfl, _, _, rfl, rfl, _, _, rfl, _, _, rfl, ?_⟩
      rw [hn]
      have m1 : min (3 + e + 40) 9974 - (3 + e) ≤ 40 := by omega
      have m2 : 0 < min (3 + e + 40) 9974 - (3 + e) := by omega
      refine ⟨⟨by omega, by omega, by omega, by omega⟩, fun D hD => ?_⟩
      refine lc_range (lo := 3 + e) (n := (min (3 + e + 40) 9974 - (3 + e)).toNat) (fun i H' => Same H2 H' ∧ H' D = some (.lst (((List.range i).filter fun (j : Nat) => primeB (3 + e + (j : Int))).map fun (j : Nat) => V.int (3 + e + (j : Int)))))
        ⟨same_new hD, upd_same⟩ ?_ ?_
      · rintro i H' hi ⟨sm, ea⟩
        refine ⟨rfl, _, rfl, _, rfl, fun H3 sm3 => ⟨_, rfl, ?_⟩⟩
        have ea3 := sm3 _ _ ea
        cases hb : primeB (3 + e + (i : Int)) with
        | true =>
          refine iteT ⟨_, rfl, _, ea3, ?_, fun b u z => ?_, ?_⟩
          · rw [List.length_map]
            refine small1000 (Nat.le_trans (List.length_filter_le _ _) ?_)
            rw [List.length_range]
            omega
          · rw [upd_ne (ne_of_none z hD)]
            exact sm3 _ _ (sm b u z)
          · rw [upd_same, List.range_succ, List.filter_append, List.map_append, List.filter_cons, if_pos hb]
            rfl
        | false =>
          refine iteF ⟨sm.trans sm3, ?_⟩
          rw [List.range_succ, List.filter_append, List.map_append, List.filter_cons, if_neg (by rw [hb]; decide)]
          rw [ea3]
          simp
      · rintro H' ⟨sm, ea⟩
        have ex : ((List.range (min (3 + e + 40) 9974 - (3 + e)).toNat).filter fun (j : Nat) => primeB (3 + e + (j : Int))) ≠ [] := by
          obtain ⟨j, j1, j2, j3⟩ := next_prime (f := (3 + e).toNat) (by omega) (by omega)
          intro z
          have hm : j ∈ ((List.range (min (3 + e + 40) 9974 - (3 + e)).toNat).filter fun (j : Nat) => primeB (3 + e + (j : Int))) := by
            rw [List.mem_filter, List.mem_range]
            refine ⟨by omega, ?_⟩
            have e1 : (((3 + e).toNat : Nat) : Int) = 3 + e := by omega
            rw [e1] at j3
            exact j3
          rw [z] at hm
          cases hm
        obtain ⟨x, r, hx⟩ := List.exists_cons_of_ne_nil ex
        have hm : x ∈ ((List.range (min (3 + e + 40) 9974 - (3 + e)).toNat).filter fun (j : Nat) => primeB (3 + e + (j : Int))) := by rw [hx]; exact List.mem_cons_self
        rw [hx] at ea
        rw [List.mem_filter, List.mem_range] at hm
        refine ⟨D, _, 0, .int (3 + e + (x : Int)), rfl, rfl, .of ea, at_of (j := 0) rfl rfl, ?_⟩
        refine q _ H' (st.same sm) ?_
        show ((decide (3 ≤ 3 + e + (x : Int)) && decide (3 + e + (x : Int) ≤ 9973)) && primeB (3 + e + (x : Int))) = true
        rw [hm.2, decide_eq_true (by omega), decide_eq_true (by omega)]
        rfl
theorem D_law_back (T : Tx K mg) : Ow.Df P w K mg base CX0 1 "_law_back" s_law_back ["prime", "one"] (sp_back_of) := by
  refine Ow.df_of T.f_law_back sc_law_back bd_law_back (fun vs H Q E h => ?_) (fun cdv A outer s H vs Q E f hg hr h => ?_)
  · obtain ⟨_, _, rfl, _⟩ := h
    rfl
  · obtain ⟨p, a, rfl, hp, a0, a1, q⟩ := h
    have hu := hr.units
    refine ⟨_, (pss_cons (ps_asg (pe_tup (pa_cons (pv 0) (pa_cons (pv 1) (pa_cons pe_int (pa_cons pe_int pa_nil))))) (pg_tup rfl (pgs_cons (pg_name (i := 2) sc_law_back.nd rfl (Or.inl rfl)) (pgs_cons (pg_name (i := 3) sc_law_back.nd rfl (Or.inl rfl)) (pgs_cons (pg_name (i := 4) sc_law_back.nd rfl (Or.inl rfl)) (pgs_cons (pg_name (i := 5) sc_law_back.nd rfl (Or.inl rfl)) pgs_nil))))))
      (pss_cons (ps_for PassesOwn.never rfl (pi_range1 (by rfl) T.b_range (pa_cons pe_int pa_nil)) (pg_name (i := 6) sc_law_back.nd rfl (Or.inl rfl))
      (pss_one (ps_if (pt_cmpR op_gt (pv 3) pe_int (nomark _))
        (pss_cons (ps_set (i := 7) sc_law_back.nd rfl (Or.inl rfl) (pe_op Ow.op_div (pv 2) (pv 3)))
          (pss_one (ps_asg (pe_tup (pa_cons (pv 3) (pa_cons (pe_op op_sub (pv 2) (pe_op op_mul (pv 7) (pv 3))) (pa_cons (pv 5) (pa_cons (pe_op op_sub (pv 4) (pe_op op_mul (pv 7) (pv 5))) pa_nil))))) (pg_tup rfl (pgs_cons (pg_name (i := 2) sc_law_back.nd rfl (Or.inl rfl)) (pgs_cons (pg_name (i := 3) sc_law_back.nd rfl (Or.inl rfl)) (pgs_cons (pg_name (i := 4) sc_law_back.nd rfl (Or.inl rfl)) (pgs_cons (pg_name (i := 5) sc_law_back.nd rfl (Or.inl rfl)) pgs_nil))))))))
        pss_nil)))
      (pss_one (ps_ret (pe_op op_mod (pe_callTy Ow.call_int (by rfl) T.b_int (by decide +kernel) (pa_cons (pv 4) pa_nil)) (pv 0)))))), ?_⟩
    have lo := hp.lo
    have hi := hp.hi
    refine ⟨_, rfl, _, rfl, (by show 4 ≤ sizeLine; decide), fun t ht => ?_⟩
    refine ⟨t, _, rfl, .inl (.inl upd_same), rfl, _, _, rfl, _, _, rfl, _, _, rfl, _, _, rfl, rfl, ?_⟩
    have first : p * a * 2 ^ 0 ≤ 134217728 := by
      have : p * a ≤ 9973 * 9973 := Int.mul_le_mul hi (by omega) (by omega) (by omega)
      omega
    refine ⟨60, rfl, by decide, by decide, for_range (lo := 0) (n := 60) (fun i σ H' => Same H H' ∧ ∃ (h l u v : Int) (o o2 : Option V), σ = [some (.int p), some (.int a), some (.int h), some (.int l), some (.int u), some (.int v), o, o2] ∧ Turn p a h l u v ∧ h * l * 2 ^ i ≤ 134217728)
      ⟨same_new ht, p, a, 0, 1, none, none, rfl, .first hp a0 a1, first⟩ ?_ ?_⟩
    · rintro i σ H' hi ⟨sm, h, l, u, v, o, o2, rfl, tn, hb⟩
      have l0 := tn.h0
      have l1 := tn.h1
      have l2 := tn.h2
      have e2 : (2 : Int) ^ (i + 1) = 2 ^ i * 2 := Int.pow_succ 2 i
      have p2 : (0 : Int) < 2 ^ i := Int.pow_pos (by omega)
      refine ⟨_, rfl, _, _, rfl, rfl, _, rfl, ite2 (fun c => ?_) (fun c => ?_)⟩
      · have c : 0 < l := of_decide_eq_true c
        have sh := tn.share c
        have nx := tn.next c
        refine ⟨_, rfl, _, rfl, _, _, rfl, rfl, ⟨by omega, by omega⟩, ?_⟩
        refine ⟨_, rfl, _, rfl, _, rfl, _, rfl, _, _, rfl, rfl, .inl ⟨by omega, by omega⟩, _, _, rfl, rfl, _, rfl, _, rfl, _, rfl, _, rfl, _, _, rfl, rfl, .inl ⟨by omega, by omega⟩, _, _, rfl, rfl, (by show 4 ≤ sizeLine; decide), fun t2 ht2 => ?_⟩
        refine ⟨t2, _, rfl, .inl (.inl upd_same), rfl, _, _, rfl, _, _, rfl, _, _, rfl, _, _, rfl, rfl, ?_⟩
        refine ⟨sm.trans (same_new ht2), _, _, _, _, _, _, rfl, nx, ?_⟩
        have hf := Int.mul_le_mul_of_nonneg_right (tn.half c) (Int.le_of_lt p2)
        rw [e2]
        have e3 : l * (h - h / l * l) * (2 ^ i * 2) = l * (h - h / l * l) * 2 * 2 ^ i := by grind
        rw [e3]
        omega
      · have c : ¬ 0 < l := fun z => c (decide_eq_true z)
        have e : l = 0 := by omega
        subst e
        exact ⟨sm, _, _, _, _, _, _, rfl, tn, by rw [Int.mul_zero, Int.zero_mul]; omega⟩
    · rintro σ H' ⟨sm, h, l, u, v, o, o2, rfl, tn, hb⟩
      have l0 := tn.h0
      have l1 := tn.h1
      have e : l = 0 := by
        rcases Int.lt_or_le 0 l with z | z
        · have : 1 * 1 ≤ h * l := Int.mul_le_mul (by omega) z (by omega) (by omega)
          have : 1 * 2 ^ 60 ≤ h * l * 2 ^ 60 := Int.mul_le_mul_of_nonneg_right (by omega) (by omega)
          omega
        · omega
      subst e
      refine ⟨_, rfl, _, rfl, _, rfl, _, _, rfl, rfl, (by show (0 : Int) < _; omega), ?_⟩
      exact q _ H' sm (nm_mod (by omega)) tn.here
def sp_law_power : Sp := sp_power
theorem half_of {l : Int} {i : Nat} (h : l * 2 ^ i ≤ 1000000) (h0 : 0 ≤ l) : l / 2 * 2 ^ (i + 1) ≤ 1000000 := by
  have p2 : (0 : Int) < 2 ^ i := Int.pow_pos (by omega)
  have e2 : (2 : Int) ^ (i + 1) = 2 ^ i * 2 := Int.pow_succ 2 i
  have : l / 2 * 2 * 2 ^ i ≤ l * 2 ^ i := Int.mul_le_mul_of_nonneg_right (by omega) (by omega)
  rw [e2]
  have e3 : l / 2 * (2 ^ i * 2) = l / 2 * 2 * 2 ^ i := by grind
  omega
theorem D_law_power (T : Tx K mg) : Ow.Df P w K mg base CX0 2 "_law_power" s_law_power ["prime", "one", "many"] (sp_law_power) := by
  refine Ow.df_of T.f_law_power sc_law_power bd_law_power (fun vs H Q E h => ?_) (fun cdv A outer s H vs Q E f hg hr h => ?_)
  · obtain ⟨_, _, _, rfl, _⟩ := h
    rfl
  · obtain ⟨p, a, m, rfl, hp, ha, m0, m1, hm, q⟩ := h
    have hu := hr.units
    refine ⟨_, (Evl.pss_cut (ps_par3 (i := 3) (j := 4) (l := 5) rfl sc_law_power.nd rfl rfl rfl (by decide) (by decide) (by decide) rfl rfl rfl (pa_cons (pe_ifExp (pt_cmpR op_ge (pv 2) pe_int (nomark _)) (pv 1) (Ow.pe_d (D_law_back T) hr (by decide) hg pass0 (by rfl) (pa_cons (pv 0) (pa_cons (pv 1) pa_nil)))) (pa_cons pe_int (pa_cons (pe_callB call_abs (by rfl) T.b_abs (by decide +kernel) (pa_cons (pv 2) pa_nil)) pa_nil))) (by rfl))
      (pss_cons (ps_for PassesOwn.never rfl (pi_range1 (by rfl) T.b_range (pa_cons pe_int pa_nil)) (pg_name (i := 6) sc_law_power.nd rfl (Or.inl rfl))
      (pss_cons (ps_if (pt_cmpR op_eq (pe_op op_mod (pe_callTy Ow.call_int (by rfl) T.b_int (by decide +kernel) (pa_cons (pv 5) pa_nil)) pe_int) pe_int (nomark _))
        (pss_one (ps_set (i := 4) sc_law_power.nd rfl (Or.inl rfl) (pe_op op_mod (pe_callTy Ow.call_int (by rfl) T.b_int (by decide +kernel) (pa_cons (pe_op op_mul (pv 4) (pv 3)) pa_nil)) (pv 0))))
        pss_nil)
        (pss_one (ps_par (i := 3) (j := 5) rfl sc_law_power.nd rfl rfl (by decide) rfl rfl (pa_cons (pe_op op_mod (pe_callTy Ow.call_int (by rfl) T.b_int (by decide +kernel) (pa_cons (pe_op op_mul (pv 3) (pv 3)) pa_nil)) (pv 0)) (pa_cons (pe_op Ow.op_div (pv 5) pe_int) pa_nil)) (by rfl)))))
      (pss_one (ps_ret (pv 4))))), ?_⟩
    have lo := hp.lo
    have hi := hp.hi
    refine ⟨fun σ H' => Same H H' ∧ ∃ b : Int, σ = [some (.int p), some (.int a), some (.int m), some (.int b), some (.int 1), some (.int (if m < 0 then -m else m)), none] ∧ Nm p b ∧ ∀ r, Nm p r → Cg p r (b ^ (if m < 0 then -m else m).toNat) → PowIs p a m r, ?_, ?_⟩
    · refine ⟨_, rfl, _, _, rfl, rfl, _, rfl, ite2 (fun c => ?_) (fun c => ?_)⟩
      · have c : 0 ≤ m := of_decide_eq_true c
        refine ⟨_, rfl, _, rfl, _, rfl, _, _, _, rfl, Same.refl H, a, rfl, ha, fun r hr hc => ⟨hr, fun _ => ?_, fun z => by omega⟩⟩
        rw [if_neg (by omega)] at hc
        exact hc
      · have c : ¬ 0 ≤ m := fun z => c (decide_eq_true z)
        have a0 := hm (by omega)
        refine ⟨_, rfl, _, rfl, p, a, rfl, hp, a0, ha.2, fun b H' sm hb hc => ⟨_, rfl, _, rfl, _, _, _, rfl, sm, b, rfl, hb, fun r hr hd => ⟨hr, fun z => by omega, fun _ => ?_⟩⟩⟩
        rw [if_pos (by omega)] at hd
        have e1 := hd.mul (Cg.refl p (a ^ (-m).toNat))
        rw [← Int.mul_pow] at e1
        have e2 := hc.pow (-m).toNat
        rw [Int.one_pow] at e2
        exact e1.trans e2
    · rintro σ H1 ⟨sm, b, rfl, hb, fin⟩
      generalize hL : (if m < 0 then -m else m) = L at fin
      have L0 : 0 ≤ L := by rw [← hL]; split <;> omega
      have L1 : L * 2 ^ 0 ≤ 1000000 := by rw [← hL]; split <;> omega
      refine ⟨24, rfl, by decide, by decide, for_range (lo := 0) (n := 24) (fun i σ H' => Same H H' ∧ ∃ (c f l : Int) (o : Option V), σ = [some (.int p), some (.int a), some (.int m), some (.int c), some (.int f), some (.int l), o] ∧ Nm p c ∧ Nm p f ∧ 0 ≤ l ∧ l * 2 ^ i ≤ 1000000 ∧ Cg p (f * c ^ l.toNat) (b ^ L.toNat))
        ⟨sm, b, 1, L, none, rfl, hb, ⟨by omega, by omega⟩, L0, L1, by rw [Int.one_mul]; exact Cg.refl _ _⟩ ?_ ?_⟩
      · rintro i σ H' hi ⟨sm, c, f, l, o, rfl, hc, hf, l0, l1, cg⟩
        have l2 := half_of l1 l0
        have l3 : (l / 2).toNat = l.toNat / 2 := by omega
        refine ⟨_, rfl, _, rfl, _, _, rfl, rfl, (by show (0 : Int) < _; omega), rfl, _, rfl, ite2 (fun z => ?_) (fun z => ?_)⟩
        · have z : l % 2 = 1 := V.int.inj (of_decide_eq_true z)
          refine ⟨_, rfl, _, rfl, _, _, rfl, rfl, .inl ⟨by have := hf.1; omega, by have := hf.2; omega⟩, _, rfl, _, rfl, _, _, rfl, rfl, (by show (0 : Int) < _; omega), ?_⟩
          refine ⟨_, rfl, _, rfl, _, _, rfl, rfl, .inl ⟨by have := hc.1; omega, by have := hc.2; omega⟩, _, rfl, _, rfl, _, _, rfl, rfl, (by show (0 : Int) < _; omega), _, rfl, _, _, rfl, rfl, ⟨by omega, by omega⟩, _, _, rfl, ?_⟩
          refine ⟨sm, _, _, _, _, rfl, nm_mod (by omega), nm_mod (by omega), by omega, l2, ?_⟩
          rw [l3]
          refine Cg.trans ?_ cg
          rw [pow_odd c l.toNat (by omega), ← Int.mul_assoc]
          exact (Cg.rest p (f * c)).mul ((Cg.rest p (c * c)).pow _)
        · have z : l % 2 ≠ 1 := fun e => z (decide_eq_true (congrArg V.int e))
          refine ⟨_, rfl, _, rfl, _, _, rfl, rfl, .inl ⟨by have := hc.1; omega, by have := hc.2; omega⟩, _, rfl, _, rfl, _, _, rfl, rfl, (by show (0 : Int) < _; omega), _, rfl, _, _, rfl, rfl, ⟨by omega, by omega⟩, _, _, rfl, ?_⟩
          refine ⟨sm, _, _, _, _, rfl, nm_mod (by omega), hf, by omega, l2, ?_⟩
          rw [l3]
          refine Cg.trans ?_ cg
          rw [pow_even c l.toNat (by omega)]
          exact (Cg.refl p f).mul ((Cg.rest p (c * c)).pow _)
      · rintro σ H' ⟨sm, c, f, l, o, rfl, hc, hf, l0, l1, cg⟩
        refine ⟨_, rfl, q f H' sm (fin f hf ?_)⟩
        have e : l.toNat = 0 := by omega
        rw [e, Int.pow_zero, Int.mul_one] at cg
        exact cg
def told : V → Int → Bool
  | .int i, d => decide (i = d)
  | _, _ => false
def sp_law_is_told : Sp := fun vs H Q _ => ∃ v d, vs = [.int v, .int d] ∧ Q (.bl (decide (v = d))) H
theorem dec_v {a b : Int} : decide (V.int a = V.int b) = decide (a = b) := decide_eq_decide.mpr ⟨V.int.inj, fun e => congrArg V.int e⟩
theorem D_law_is_told (T : Tx K mg) : Ow.Df P w K mg base CX0 1 "_law_is_told" s_law_is_told ["value", "due"] (sp_law_is_told) := by
  refine Ow.df_of T.f_law_is_told sc_law_is_told bd_law_is_told (fun vs H Q E h => ?_) (fun cdv A outer s H vs Q E f hg hr h => ?_)
  · obtain ⟨_, _, rfl, _⟩ := h
    rfl
  · obtain ⟨v, d, rfl, q⟩ := h
    have hu := hr.units
    refine ⟨_, (pss_one (ps_ret (pe_and (pe_callB call_isi (by rfl) T.b_isinstance (by decide +kernel) (pa_cons (pv 0) (pa_cons (pe_bltn (v := .ty "int") (by rfl) T.b_int (by decide +kernel) rfl) pa_nil))) (pe_and (pe_not (pe_callB call_isi (by rfl) T.b_isinstance (by decide +kernel) (pa_cons (pv 0) (pa_cons (pe_bltn (v := .ty "bool") (by rfl) T.b_bool (by decide +kernel) rfl) pa_nil)))) (pe_one (pe_cmpR op_eq (pv 0) (pv 1) (nomark _))))))), ?_⟩
    refine ⟨_, rfl, _, _, _, _, _, rfl, .ty _, .base (.int v), kit_ty (by decide +kernel), _, rfl, iteT ⟨_, rfl, _, _, _, _, false, rfl, .ty _, .base (.int v), kit_ty (by decide +kernel), _, rfl, _, rfl, iteT ⟨_, rfl, _, rfl, rfl, ?_⟩⟩⟩
    rw [dec_v]
    exact q
def sp_law_are_told : Sp := fun vs H Q _ => ∃ l ns d, vs = [.ref l, .int d] ∧ H l = some (.lst (List.map V.int ns)) ∧ ns.length < 1000 ∧ ∀ H', Same H H' → Q (.bl (ns.all fun n => decide (n = d))) H'
theorem D_law_are_told (T : Tx K mg) : Ow.Df P w K mg base CX0 2 "_law_are_told" s_law_are_told ["some", "due"] (sp_law_are_told) := by
  refine Ow.df_of T.f_law_are_told sc_law_are_told bd_law_are_told (fun vs H Q E h => ?_) (fun cdv A outer s H vs Q E f hg hr h => ?_)
  · obtain ⟨_, _, _, rfl, _⟩ := h
    rfl
  · obtain ⟨l, ns, d, rfl, hl, hn, q⟩ := h
    have hu := hr.units
    refine ⟨_, (pss_one (ps_ret (pe_callB (cr_all rfl) (by rfl) T.b_all (by decide +kernel) (pa_cons (pe_lc (own := [("value", 2)]) (g := gName 2) rfl sc_law_are_told.nd (pi_list (pv 0)) (blkOk_by (N := ["some", "due", "value"]) (sc := defScope s_law_are_told) (by decide +kernel)) (fun _ _ _ _ _ => pg_name (i := 2) sc_law_are_told.nd rfl (Or.inl rfl)) (fun _ _ _ _ _ => pts_nil) (fun _ _ _ _ _ => (Ow.pe_d (D_law_is_told T) hr (by decide) hg pass0 (by rfl) (pa_cons (pv 2) (pa_cons (pv 1) pa_nil))))) pa_nil)))), ?_⟩
    refine ⟨_, rfl, l, rfl, ⟨_, .of hl⟩, fun D hD => ?_⟩
    refine comp_list (S := Same) (xs := ns.map V.int) (fun i v => ∀ z, ns[i]? = some z → v = .bl (decide (z = d))) (Fair.same hD) (by rw [List.length_map]; exact hn) (fun x => rfl) (fun H' s => s.seq (.of hl)) ?_ ?_
    · intro i x H' hx s Q' k
      rw [List.getElem?_map] at hx
      cases e : ns[i]? with
      | none => rw [e] at hx; cases hx
      | some z =>
        rw [e] at hx
        obtain rfl : V.int z = x := Option.some.inj hx
        exact ⟨_, rfl, _, rfl, z, d, rfl, k _ H' (Same.refl _) fun z2 e2 => by rw [e] at e2; cases e2; rfl⟩
    · intro ys H' h1 h2 s e
      rw [List.length_map] at h1
      have ey := list_map_of (f := fun z => V.bl (decide (z = d))) h1 fun k v z a b => h2 k v a z b
      refine ⟨D, ns.map fun z => decide (z = d), rfl, .of ?_, ?_⟩
      · rw [e, ey, List.map_map]
        rfl
      · rw [List.all_map]
        exact q H' s
end

end Eqr
namespace Eqr
open PySem PySem.Spec L2
theorem told2 {x y d : Int} (h1 : x = d) (h2 : y = d) : ([x, y].all fun n => decide (n = d)) = true := by
  subst h1 h2
  simp
theorem told3 {x y z d : Int} (h1 : x = d) (h2 : y = d) (h3 : z = d) : ([x, y, z].all fun n => decide (n = d)) = true := by
  subst h1 h2 h3
  simp
theorem Nm.self {p a : Int} (h : Nm p a) : a % p = a := Int.emod_eq_of_lt h.1 h.2
theorem there_back {p a b : Int} (h : Nm p a) : ((a + b) % p - b) % p = a := by
  have q := ((Cg.rest p (a + b)).sub (Cg.refl p b)).emod
  rw [q, show a + b - b = a by omega, h.self]
theorem back_there {p a b : Int} (h : Nm p a) : ((a - b) % p + b) % p = a := by
  have q := ((Cg.rest p (a - b)).add (Cg.refl p b)).emod
  rw [q, show a - b + b = a by omega, h.self]
theorem over_times {p a b r : Int} (h : Nm p a) (hc : Cg p (r * b) 1) : a * r % p * b % p = a := by
  have q := (Cg.rest p (a * r)).mul (Cg.refl p b)
  have q2 := (Cg.refl p a).mul hc
  rw [Int.mul_assoc] at q
  have e := (q.trans q2).emod
  rw [Int.mul_one, h.self] at e
  exact e
theorem Cg.one {p x : Int} (h : Cg p x 1) (hp : Pr p) : x % p = 1 := by
  have lo := hp.lo
  rw [h.emod, Int.emod_eq_of_lt (by omega) (by omega)]
theorem Nm.one {p x : Int} (h : Nm p x) (hp : Pr p) (hc : Cg p x 1) : x = 1 := by
  rw [← h.self]
  exact hc.one hp
section
variable {P : Program} {w : World} {K : PySem.W.Frag} {mg : Str → Option Value} {base : Heap}
def sp_law_two_right : Sp := fun vs H Q _ => ∃ p a b, vs = [.int p, .int a, .int b] ∧ Pr p ∧ Nm p a ∧ Nm p b ∧ ∀ H', Same H H' → Q (.bl true) H'
theorem D_law_two_right (T : Tx K mg) : Ow.Df P w K mg base CX0 7 "_law_two_right" s_law_two_right ["prime", "one", "other"] (sp_law_two_right) := by
  refine Ow.df_of T.f_law_two_right sc_law_two_right bd_law_two_right (fun vs H Q E h => ?_) (fun cdv A outer s H vs Q E f hg hr h => ?_)
  · obtain ⟨_, _, _, rfl, _⟩ := h
    rfl
  · obtain ⟨p, a, b, rfl, hp, ha, hb, q⟩ := h
    have hu := hr.units
    refine ⟨_, (pss_cons (ps_if (pt_not (pt_val (Ow.pe_d (D_law_are_told T) hr (by decide) hg pass0 (by rfl) (pa_cons (pe_lst (pa_cons (Ow.pe_d (D_plus T) hr (by decide) hg pass0 (by rfl) (pa_cons (pv 0) (pa_cons (pv 1) (pa_cons (pv 2) pa_nil)))) (pa_cons (Ow.pe_dk0 (D_plus T) hr (by decide) hg pass0 w_plus_0_other_one_prime (by rfl) (pk_cons (pv 2) (pk_cons (pv 1) (pk_cons (pv 0) pk_nil)))) (pa_cons (Ow.pe_d (D_plus T) hr (by decide) hg pass0 (by rfl) (pa_cons (pv 0) (pa_cons (pv 2) (pa_cons (pv 1) pa_nil)))) pa_nil)))) (pa_cons (pe_op op_mod (pe_callTy Ow.call_int (by rfl) T.b_int (by decide +kernel) (pa_cons (pe_op op_add (pv 1) (pv 2)) pa_nil)) (pv 0)) pa_nil)))))
      (pss_one (ps_ret pe_bl))
      pss_nil)
      (pss_cons (ps_if (pt_not (pt_val (Ow.pe_d (D_law_are_told T) hr (by decide) hg pass0 (by rfl) (pa_cons (pe_lst (pa_cons (Ow.pe_d (D_minus T) hr (by decide) hg pass0 (by rfl) (pa_cons (pv 0) (pa_cons (pv 1) (pa_cons (pv 2) pa_nil)))) (pa_cons (Ow.pe_dk0 (D_minus T) hr (by decide) hg pass0 w_minus_0_other_one_prime (by rfl) (pk_cons (pv 2) (pk_cons (pv 1) (pk_cons (pv 0) pk_nil)))) pa_nil))) (pa_cons (pe_op op_mod (pe_callTy Ow.call_int (by rfl) T.b_int (by decide +kernel) (pa_cons (pe_op op_sub (pv 1) (pv 2)) pa_nil)) (pv 0)) pa_nil)))))
      (pss_one (ps_ret pe_bl))
      pss_nil)
      (pss_cons (ps_if (pt_not (pt_val (Ow.pe_d (D_law_are_told T) hr (by decide) hg pass0 (by rfl) (pa_cons (pe_lst (pa_cons (Ow.pe_d (D_times T) hr (by decide) hg pass0 (by rfl) (pa_cons (pv 0) (pa_cons (pv 1) (pa_cons (pv 2) pa_nil)))) (pa_cons (Ow.pe_dk0 (D_times T) hr (by decide) hg pass0 w_times_0_other_one_prime (by rfl) (pk_cons (pv 2) (pk_cons (pv 1) (pk_cons (pv 0) pk_nil)))) (pa_cons (Ow.pe_d (D_times T) hr (by decide) hg pass0 (by rfl) (pa_cons (pv 0) (pa_cons (pv 2) (pa_cons (pv 1) pa_nil)))) pa_nil)))) (pa_cons (pe_op op_mod (pe_callTy Ow.call_int (by rfl) T.b_int (by decide +kernel) (pa_cons (pe_op op_mul (pv 1) (pv 2)) pa_nil)) (pv 0)) pa_nil)))))
      (pss_one (ps_ret pe_bl))
      pss_nil)
      (pss_cons (ps_if (PW.pt (pw_or (pt_cmpR op_ne (Ow.pe_d (D_minus T) hr (by decide) hg pass0 (by rfl) (pa_cons (pv 0) (pa_cons (Ow.pe_d (D_plus T) hr (by decide) hg pass0 (by rfl) (pa_cons (pv 0) (pa_cons (pv 1) (pa_cons (pv 2) pa_nil)))) (pa_cons (pv 2) pa_nil)))) (pv 1) (nomark _)) (pw_or1 (pt_cmpR op_ne (Ow.pe_d (D_plus T) hr (by decide) hg pass0 (by rfl) (pa_cons (pv 0) (pa_cons (Ow.pe_d (D_minus T) hr (by decide) hg pass0 (by rfl) (pa_cons (pv 0) (pa_cons (pv 1) (pa_cons (pv 2) pa_nil)))) (pa_cons (pv 2) pa_nil)))) (pv 1) (nomark _)))))
      (pss_one (ps_ret pe_bl))
      pss_nil)
      (pss_cons (ps_if (pt_cmpR op_eq (pv 2) pe_int (nomark _))
      (pss_one (ps_ret pe_bl))
      pss_nil)
      (pss_cons (ps_set (i := 3) sc_law_two_right.nd rfl (Or.inl rfl) (pe_op op_mod (pe_callTy Ow.call_int (by rfl) T.b_int (by decide +kernel) (pa_cons (pe_op op_mul (pv 1) (Ow.pe_d (D_law_back T) hr (by decide) hg pass0 (by rfl) (pa_cons (pv 0) (pa_cons (pv 2) pa_nil)))) pa_nil)) (pv 0)))
      (pss_cons (ps_if (pt_not (pt_val (Ow.pe_d (D_law_are_told T) hr (by decide) hg pass0 (by rfl) (pa_cons (pe_lst (pa_cons (Ow.pe_d (D_over T) hr (by decide) hg pass0 (by rfl) (pa_cons (pv 0) (pa_cons (pv 1) (pa_cons (pv 2) pa_nil)))) (pa_cons (Ow.pe_dk0 (D_over T) hr (by decide) hg pass0 w_over_0_other_one_prime (by rfl) (pk_cons (pv 2) (pk_cons (pv 1) (pk_cons (pv 0) pk_nil)))) pa_nil))) (pa_cons (pv 3) pa_nil)))))
      (pss_one (ps_ret pe_bl))
      pss_nil)
      (pss_one (ps_ret (pe_cmpR op_eq (Ow.pe_d (D_times T) hr (by decide) hg pass0 (by rfl) (pa_cons (pv 0) (pa_cons (pv 3) (pa_cons (pv 2) pa_nil)))) (pv 1) (nomark _))))))))))), ?_⟩
    have lo := hp.lo
    have hi := hp.hi
    have na := ha.1
    have na2 := ha.2
    refine ⟨_, rfl, _, rfl, _, rfl, _, _, _, rfl, hp, (by first | assumption | exact nm_mod (by omega)), (by first | assumption | exact nm_mod (by omega)), _, rfl, _, rfl, _, rfl, rfl, rfl, _, _, _, rfl, hp, (by first | assumption | exact nm_mod (by omega)), (by first | assumption | exact nm_mod (by omega)), _, rfl, _, rfl, _, rfl, _, _, _, rfl, hp, (by first | assumption | exact nm_mod (by omega)), (by first | assumption | exact nm_mod (by omega)), (by show 3 ≤ sizeLine; decide), fun l1 hl1 => ⟨_, rfl, _, rfl, _, _, rfl, rfl, _, rfl, _, rfl, _, _, rfl, rfl, (by show (0 : Int) < _; omega), l1, [(a + b) % p, (a + b) % p, (b + a) % p], _, rfl, upd_same, by show 3 < 1000; omega, fun H1 s1 => ⟨_, rfl, ?_⟩⟩⟩
    rw [told3 rfl rfl (by rw [Int.add_comm])]
    have t1 := (same_new hl1).trans s1
    refine iteF ?_
    refine ⟨_, rfl, _, rfl, _, rfl, _, _, _, rfl, hp, (by first | assumption | exact nm_mod (by omega)), (by first | assumption | exact nm_mod (by omega)), _, rfl, _, rfl, _, rfl, rfl, rfl, _, _, _, rfl, hp, (by first | assumption | exact nm_mod (by omega)), (by first | assumption | exact nm_mod (by omega)), (by show 2 ≤ sizeLine; decide), fun l2 hl2 => ⟨_, rfl, _, rfl, _, _, rfl, rfl, _, rfl, _, rfl, _, _, rfl, rfl, (by show (0 : Int) < _; omega), l2, [(a - b) % p, (a - b) % p], _, rfl, upd_same, by show 2 < 1000; omega, fun H2 s2 => ⟨_, rfl, ?_⟩⟩⟩
    rw [told2 rfl rfl]
    have t2 := t1.trans ((same_new hl2).trans s2)
    refine iteF ?_
    refine ⟨_, rfl, _, rfl, _, rfl, _, _, _, rfl, hp, (by first | assumption | exact nm_mod (by omega)), (by first | assumption | exact nm_mod (by omega)), _, rfl, _, rfl, _, rfl, rfl, rfl, _, _, _, rfl, hp, (by first | assumption | exact nm_mod (by omega)), (by first | assumption | exact nm_mod (by omega)), _, rfl, _, rfl, _, rfl, _, _, _, rfl, hp, (by first | assumption | exact nm_mod (by omega)), (by first | assumption | exact nm_mod (by omega)), (by show 3 ≤ sizeLine; decide), fun l3 hl3 => ⟨_, rfl, _, rfl, _, _, rfl, rfl, (by first | exact .inl ⟨by omega, by omega⟩ | exact .inr ⟨by omega, by omega⟩), _, rfl, _, rfl, _, _, rfl, rfl, (by show (0 : Int) < _; omega), l3, [a * b % p, a * b % p, b * a % p], _, rfl, upd_same, by show 3 < 1000; omega, fun H3 s3 => ⟨_, rfl, ?_⟩⟩⟩
    rw [told3 rfl rfl (by rw [Int.mul_comm])]
    have t3 := t2.trans ((same_new hl3).trans s3)
    refine iteF ?_
    refine ⟨_, rfl, _, rfl, _, rfl, _, rfl, _, _, _, rfl, hp, (by first | assumption | exact nm_mod (by omega)), (by first | assumption | exact nm_mod (by omega)), _, rfl, _, _, _, rfl, hp, (by first | assumption | exact nm_mod (by omega)), (by first | assumption | exact nm_mod (by omega)), _, rfl, rfl, _, rfl, iteNS (congrArg V.int (there_back ha)) ?_⟩
    refine ⟨_, rfl, _, rfl, _, rfl, _, rfl, _, _, _, rfl, hp, (by first | assumption | exact nm_mod (by omega)), (by first | assumption | exact nm_mod (by omega)), _, rfl, _, _, _, rfl, hp, (by first | assumption | exact nm_mod (by omega)), (by first | assumption | exact nm_mod (by omega)), _, rfl, rfl, _, rfl, iteNS (congrArg V.int (back_there ha)) ?_⟩
    refine ⟨_, rfl, rfl, _, rfl, ite2 (fun z => ?_) (fun z => ?_)⟩
    · exact q H3 t3
    · have b0 : 0 < b := by
        have := hb.1
        have : b ≠ 0 := fun e => z (decide_eq_true (congrArg V.int e))
        omega
      refine ⟨_, rfl, _, rfl, _, rfl, p, b, rfl, hp, b0, hb.2, fun r H4 s4 hr hc => ?_⟩
      refine ⟨_, _, rfl, rfl, .inl ⟨by omega, by omega⟩, _, rfl, _, rfl, _, _, rfl, rfl, (by show (0 : Int) < _; omega), ?_⟩
      refine ⟨_, rfl, _, rfl, _, rfl, p, a, b, rfl, hp, ha, hb, b0, fun r2 H5 s5 hr2 hc2 => ?_⟩
      refine ⟨_, rfl, _, rfl, _, rfl, rfl, rfl, p, a, b, rfl, hp, ha, hb, b0, fun r3 H6 s6 hr3 hc3 => ⟨(by show 2 ≤ sizeLine; decide), fun l4 hl4 => ?_⟩⟩
      have e2 := back_uniq hc2 hc hr2.1 hr2.2 hr.1 hr.2
      have e3 := back_uniq hc3 hc hr3.1 hr3.2 hr.1 hr.2
      subst e2 e3
      refine ⟨_, rfl, l4, [a * r3 % p, a * r3 % p], _, rfl, upd_same, by show 2 < 1000; omega, fun H7 s7 => ⟨_, rfl, ?_⟩⟩
      rw [told2 rfl rfl]
      have t4 := t3.trans (s4.trans (s5.trans (s6.trans ((same_new hl4).trans s7))))
      refine iteF ?_
      refine ⟨_, rfl, _, rfl, _, rfl, _, _, _, rfl, hp, nm_mod (by omega), hb, _, rfl, rfl, ?_⟩
      have e : decide (V.int (a * r3 % p * b % p) = V.int a) = true := decide_eq_true (congrArg V.int (over_times ha hc3))
      show Q (.bl (decide (V.int (a * r3 % p * b % p) = V.int a))) H7
      rw [e]
      exact q H7 t4
end

end Eqr
namespace Eqr
open PySem PySem.Spec L2
section
variable {P : Program} {w : World} {K : PySem.W.Frag} {mg : Str → Option Value} {base : Heap}
def sp_law_one_right : Sp := fun vs H Q _ => ∃ a p x, vs = [.ref a, .int p, .int x] ∧ PotAt H a ∧ Pr p ∧ Nm p x ∧ ∀ H', Stp a H H' → Q (.bl true) H'
theorem pow_fermat {p x r : Int} (hp : Pr p) (x0 : 0 < x) (hx : Nm p x) (h : PowIs p x (p - 1) r) : r = 1 := by
  have lo := hp.lo
  have hr : Nm p r := h.1
  exact hr.one hp ((h.2.1 (by omega)).trans (fermat hp x0 hx.2))
theorem pow_none {p x r : Int} (hp : Pr p) (h : PowIs p x 0 r) : r = 1 := by
  have hr : Nm p r := h.1
  refine hr.one hp ((h.2.1 (Int.le_refl _)).trans ?_)
  show Cg p (x ^ 0) 1
  rw [Int.pow_zero]
  exact Cg.refl _ _
theorem pow_self {p x r : Int} (hx : Nm p x) (h : PowIs p x 1 r) : r = x := by
  have hr : Nm p r := h.1
  refine Cg.uniq (h.2.1 (by omega) |>.trans ?_) hr.1 hr.2 hx.1 hx.2
  show Cg p (x ^ 1) x
  rw [Int.pow_succ, Int.pow_zero, Int.one_mul]
  exact Cg.refl _ _
theorem D_law_one_right (T : Tx K mg) : Ow.Df P w K mg base CX0 7 "_law_one_right" s_law_one_right ["pot", "prime", "one"] (sp_law_one_right) := by
  refine Ow.df_of T.f_law_one_right sc_law_one_right bd_law_one_right (fun vs H Q E h => ?_) (fun cdv A outer s H vs Q E f hg hr h => ?_)
  · obtain ⟨_, _, _, rfl, _⟩ := h
    rfl
  · obtain ⟨a, p, x, rfl, hpot, hp, hx, q⟩ := h
    have hu := hr.units
    refine ⟨_, (Evl.pss_cut (ps_if (pt_cmpR op_gt (pv 2) pe_int (nomark _))
      (pss_cons (ps_set (i := 3) sc_law_one_right.nd rfl (Or.inl rfl) (Ow.pe_d (D_law_back T) hr (by decide) hg pass0 (by rfl) (pa_cons (pv 1) (pa_cons (pv 2) pa_nil))))
        (pss_cons (ps_if (PW.pt (pw_or (pt_cmpR op_ne (pe_op op_mod (pe_callTy Ow.call_int (by rfl) T.b_int (by decide +kernel) (pa_cons (pe_op op_mul (pv 3) (pv 2)) pa_nil)) (pv 1)) pe_int (nomark _)) (pw_or1 (pt_not (pt_val (Ow.pe_d (D_law_are_told T) hr (by decide) hg pass0 (by rfl) (pa_cons (pe_lst (pa_cons (Ow.pe_d (D_back T) hr (by decide) hg pass0 (by rfl) (pa_cons (pv 1) (pa_cons (pv 2) pa_nil))) (pa_cons (Ow.pe_dk0 (D_back T) hr (by decide) hg pass0 w_back_0_one_prime (by rfl) (pk_cons (pv 2) (pk_cons (pv 1) pk_nil))) pa_nil))) (pa_cons (pv 3) pa_nil))))))))
        (pss_one (ps_ret pe_bl))
        pss_nil)
        (pss_one (ps_if (pt_not (pt_val (Ow.pe_d (D_law_are_told T) hr (by decide) hg pass0 (by rfl) (pa_cons (pe_lst (pa_cons (Ow.pe_d (D_power T) hr (by decide) hg pass0 (by rfl) (pa_cons (pv 1) (pa_cons (pv 2) (pa_cons (pe_op op_sub (pv 1) pe_int) pa_nil)))) (pa_cons (Ow.pe_d (D_power T) hr (by decide) hg pass0 (by rfl) (pa_cons (pv 1) (pa_cons (pv 2) (pa_cons pe_int pa_nil)))) (pa_cons (Ow.pe_d (D_times T) hr (by decide) hg pass0 (by rfl) (pa_cons (pv 1) (pa_cons (pv 2) (pa_cons (Ow.pe_d (D_back T) hr (by decide) hg pass0 (by rfl) (pa_cons (pv 1) (pa_cons (pv 2) pa_nil))) pa_nil)))) pa_nil)))) (pa_cons pe_int pa_nil)))))
        (pss_one (ps_ret pe_bl))
        pss_nil))))
      pss_nil)
      (pss_cons (ps_for PassesOwn.never rfl (pi_range1 (by rfl) T.b_range (pa_cons pe_int pa_nil)) (pg_name (i := 4) sc_law_one_right.nd rfl (Or.inl rfl))
      (pss_cons (ps_set (i := 5) sc_law_one_right.nd rfl (Or.inl rfl) (Ow.pe_d (D_law_pick T) hr (by decide) hg pass0 (by rfl) (pa_cons (pv 0) (pa_cons (pe_lst (pa_cons (Ow.pe_d (D_law_draw T) hr (by decide) hg pass0 (by rfl) (pa_cons (pv 0) (pa_cons pe_int pa_nil))) (pa_cons (Ow.pe_d (D_law_draw T) hr (by decide) hg pass0 (by rfl) (pa_cons (pv 0) (pa_cons pe_int pa_nil))) (pa_cons (pv 1) (pa_cons (pe_op op_sub (pv 1) pe_int) (pa_cons pe_int (pa_cons pe_int pa_nil))))))) pa_nil))))
        (Evl.pss_cut (ps_set (i := 5) sc_law_one_right.nd rfl (Or.inl rfl) (pe_ifExp (PW.pt (pw_and (pt_cmpR op_gt (pv 2) pe_int (nomark _)) (pw_and1 (pt_cmpR op_eq (Ow.pe_d (D_law_draw T) hr (by decide) hg pass0 (by rfl) (pa_cons (pv 0) (pa_cons pe_int pa_nil))) pe_int (nomark _))))) (pe_op op_sub pe_int (pv 5)) (pv 5)))
        (pss_one (ps_if (pt_not (pt_val (Ow.pe_d (D_law_are_told T) hr (by decide) hg pass0 (by rfl) (pa_cons (pe_lst (pa_cons (Ow.pe_d (D_power T) hr (by decide) hg pass0 (by rfl) (pa_cons (pv 1) (pa_cons (pv 2) (pa_cons (pv 5) pa_nil)))) (pa_cons (Ow.pe_dk0 (D_power T) hr (by decide) hg pass0 w_power_0_many_one_prime (by rfl) (pk_cons (pv 5) (pk_cons (pv 2) (pk_cons (pv 1) pk_nil)))) pa_nil))) (pa_cons (Ow.pe_d (D_law_power T) hr (by decide) hg pass0 (by rfl) (pa_cons (pv 1) (pa_cons (pv 2) (pa_cons (pv 5) pa_nil)))) pa_nil)))))
        (pss_one (ps_ret pe_bl))
        pss_nil)))))
      (pss_one (ps_ret (pe_and (Ow.pe_d (D_law_is_told T) hr (by decide) hg pass0 (by rfl) (pa_cons (Ow.pe_d (D_power T) hr (by decide) hg pass0 (by rfl) (pa_cons (pv 1) (pa_cons pe_int (pa_cons pe_int pa_nil)))) (pa_cons pe_int pa_nil))) (pe_one (Ow.pe_d (D_law_is_told T) hr (by decide) hg pass0 (by rfl) (pa_cons (Ow.pe_d (D_power T) hr (by decide) hg pass0 (by rfl) (pa_cons (pv 1) (pa_cons (pv 2) (pa_cons pe_int pa_nil)))) (pa_cons (pv 2) pa_nil))))))))), ?_⟩
    have lo := hp.lo
    have hi := hp.hi
    have nx := hx.1
    have nx2 := hx.2
    refine ⟨fun σ H' => Stp a H H' ∧ ∃ o, σ = [some (.ref a), some (.int p), some (.int x), o, none, none], ?_, ?_⟩
    · refine ⟨_, rfl, _, _, rfl, rfl, _, rfl, ite2 (fun c => ?_) (fun c => ?_)⟩
      · have x0 : 0 < x := of_decide_eq_true c
        refine ⟨_, rfl, _, rfl, p, x, rfl, hp, x0, hx.2, fun r H1 s1 hr hc => ?_⟩
        have r0 := hr.1
        have r1 := hr.2
        refine ⟨_, rfl, _, rfl, _, _, rfl, rfl, (by first | exact .inl ⟨by omega, by omega⟩ | exact .inr ⟨by omega, by omega⟩), _, rfl, _, rfl, _, _, rfl, rfl, (by show (0 : Int) < _; omega), rfl, _, rfl, iteNS (congrArg V.int (hc.one hp)) ?_⟩
        refine ⟨_, rfl, _, rfl, p, x, rfl, hp, x0, hx.2, fun r2 H2 s2 hr2 hc2 => ?_⟩
        refine ⟨_, rfl, _, rfl, rfl, rfl, p, x, rfl, hp, x0, hx.2, fun r3 H3 s3 hr3 hc3 => ⟨(by show 2 ≤ sizeLine; decide), fun l1 hl1 => ?_⟩⟩
        have e2 := back_uniq hc2 hc hr2.1 hr2.2 hr.1 hr.2
        have e3 := back_uniq hc3 hc hr3.1 hr3.2 hr.1 hr.2
        subst e2 e3
        refine ⟨_, rfl, l1, [r3, r3], _, rfl, upd_same, by show 2 < 1000; omega, fun H4 s4 => ⟨_, rfl, ?_⟩⟩
        rw [told2 rfl rfl]
        have t1 := s1.trans (s2.trans (s3.trans ((same_new hl1).trans s4)))
        refine iteF ?_
        refine ⟨_, rfl, _, rfl, _, rfl, _, _, rfl, rfl, p, x, p - 1, rfl, hp, hx, by omega, by omega, fun z => by omega, fun k1 H5 s5 h5 => ?_⟩
        refine ⟨_, rfl, _, rfl, p, x, 0, rfl, hp, hx, by omega, by omega, fun z => by omega, fun k2 H6 s6 h6 => ?_⟩
        refine ⟨_, rfl, _, rfl, _, rfl, _, rfl, p, x, rfl, hp, x0, hx.2, fun k3 H7 s7 h7 c7 => ?_⟩
        refine ⟨p, x, k3, rfl, hp, hx, h7, (by show 3 ≤ sizeLine; decide), fun l2 hl2 => ?_⟩
        refine ⟨l2, [k1, k2, x * k3 % p], 1, rfl, upd_same, by show 3 < 1000; omega, fun H8 s8 => ⟨_, rfl, ?_⟩⟩
        rw [told3 (pow_fermat hp x0 hx h5) (pow_none hp h6) (by rw [Int.mul_comm]; exact c7.one hp)]
        have t2 := t1.trans (s5.trans (s6.trans (s7.trans ((same_new hl2).trans s8))))
        exact iteF ⟨.of hpot t2, _, rfl⟩
      · exact ⟨.of hpot (Same.refl H), _, rfl⟩
    · rintro σ H1 ⟨st, o, rfl⟩
      refine ⟨3, rfl, by decide, by decide, for_range (lo := 0) (n := 3) (fun i σ H' => Stp a H H' ∧ ∃ o o2 o3, σ = [some (.ref a), some (.int p), some (.int x), o, o2, o3]) ⟨st, _, _, _, rfl⟩ ?_ ?_⟩
      · rintro i σ H2 hi ⟨st2, o, o2, o3, rfl⟩
        refine ⟨_, rfl, _, rfl, a, 20, rfl, st2.pot, by omega, by omega, fun d1 H3 s3 e0 e1 => ?_⟩
        refine ⟨_, rfl, a, 1000001, rfl, s3.pot, by omega, by omega, fun d2 H4 s4 f0 f1 => ?_⟩
        refine ⟨_, rfl, _, rfl, _, _, rfl, rfl, (by show 6 ≤ sizeLine; decide), fun l hl => ?_⟩
        refine ⟨a, l, _, rfl, s4.pot.same (same_new hl), upd_same, s4.pot.ne hl, by show 0 < 6; omega, by show 6 < 1000; omega, fun v H5 s5 hv => ?_⟩
        have st5 := st2.trans (s3.trans ((s4.same (same_new hl)).trans s5))
        obtain ⟨m, rfl, m0, m1⟩ : ∃ m, v = .int m ∧ 0 ≤ m ∧ m ≤ 1000000 := by
          simp only [List.mem_cons, List.not_mem_nil, or_false] at hv
          rcases hv with rfl | rfl | rfl | rfl | rfl | rfl
          · exact ⟨d1, rfl, by omega, by omega⟩
          · exact ⟨d2, rfl, by omega, by omega⟩
          · exact ⟨p, rfl, by omega, by omega⟩
          · exact ⟨_, rfl, by omega, by omega⟩
          · exact ⟨_, rfl, by omega, by omega⟩
          · exact ⟨_, rfl, by omega, by omega⟩
        refine ⟨fun σ H' => Stp a H H' ∧ ∃ n o o2, σ = [some (.ref a), some (.int p), some (.int x), o, o2, some (.int n)] ∧ -1000000 ≤ n ∧ n ≤ 1000000 ∧ (n < 0 → 0 < x), ?_, ?_⟩
        · refine ⟨_, rfl, _, _, rfl, rfl, _, rfl, ite2 (fun c => ?_) (fun c => ?_)⟩
          · have x0 : 0 < x := of_decide_eq_true c
            refine ⟨_, rfl, a, 2, rfl, st5.pot, by omega, by omega, fun d3 H6 s6 g0 g1 => ⟨rfl, _, rfl, ite2 (fun z => ?_) (fun z => ?_)⟩⟩
            · exact ⟨_, rfl, _, _, rfl, rfl, st5.trans s6, _, _, _, rfl, by omega, by omega, fun _ => x0⟩
            · exact ⟨_, rfl, st5.trans s6, _, _, _, rfl, by omega, by omega, fun z => by omega⟩
          · exact iteF ⟨_, rfl, st5, _, _, _, rfl, by omega, by omega, fun z => by omega⟩
        · rintro σ H6 ⟨st6, n, o, o2, rfl, n0, n1, hn⟩
          refine ⟨_, rfl, _, rfl, _, rfl, p, x, n, rfl, hp, hx, n0, n1, hn, fun k1 H7 s7 h7 => ?_⟩
          refine ⟨_, rfl, _, rfl, _, rfl, rfl, rfl, p, x, n, rfl, hp, hx, n0, n1, hn, fun k2 H8 s8 h8 => ⟨(by show 2 ≤ sizeLine; decide), fun l2 hl2 => ?_⟩⟩
          refine ⟨_, rfl, _, rfl, _, rfl, p, x, n, rfl, hp, hx, n0, n1, hn, fun k3 H9 s9 h9 => ?_⟩
          refine ⟨l2, [k1, k2], k3, rfl, s9 _ _ upd_same, by show 2 < 1000; omega, fun H10 s10 => ⟨_, rfl, ?_⟩⟩
          rw [told2 (h7.uniq h9) (h8.uniq h9)]
          exact iteF ⟨st6.same (s7.trans (s8.trans ((same_new hl2).trans (s9.trans s10)))), _, _, _, rfl⟩
      · rintro σ H2 ⟨st2, o, o2, o3, rfl⟩
        refine ⟨_, rfl, p, 0, 0, rfl, hp, ⟨by omega, by omega⟩, by omega, by omega, fun z => by omega, fun k1 H3 s3 h3 => ?_⟩
        refine ⟨_, _, rfl, _, rfl, ?_⟩
        rw [decide_eq_true (pow_none hp h3)]
        refine iteT ?_
        refine ⟨_, rfl, _, rfl, p, x, 1, rfl, hp, hx, by omega, by omega, fun z => by omega, fun k2 H4 s4 h4 => ?_⟩
        refine ⟨_, rfl, _, _, rfl, ?_⟩
        rw [decide_eq_true (pow_self hx h4)]
        exact q H4 (st2.same (s3.trans s4))
end

end Eqr
namespace Eqr
open PySem PySem.Spec L2
theorem fresh_of {H X : Hp} {p : Addr} {o : HO} (h : H p = none) (e : upd H p o = X) : Same H X ∧ X p = some o := by
  subst e
  exact ⟨same_new h, upd_same⟩
theorem IsV.mono {H H' : Hp} {v : V} {b : Bool} (h : IsV H v b) (s : Same H H') : IsV H' v b := by
  cases h with
  | int i => exact .int i
  | non => exact .non
  | bl b => exact .bl b
  | str x => exact .str x
  | lst h => exact .lst (s _ _ h)
  | tup h => exact .tup (s _ _ h)
theorem two_bools (x : Bool) : (PyData.list [.bool x, .bool x]).hasDict = false ∧ (PyData.list [.bool x, .bool x]).showable = true ∧ (PyData.list [.bool x, .bool x]).depth ≤ 60 ∧ (PyData.list [.bool x, .bool x]).shown.length ≤ sizeLine := by
  cases x <;> exact ⟨by decide +kernel, by decide +kernel, by decide +kernel, by decide +kernel⟩
section
variable {P : Program} {w : World} {K : PySem.W.Frag} {mg : Str → Option Value} {base : Heap}
def sp_law_right : Sp := fun vs H Q _ => ∃ a, vs = [.ref a] ∧ PotAt H a ∧ ∀ H', Stp a H H' → Q (.bl true) H'
theorem D_law_right (T : Tx K mg) : Ow.Df P w K mg base CX0 8 "_law_right" s_law_right ["pot"] (sp_law_right) := by
  refine Ow.df_of T.f_law_right sc_law_right bd_law_right (fun vs H Q E h => ?_) (fun cdv A outer s H vs Q E f hg hr h => ?_)
  · obtain ⟨_, rfl, _⟩ := h
    rfl
  · obtain ⟨a, rfl, hpot, q⟩ := h
    have hu := hr.units
    refine ⟨_, (pss_cons (ps_set (i := 1) sc_law_right.nd rfl (Or.inr rfl) (Ow.pe_d (D_law_prime T) hr (by decide) hg pass0 (by rfl) (pa_cons (pv 0) pa_nil)))
      (pss_cons (ps_for PassesOwn.never rfl (pi_range1 (by rfl) T.b_range (pa_cons pe_int pa_nil)) (pg_name (i := 2) sc_law_right.nd rfl (Or.inl rfl))
      (pss_cons (ps_set (i := 3) sc_law_right.nd rfl (Or.inl rfl) (Ow.pe_d (D_law_pick T) hr (by decide) hg pass0 (by rfl) (pa_cons (pv 0) (pa_cons (pe_lst (pa_cons (Ow.pe_d (D_law_draw T) hr (by decide) hg pass0 (by rfl) (pa_cons (pv 0) (pa_cons pe_int pa_nil))) (pa_cons (Ow.pe_d (D_law_draw T) hr (by decide) hg pass0 (by rfl) (pa_cons (pv 0) (pa_cons (pe_op op_pow pe_int pe_int) pa_nil))) (pa_cons (Ow.pe_d (D_law_draw T) hr (by decide) hg pass0 (by rfl) (pa_cons (pv 0) (pa_cons (pe_op op_pow pe_int pe_int) pa_nil))) pa_nil)))) pa_nil))))
        (Evl.pss_cut (ps_set (i := 3) sc_law_right.nd rfl (Or.inl rfl) (pe_ifExp (pt_cmpR op_eq (Ow.pe_d (D_law_draw T) hr (by decide) hg pass0 (by rfl) (pa_cons (pv 0) (pa_cons pe_int pa_nil))) pe_int (nomark _)) (pe_op op_sub pe_int (pv 3)) (pv 3)))
        (pss_one (ps_if (pt_not (pt_val (Ow.pe_d (D_law_are_told T) hr (by decide) hg pass0 (by rfl) (pa_cons (pe_lst (pa_cons (Ow.pe_d (D_rest T) hr (by decide) hg pass0 (by rfl) (pa_cons (pv 1) (pa_cons (pv 3) pa_nil))) (pa_cons (Ow.pe_dk0 (D_rest T) hr (by decide) hg pass0 w_rest_0_number_prime (by rfl) (pk_cons (pv 3) (pk_cons (pv 1) pk_nil))) pa_nil))) (pa_cons (pe_op op_mod (pe_callTy Ow.call_int (by rfl) T.b_int (by decide +kernel) (pa_cons (pv 3) pa_nil)) (pv 1)) pa_nil)))))
        (pss_one (ps_ret pe_bl))
        pss_nil)))))
      (pss_cons (ps_set (i := 4) sc_law_right.nd rfl (Or.inr rfl) (pe_op op_cat (pe_lst (pa_cons pe_int (pa_cons pe_int (pa_cons (pe_op op_sub (pv 1) pe_int) pa_nil)))) (pe_lc (own := [("turn", 2)]) (g := gName 2) rfl sc_law_right.nd (pi_range1 (by rfl) T.b_range (pa_cons pe_int pa_nil)) (blkOk_by (N := ["pot", "prime", "turn", "number", "numbers", "one", "other", "some", "value", "is_so"]) (sc := defScope s_law_right) (by decide +kernel)) (fun _ _ _ _ _ => pg_name (i := 2) sc_law_right.nd rfl (Or.inl rfl)) (fun _ _ _ _ _ => pts_nil) (fun _ _ _ _ _ => (Ow.pe_d (D_law_draw T) hr (by decide) hg pass0 (by rfl) (pa_cons (pv 0) (pa_cons (pv 1) pa_nil)))))))
      (pss_cons (ps_for PassesOwn.never rfl (pi_list (pv 4)) (pg_name (i := 5) sc_law_right.nd rfl (Or.inl rfl))
      (pss_cons (ps_if (pt_not (pt_val (Ow.pe_d (D_law_one_right T) hr (by decide) hg pass0 (by rfl) (pa_cons (pv 0) (pa_cons (pv 1) (pa_cons (pv 5) pa_nil))))))
        (pss_one (ps_ret pe_bl))
        pss_nil)
        (pss_one (ps_for PassesOwn.never rfl (pi_list (pe_op op_cat (pe_lst (pa_cons pe_int (pa_cons (pe_op op_sub (pv 1) pe_int) pa_nil))) (pe_lc (own := [("turn", 2)]) (g := gName 2) rfl sc_law_right.nd (pi_range1 (by rfl) T.b_range (pa_cons pe_int pa_nil)) (blkOk_by (N := ["pot", "prime", "turn", "number", "numbers", "one", "other", "some", "value", "is_so"]) (sc := defScope s_law_right) (by decide +kernel)) (fun _ _ _ _ _ => pg_name (i := 2) sc_law_right.nd rfl (Or.inl rfl)) (fun _ _ _ _ _ => pts_nil) (fun _ _ _ _ _ => (Ow.pe_d (D_law_pick T) hr (by decide) hg pass0 (by rfl) (pa_cons (pv 0) (pa_cons (pv 4) pa_nil))))))) (pg_name (i := 6) sc_law_right.nd rfl (Or.inl rfl))
        (pss_one (ps_if (pt_not (pt_val (Ow.pe_d (D_law_two_right T) hr (by decide) hg pass0 (by rfl) (pa_cons (pv 1) (pa_cons (pv 5) (pa_cons (pv 6) pa_nil))))))
          (pss_one (ps_ret pe_bl))
          pss_nil))))))
      (pss_cons (ps_set (i := 7) sc_law_right.nd rfl (Or.inl rfl) (pe_lst (pa_cons (pv 1) (pa_cons (pe_op op_add (pv 1) pe_int) (pa_cons (pe_op op_sub (pv 1) pe_int) (pa_cons (pe_op op_add pe_int (Ow.pe_d (D_law_draw T) hr (by decide) hg pass0 (by rfl) (pa_cons (pv 0) (pa_cons pe_int pa_nil)))) (pa_cons (pe_op op_add pe_int (Ow.pe_d (D_law_draw T) hr (by decide) hg pass0 (by rfl) (pa_cons (pv 0) (pa_cons pe_int pa_nil)))) (pa_cons (pe_op op_mul pe_int (pv 1)) (pa_cons (pe_op op_sub pe_int (pv 1)) (pa_cons pe_int (pa_cons pe_int (pa_cons pe_int (pa_cons pe_int (pa_cons pe_int (pa_cons pe_int pa_nil)))))))))))))))
      (pss_cons (ps_for PassesOwn.never rfl (pi_list (pe_op op_cat (pv 7) (pe_lst (pa_cons pe_non (pa_cons pe_bl (pa_cons pe_str (pa_cons (pe_tup (pa_cons pe_int pa_nil)) (pa_cons (pe_lst pa_nil) (pa_cons pe_int (pa_cons pe_int (pa_cons (pe_op op_pow pe_int pe_int) pa_nil))))))))))) (pg_name (i := 8) sc_law_right.nd rfl (Or.inl rfl))
      (Evl.pss_cut (ps_set (i := 9) sc_law_right.nd rfl (Or.inl rfl) (pe_and (pe_callB call_isi (by rfl) T.b_isinstance (by decide +kernel) (pa_cons (pv 8) (pa_cons (pe_bltn (v := .ty "int") (by rfl) T.b_int (by decide +kernel) rfl) pa_nil))) (pe_and (pe_not (pe_callB call_isi (by rfl) T.b_isinstance (by decide +kernel) (pa_cons (pv 8) (pa_cons (pe_bltn (v := .ty "bool") (by rfl) T.b_bool (by decide +kernel) rfl) pa_nil)))) (pe_and (pe_chain op_le op_le pe_int (pv 8) pe_int) (pe_one (Ow.pe_d (D_law_is_prime T) hr (by decide) hg pass0 (by rfl) (pa_cons (pv 8) pa_nil)))))))
        (pss_one (ps_if (pt_cmpR op_ne (pe_callB (Ow.call_show hu hg) (by rfl) T.b_repr (by decide +kernel) (pa_cons (pe_lst (pa_cons (Ow.pe_d (D_is_prime T) hr (by decide) hg pass0 (by rfl) (pa_cons (pv 8) pa_nil)) (pa_cons (Ow.pe_dk0 (D_is_prime T) hr (by decide) hg pass0 w_is_prime_0_value (by rfl) (pk_cons (pv 8) pk_nil)) pa_nil))) pa_nil)) (pe_callB (Ow.call_show hu hg) (by rfl) T.b_repr (by decide +kernel) (pa_cons (pe_lst (pa_cons (pv 9) (pa_cons (pv 9) pa_nil))) pa_nil)) (nomark _))
        (pss_one (ps_ret pe_bl))
        pss_nil))))
      (pss_one (ps_ret pe_bl)))))))), ?_⟩
    refine ⟨_, rfl, a, rfl, hpot, fun p H1 s1 hp => ?_⟩
    have lo := hp.lo
    have hi := hp.hi
    -- three whole numbers and their rests
    refine ⟨3, rfl, by decide, by decide, for_range (lo := 0) (n := 3) (fun i σ H' => Stp a H H' ∧ ∃ o2 o3, σ = [some (.ref a), some (.int p), o2, o3, none, none, none, none, none, none]) ⟨s1, _, _, rfl⟩ ?_ ?_⟩
    · rintro i σ H2 hi2 ⟨st, o2, o3, rfl⟩
      refine ⟨_, rfl, _, rfl, a, 100, rfl, st.pot, by omega, by omega, fun d1 H3 s3 _ _ => ?_⟩
      refine ⟨_, rfl, _, _, rfl, rfl, ⟨by decide, by decide, by decide⟩, a, _, rfl, s3.pot, by decide +kernel, by decide +kernel, fun d2 H4 s4 _ _ => ?_⟩
      refine ⟨_, rfl, _, _, rfl, rfl, ⟨by decide, by decide, by decide⟩, a, _, rfl, s4.pot, by decide +kernel, by decide +kernel, fun d3 H5 s5 _ _ => ?_⟩
      refine ⟨(by show 3 ≤ sizeLine; decide), fun l hl => ?_⟩
      refine ⟨a, l, _, rfl, s5.pot.same (same_new hl), upd_same, s5.pot.ne hl, by show 0 < 3; omega, by show 3 < 1000; omega, fun v H6 s6 hv => ?_⟩
      have st6 := st.trans (s3.trans (s4.trans ((s5.same (same_new hl)).trans s6)))
      obtain ⟨m, rfl⟩ : ∃ m, v = .int m := by
        simp only [List.mem_cons, List.not_mem_nil, or_false] at hv
        rcases hv with rfl | rfl | rfl <;> exact ⟨_, rfl⟩
      refine ⟨fun σ H' => Stp a H H' ∧ ∃ o2 n, σ = [some (.ref a), some (.int p), o2, some (.int n), none, none, none, none, none, none], ?_, ?_⟩
      · refine ⟨_, rfl, a, 2, rfl, st6.pot, by omega, by omega, fun d H7 s7 _ _ => ⟨rfl, _, rfl, ite2 (fun z => ?_) (fun z => ?_)⟩⟩
        · exact ⟨_, rfl, _, _, rfl, rfl, st6.trans s7, _, _, rfl⟩
        · exact ⟨_, rfl, st6.trans s7, _, _, rfl⟩
      · rintro σ H7 ⟨st7, o2, n, rfl⟩
        refine ⟨_, rfl, _, rfl, _, _, rfl, hp, _, rfl, _, rfl, rfl, rfl, _, _, rfl, hp, (by show 2 ≤ sizeLine; decide), fun l2 hl2 => ?_⟩
        refine ⟨_, rfl, _, rfl, _, rfl, _, _, rfl, rfl, (by show (0 : Int) < _; omega), l2, [n % p, n % p], _, rfl, upd_same, by show 2 < 1000; omega, fun H8 s8 => ⟨_, rfl, ?_⟩⟩
        rw [told2 rfl rfl]
        exact iteF ⟨st7.same ((same_new hl2).trans s8), _, _, rfl⟩
    rintro σ H2 ⟨st2, o2, o3, rfl⟩
    -- the numbers
    refine ⟨_, rfl, _, _, rfl, rfl, (by show 3 ≤ sizeLine; decide), fun l1 hl1 => ?_⟩
    have p1 : PotAt (upd H2 l1 (.lst [.int 0, .int 1, .int (p - 1)])) a := st2.pot.same (same_new hl1)
    have st3 := st2.same (same_new (o := .lst [.int 0, .int 1, .int (p - 1)]) hl1)
    have n1 := st2.pot.ne hl1
    refine ⟨4, rfl, by decide, by decide, fun D hD => ?_⟩
    refine comp_range (S := Stp a) (fun _ v => ∃ d, v = .int d ∧ Nm p d) (Fair.pot hD p1) (by show 4 < 1000; omega) (fun x => rfl) ?_ ?_
    · intro i H' _ s Q' k
      exact ⟨_, rfl, _, rfl, a, p, rfl, s.pot, by omega, by omega, fun d H3 s3 d0 d1 => k _ _ s3 ⟨d, rfl, d0, d1⟩⟩
    intro xs H3 hlen hxs s3 eD
    refine ⟨l1, D, _, _, rfl, rfl, s3.kp _ _ n1 upd_same, eD, by show 3 + xs.length ≤ sizeLine; rw [hlen]; decide, fun n hn => ?_⟩
    have st4 := (st3.trans s3).same (same_new (o := .lst ([.int 0, .int 1, .int (p - 1)] ++ xs)) hn)
    have nn := (st3.trans s3).pot.ne hn
    have hL : ∀ v ∈ [V.int 0, V.int 1, V.int (p - 1)] ++ xs, ∃ d, v = .int d ∧ Nm p d := by
      intro v hv
      rcases List.mem_append.mp hv with hv | hv
      · simp only [List.mem_cons, List.not_mem_nil, or_false] at hv
        rcases hv with rfl | rfl | rfl
        · exact ⟨_, rfl, by omega, by omega⟩
        · exact ⟨_, rfl, by omega, by omega⟩
        · exact ⟨_, rfl, by omega, by omega⟩
      · obtain ⟨i, h1, h2⟩ := List.mem_iff_getElem.mp hv
        exact hxs i v (by rw [List.getElem?_eq_getElem h1, h2])
    have hLn : ([V.int 0, V.int 1, V.int (p - 1)] ++ xs).length = 7 := by
      rw [List.length_append, hlen]
      rfl
    have eN : (upd H3 n (.lst ([V.int 0, V.int 1, V.int (p - 1)] ++ xs))) n = some (.lst ([V.int 0, V.int 1, V.int (p - 1)] ++ xs)) := upd_same
    revert st4 eN hL hLn
    generalize upd H3 n (.lst ([V.int 0, V.int 1, V.int (p - 1)] ++ xs)) = H4
    generalize [V.int 0, V.int 1, V.int (p - 1)] ++ xs = L
    intro st4 hL hLn eN
    -- one by one, and each with others
    refine ⟨_, rfl, n, rfl, ⟨_, .of eN⟩, for_list (K := K) (a := n) (xs := L) (fun i σ H' => Stp a H H' ∧ H' n = some (.lst L) ∧ ∃ o2 o3 o5 o6, σ = [some (.ref a), some (.int p), o2, o3, some (.ref n), o5, o6, none, none, none])
      ⟨st4, eN, _, _, _, _, rfl⟩ (fun i σ H' _ h => .of h.2.1) ?_ ?_⟩
    · rintro i v σ H5 hv ⟨st5, e5, o2, o3, o5, o6, rfl⟩
      obtain ⟨x, rfl, hx⟩ := hL v (List.mem_of_getElem? hv)
      refine ⟨_, rfl, _, rfl, _, rfl, a, p, x, rfl, st5.pot, hp, hx, fun H6 s6 => ⟨_, rfl, iteF ?_⟩⟩
      have st6 := st5.trans s6
      refine ⟨_, rfl, _, _, rfl, rfl, (by show 2 ≤ sizeLine; decide), fun l hl => ?_⟩
      have p6 : PotAt (upd H6 l (.lst [.int 0, .int (p - 1)])) a := st6.pot.same (same_new hl)
      have st7 := st6.same (same_new (o := .lst [.int 0, .int (p - 1)]) hl)
      have e7 : (upd H6 l (.lst [.int 0, .int (p - 1)])) n = some (.lst L) := same_new hl _ _ (s6.kp _ _ nn e5)
      have nl := st6.pot.ne hl
      refine ⟨3, rfl, by decide, by decide, fun D hD => ?_⟩
      refine comp_range (S := Stp a) (fun _ v => ∃ d, v = .int d ∧ Nm p d) (Fair.pot hD p6) (by show 3 < 1000; omega) (fun x => rfl) ?_ ?_
      · intro i H' _ s Q' k
        exact ⟨_, rfl, _, rfl, a, n, L, rfl, s.pot, s.kp _ _ nn e7, nn, by omega, by omega, fun v H8 s8 hv => k _ _ s8 (hL v hv)⟩
      intro ys H8 hlen8 hys s8 eD8
      refine ⟨l, D, _, _, rfl, rfl, s8.kp _ _ nl upd_same, eD8, by show 2 + ys.length ≤ sizeLine; rw [hlen8]; decide, fun c hc => ?_⟩
      have st9 := (st7.trans s8).same (same_new (o := .lst ([.int 0, .int (p - 1)] ++ ys)) hc)
      have e9 : (upd H8 c (.lst ([.int 0, .int (p - 1)] ++ ys))) n = some (.lst L) := same_new hc _ _ (s8.kp _ _ nn e7)
      have hM : ∀ v ∈ [V.int 0, V.int (p - 1)] ++ ys, ∃ d, v = .int d ∧ Nm p d := by
        intro v hv
        rcases List.mem_append.mp hv with hv | hv
        · simp only [List.mem_cons, List.not_mem_nil, or_false] at hv
          rcases hv with rfl | rfl
          · exact ⟨_, rfl, by omega, by omega⟩
          · exact ⟨_, rfl, by omega, by omega⟩
        · obtain ⟨i, h1, h2⟩ := List.mem_iff_getElem.mp hv
          exact hys i v (by rw [List.getElem?_eq_getElem h1, h2])
      refine ⟨c, rfl, ⟨_, .of upd_same⟩, for_list (K := K) (a := c) (xs := [V.int 0, V.int (p - 1)] ++ ys) (fun j σ H' => Same (upd H8 c (.lst ([.int 0, .int (p - 1)] ++ ys))) H' ∧ ∃ o2 o3 o6, σ = [some (.ref a), some (.int p), o2, o3, some (.ref n), some (.int x), o6, none, none, none])
        ⟨Same.refl _, _, _, _, rfl⟩ (fun j σ H' _ h => h.1.seq (.of upd_same)) ?_ ?_⟩
      · rintro j v σ H10 hv ⟨sm, o2, o3, o6, rfl⟩
        obtain ⟨y, rfl, hy⟩ := hM v (List.mem_of_getElem? hv)
        exact ⟨_, rfl, _, rfl, _, rfl, p, x, y, rfl, hp, hx, hy, fun H11 s11 => ⟨_, rfl, iteF ⟨sm.trans s11, _, _, _, rfl⟩⟩⟩
      · rintro σ H10 ⟨sm, o2, o3, o6, rfl⟩
        exact ⟨st9.same sm, sm _ _ e9, _, _, _, _, rfl⟩
    rintro σ H5 ⟨st5, e5, o2, o3, o5, o6, rfl⟩
    -- any value as a prime
    refine ⟨_, rfl, _, rfl, _, _, rfl, rfl, _, rfl, _, _, rfl, rfl, _, rfl, a, 10100, rfl, st5.pot, by omega, by omega, fun d1 H6 s6 _ _ => ?_⟩
    refine ⟨_, _, rfl, rfl, _, rfl, a, 120, rfl, s6.pot, by omega, by omega, fun d2 H7 s7 _ _ => ?_⟩
    refine ⟨_, _, rfl, rfl, _, rfl, _, _, rfl, rfl, (by first | exact .inl ⟨by omega, by omega⟩ | exact .inr ⟨by omega, by omega⟩), _, rfl, _, _, rfl, rfl, (by show 13 ≤ sizeLine; decide), ?_⟩
    intro m hp_m
    generalize hx_m : upd _ m _ = H8
    obtain ⟨s8, em⟩ := fresh_of hp_m hx_m
    clear hx_m
    refine ⟨_, rfl, (by show 1 ≤ sizeLine; decide), ?_⟩
    intro t hp_t
    generalize hx_t : upd _ t _ = H9
    obtain ⟨s9, et⟩ := fresh_of hp_t hx_t
    clear hx_t
    refine ⟨Nat.zero_le _, ?_⟩
    intro e hp_e
    generalize hx_e : upd _ e _ = H10
    obtain ⟨s10, ee⟩ := fresh_of hp_e hx_e
    clear hx_e
    refine ⟨_, _, rfl, rfl, ⟨by decide, by decide, by decide⟩, (by show 8 ≤ sizeLine; decide), ?_⟩
    intro l hp_l
    generalize hx_l : upd _ l _ = H11
    obtain ⟨s11, el⟩ := fresh_of hp_l hx_l
    clear hx_l
    refine ⟨m, l, _, _, rfl, rfl, s11 _ _ (s10 _ _ (s9 _ _ em)), el, by show 13 + 8 ≤ sizeLine; decide, ?_⟩
    intro c hp_c
    generalize hx_c : upd _ c _ = H12
    obtain ⟨s12, ec⟩ := fresh_of hp_c hx_c
    clear hx_c
    have st12 := ((st5.trans s6).trans s7).same (s8.trans (s9.trans (s10.trans (s11.trans s12))))
    have et := s12 _ _ (s11 _ _ (s10 _ _ et))
    have ee := s12 _ _ (s11 _ _ ee)
    refine ⟨c, rfl, ⟨_, .of ec⟩, for_list (K := K) (a := c) (fun i σ H' => Same H12 H' ∧ ∃ o2 o3 o5 o6 o8 o9, σ = [some (.ref a), some (.int p), o2, o3, some (.ref n), o5, o6, some (.ref m), o8, o9])
      ⟨Same.refl _, _, _, _, _, _, _, rfl⟩ (fun i σ H' _ h => h.1.seq (.of ec)) ?_ ?_⟩
    · rintro i v σ H13 hv ⟨sm, o2, o3, o5, o6, o8, o9, rfl⟩
      obtain ⟨b, hb⟩ : ∃ b, IsV H13 v b := by
        have hm := List.mem_of_getElem? hv
        rcases List.mem_append.mp hm with hm | hm
        · simp only [List.mem_cons, List.not_mem_nil, or_false] at hm
          rcases hm with rfl | rfl | rfl | rfl | rfl | rfl | rfl | rfl | rfl | rfl | rfl | rfl | rfl <;> exact ⟨_, .int _⟩
        · simp only [List.mem_cons, List.not_mem_nil, or_false] at hm
          rcases hm with rfl | rfl | rfl | rfl | rfl | rfl | rfl | rfl
          · exact ⟨_, .non⟩
          · exact ⟨_, .bl _⟩
          · exact ⟨_, .str _⟩
          · exact ⟨_, .tup (sm _ _ et)⟩
          · exact ⟨_, .lst (sm _ _ ee)⟩
          · exact ⟨_, .int _⟩
          · exact ⟨_, .int _⟩
          · exact ⟨_, .int _⟩
      refine ⟨fun σ H' => Same H12 H' ∧ IsV H' v b ∧ ∃ o2 o3 o5 o6, σ = [some (.ref a), some (.int p), o2, o3, some (.ref n), o5, o6, some (.ref m), some v, some (.bl (prV v))], ?_, ?_⟩
      · have fin : ∀ H', Same H13 H' → Same H12 H' ∧ IsV H' v b := fun H' s => ⟨sm.trans s, hb.mono s⟩
        have f0 := fin H13 (Same.refl _)
        refine ⟨_, rfl, v, .ty "int", ?_⟩
        cases hb with
        | int z =>
          refine ⟨_, _, _, rfl, .ty _, .base (.int z), kit_ty (by decide +kernel), _, rfl, iteT ⟨_, rfl, _, _, _, _, false, rfl, .ty _, .base (.int z), kit_ty (by decide +kernel), _, rfl, _, rfl, iteT ?_⟩⟩
          have e : prV (.int z) = ((decide (3 ≤ z) && decide (z ≤ 9973)) && primeB z) := rfl
          refine ⟨_, rfl, _, _, rfl, rfl, _, rfl, ite2 (fun c1 => ?_) (fun c1 => ?_)⟩
          · have c1 : 3 ≤ z := of_decide_eq_true c1
            refine ⟨_, _, rfl, rfl, _, rfl, ite2 (fun c2 => ?_) (fun c2 => ?_)⟩
            · have c2 : z ≤ 9973 := of_decide_eq_true c2
              refine ⟨_, rfl, z, rfl, fun H14 s14 => ?_⟩
              have f1 := fin H14 s14
              refine ⟨f1.1, f1.2, o2, o3, o5, o6, ?_⟩
              rw [e, decide_eq_true c1, decide_eq_true c2]
              rfl
            · have c2 : ¬ z ≤ 9973 := fun y => c2 (decide_eq_true y)
              refine ⟨f0.1, f0.2, o2, o3, o5, o6, ?_⟩
              rw [e, decide_eq_true c1, decide_eq_false c2]
              rfl
          · have c1 : ¬ 3 ≤ z := fun y => c1 (decide_eq_true y)
            refine ⟨_, rfl, iteF ⟨f0.1, f0.2, o2, o3, o5, o6, ?_⟩⟩
            rw [e, decide_eq_false c1]
            rfl
        | non => exact ⟨_, _, _, rfl, .ty _, .base .non, kit_ty (by decide +kernel), _, rfl, iteF ⟨f0.1, f0.2, _, _, _, _, rfl⟩⟩
        | bl z => exact ⟨_, _, _, rfl, .ty _, .base (.bl z), kit_ty (by decide +kernel), _, rfl, iteT ⟨_, rfl, _, _, _, _, true, rfl, .ty _, .base (.bl z), kit_ty (by decide +kernel), _, rfl, _, rfl, iteF ⟨f0.1, f0.2, _, _, _, _, rfl⟩⟩⟩
        | str z => exact ⟨_, _, _, rfl, .ty _, .base (.str z), kit_ty (by decide +kernel), _, rfl, iteF ⟨f0.1, f0.2, _, _, _, _, rfl⟩⟩
        | lst h => exact ⟨_, _, _, rfl, .ty _, .base (.lst h), kit_ty (by decide +kernel), _, rfl, iteF ⟨f0.1, f0.2, _, _, _, _, rfl⟩⟩
        | tup h => exact ⟨_, _, _, rfl, .ty _, .base (.tup h), kit_ty (by decide +kernel), _, rfl, iteF ⟨f0.1, f0.2, _, _, _, _, rfl⟩⟩
      · rintro σ H14 ⟨sm2, hb, o2, o3, o5, o6, rfl⟩
        refine ⟨_, rfl, v, b, rfl, hb, _, rfl, rfl, rfl, v, b, rfl, hb, (by show 2 ≤ sizeLine; decide), ?_⟩
        intro l1 hp_l1
        generalize hx_l1 : upd _ l1 _ = H15
        obtain ⟨s15, e1⟩ := fresh_of hp_l1 hx_l1
        clear hx_l1
        refine ⟨.ref l1, .list [.bool (prV v), .bool (prV v)], rfl, .lst (.of e1) (.cons (.bl _) (.cons (.bl _) .nil)), two_bools _, ?_⟩
        refine ⟨_, rfl, _, rfl, (by show 2 ≤ sizeLine; decide), ?_⟩
        intro l2 hp_l2
        generalize hx_l2 : upd _ l2 _ = H16
        obtain ⟨s16, e2⟩ := fresh_of hp_l2 hx_l2
        clear hx_l2
        refine ⟨.ref l2, .list [.bool (prV v), .bool (prV v)], rfl, .lst (.of e2) (.cons (.bl _) (.cons (.bl _) .nil)), two_bools _, rfl, _, rfl, iteNS rfl ?_⟩
        exact ⟨sm2.trans (s15.trans s16), _, _, _, _, _, _, rfl⟩
    · rintro σ H13 ⟨sm, o2, o3, o5, o6, o8, o9, rfl⟩
      exact q H13 (st12.same sm)
def sp_law (K : PySem.W.Frag) : Sp := fun vs H Q _ => ∃ a ns, vs = [.ref a] ∧ SqL K H a (List.map V.int ns) ∧ ns.length ≤ 63 ∧ ∀ H', Q (.bl true) H'
theorem D_law (T : Tx K mg) : Ow.Df P w K mg base CX0 9 "law" s_law ["script"] (sp_law K) := by
  refine Ow.df_of T.f_law sc_law bd_law (fun vs H Q E h => ?_) (fun cdv A outer s H vs Q E f hg hr h => ?_)
  · obtain ⟨_, _, rfl, _⟩ := h
    rfl
  · obtain ⟨a, ns, rfl, hS, hl, q⟩ := h
    have hu := hr.units
    refine ⟨_, (pss_one (ps_ret (pe_callB (cr_all rfl) (by rfl) T.b_all (by decide +kernel) (pa_cons (pe_lc (own := [("k", 1)]) (g := gName 1) rfl sc_law.nd (pi_range1 (by rfl) T.b_range (pa_cons (pe_callB (call_max2 rfl) (by rfl) T.b_max (by decide +kernel) (pa_cons pe_int (pa_cons (pe_callB (call_min2 rfl) (by rfl) T.b_min (by decide +kernel) (pa_cons pe_int (pa_cons (pe_callB call_len_seq (by rfl) T.b_len (by decide +kernel) (pa_cons (pv 0) pa_nil)) pa_nil))) pa_nil))) pa_nil)) (blkOk_by (N := ["script", "k"]) (sc := defScope s_law) (by decide +kernel)) (fun _ _ _ _ _ => pg_name (i := 1) sc_law.nd rfl (Or.inl rfl)) (fun _ _ _ _ _ => pts_nil) (fun _ _ _ _ _ => (Ow.pe_d (D_law_right T) hr (by decide) hg pass0 (by rfl) (pa_cons (Ow.pe_d (D_law_pot T) hr (by decide) hg pass0 (by rfl) (pa_cons (pv 0) (pa_cons (pv 1) pa_nil))) pa_nil)))) pa_nil)))), ?_⟩
    refine ⟨_, rfl, a, _, rfl, .inl hS, _, _, rfl, _, _, rfl, ?_⟩
    rw [List.length_map]
    generalize hn : (if (if (ns.length : Int) < 3 then (ns.length : Int) else 3) > 1 then (if (ns.length : Int) < 3 then (ns.length : Int) else 3) else 1) = n
    have n0 : 0 ≤ n ∧ n ≤ 3 := by
      rw [← hn]
      constructor <;> split <;> split <;> omega
    refine ⟨n, rfl, by omega, by omega, fun D hD => ?_⟩
    refine comp_range (S := Same) (fun _ v => v = .bl true) (Fair.same hD) (by omega) (fun x => rfl) ?_ ?_
    · intro i H' hi s Q' k
      refine ⟨_, rfl, _, rfl, a, _, ns, rfl, s.seq hS, by omega, fun H2 p s2 hp pot => ?_⟩
      refine ⟨p, rfl, pot, fun H3 s3 => k _ _ (fun b o e => ?_) rfl⟩
      exact s3.kp _ _ (ne_of_none e hp) (s2 _ _ e)
    · intro xs H' hlen hx s e
      refine ⟨D, xs.map fun _ => true, rfl, .of ?_, ?_⟩
      · rw [e]
        congr 2
        rw [List.map_map]
        refine list_map_of rfl fun k v z h1 h2 => ?_
        rw [h1] at h2
        cases h2
        exact hx k v h1
      · have e2 : (xs.map fun _ => true).all id = true := by simp
        rw [e2]
        exact q H'
end
theorem law_asks (K : PySem.W.Frag) (H : Hp) (a : Addr) (ns : List Int) (hl : ns.length ≤ 63) (hS : SqL K H a (ns.map V.int)) : sp_law K [.ref a] H (fun v _ => v = .bl true) E0 := ⟨a, ns, rfl, hS, hl, fun _ => rfl⟩
theorem law_made {P : Program} {w : World} {K : PySem.W.Frag} {mg : Str → Option Value} {fa : Addr} (T : Tx K mg) (hmg : mg "law" = some (.ref fa)) :
    ∃ fd : FuncData, (∀ u : Value, bindArgs fd ⟨[u], []⟩ = pure [(("script" : Str), u)]) ∧ ∀ base : Heap, K.In base → base.Ns mainGlobals mg → Ow.Prm P w K mg base CX0 9 fa fd ["script"] (sp_law K) :=
  Ow.made_of T.f_law hmg bd_law fun _ => D_law T

end Eqr
section
open PySem PySem.W PyProof.Rows
set_option maxRecDepth 100000 in
set_option maxHeartbeats 0 in
open_top head for PySem.Challenge.rw_equalruns_k11_whole_numbers_reckoned
end
open PySem PySem.W PyProof.Rows
set_option maxRecDepth 100000 in
set_option maxHeartbeats 0 in
theorem PySem.Challenge.cw_equalruns_k11_whole_numbers_reckoned_holds : PySem.Challenge.rw_equalruns_k11_whole_numbers_reckoned.Holds :=
  head (by
    k_fill
    refine Ow.law_end (l := PySem.Challenge.rw_equalruns_k11_whole_numbers_reckoned) (n := 63) (k := 9) (x := "script") (sp := Eqr.sp_law) rfl (by decide) rfl ⟨rfl, by decide, by decide⟩ (fun w h Y => PySem.W.kIn_of Y) ?F Eqr.law_asks
    case F =>
      intro w mg fa h KX G hmg
      refine' Eqr.law_made ⟨?b_abs, ?b_all, ?b_any, ?b_bool, ?b_divmod, ?b_int, ?b_isinstance, ?b_len, ?b_max, ?b_min, ?b_range, ?b_repr, ?c_LEAST_PRIME, ?c_MOST_EXPONENT, ?c_MOST_PRIME, ?f_is_integer, ?f_is_within, ?f_least_divisor, ?f_is_prime_of, ?f_check_prime, ?f_is_number_of, ?f_check_number, ?f_powered, ?f_back_of, ?f_check_pair, ?f_is_prime, ?f_rest, ?f_plus, ?f_minus, ?f_times, ?f_over, ?f_back, ?f_power, ?f_law_pot, ?f_law_draw, ?f_law_pick, ?f_law_is_prime, ?f_law_prime, ?f_law_back, ?f_law_power, ?f_law_is_told, ?f_law_are_told, ?f_law_two_right, ?f_law_one_right, ?f_law_right, ?f_law⟩ hmg
      (case b_abs => exact Ow.none_of KX G (by k_is))
      (case b_all => exact Ow.none_of KX G (by k_is))
      (case b_any => exact Ow.none_of KX G (by k_is))
      (case b_bool => exact Ow.none_of KX G (by k_is))
      (case b_divmod => exact Ow.none_of KX G (by k_is))
      (case b_int => exact Ow.none_of KX G (by k_is))
      (case b_isinstance => exact Ow.none_of KX G (by k_is))
      (case b_len => exact Ow.none_of KX G (by k_is))
      (case b_max => exact Ow.none_of KX G (by k_is))
      (case b_min => exact Ow.none_of KX G (by k_is))
      (case b_range => exact Ow.none_of KX G (by k_is))
      (case b_repr => exact Ow.none_of KX G (by k_is))
      (case c_LEAST_PRIME => refine' Ow.int_of KX G ?a; (case a => k_is))
      (case c_MOST_EXPONENT => refine' Ow.int_of KX G ?a; (case a => k_is))
      (case c_MOST_PRIME => refine' Ow.int_of KX G ?a; (case a => k_is))
      (case f_is_integer => refine' Ow.stands_of KX G ?a ?l ?c ?k; (case a => k_is); (case l => k_is); (case c => k_is); (case k => k_is))
      (case f_is_within => refine' Ow.stands_of KX G ?a ?l ?c ?k; (case a => k_is); (case l => k_is); (case c => k_is); (case k => k_is))
      (case f_least_divisor => refine' Ow.stands_of KX G ?a ?l ?c ?k; (case a => k_is); (case l => k_is); (case c => k_is); (case k => k_is))
      (case f_is_prime_of => refine' Ow.stands_of KX G ?a ?l ?c ?k; (case a => k_is); (case l => k_is); (case c => k_is); (case k => k_is))
      (case f_check_prime => refine' Ow.stands_of KX G ?a ?l ?c ?k; (case a => k_is); (case l => k_is); (case c => k_is); (case k => k_is))
      (case f_is_number_of => refine' Ow.stands_of KX G ?a ?l ?c ?k; (case a => k_is); (case l => k_is); (case c => k_is); (case k => k_is))
      (case f_check_number => refine' Ow.stands_of KX G ?a ?l ?c ?k; (case a => k_is); (case l => k_is); (case c => k_is); (case k => k_is))
      (case f_powered => refine' Ow.stands_of KX G ?a ?l ?c ?k; (case a => k_is); (case l => k_is); (case c => k_is); (case k => k_is))
      (case f_back_of => refine' Ow.stands_of KX G ?a ?l ?c ?k; (case a => k_is); (case l => k_is); (case c => k_is); (case k => k_is))
      (case f_check_pair => refine' Ow.stands_of KX G ?a ?l ?c ?k; (case a => k_is); (case l => k_is); (case c => k_is); (case k => k_is))
      (case f_is_prime => refine' Ow.stands_of KX G ?a ?l ?c ?k; (case a => k_is); (case l => k_is); (case c => k_is); (case k => k_is))
      (case f_rest => refine' Ow.stands_of KX G ?a ?l ?c ?k; (case a => k_is); (case l => k_is); (case c => k_is); (case k => k_is))
      (case f_plus => refine' Ow.stands_of KX G ?a ?l ?c ?k; (case a => k_is); (case l => k_is); (case c => k_is); (case k => k_is))
      (case f_minus => refine' Ow.stands_of KX G ?a ?l ?c ?k; (case a => k_is); (case l => k_is); (case c => k_is); (case k => k_is))
      (case f_times => refine' Ow.stands_of KX G ?a ?l ?c ?k; (case a => k_is); (case l => k_is); (case c => k_is); (case k => k_is))
      (case f_over => refine' Ow.stands_of KX G ?a ?l ?c ?k; (case a => k_is); (case l => k_is); (case c => k_is); (case k => k_is))
      (case f_back => refine' Ow.stands_of KX G ?a ?l ?c ?k; (case a => k_is); (case l => k_is); (case c => k_is); (case k => k_is))
      (case f_power => refine' Ow.stands_of KX G ?a ?l ?c ?k; (case a => k_is); (case l => k_is); (case c => k_is); (case k => k_is))
      (case f_law_pot => refine' Ow.stands_of KX G ?a ?l ?c ?k; (case a => k_is); (case l => k_is); (case c => k_is); (case k => k_is))
      (case f_law_draw => refine' Ow.stands_of KX G ?a ?l ?c ?k; (case a => k_is); (case l => k_is); (case c => k_is); (case k => k_is))
      (case f_law_pick => refine' Ow.stands_of KX G ?a ?l ?c ?k; (case a => k_is); (case l => k_is); (case c => k_is); (case k => k_is))
      (case f_law_is_prime => refine' Ow.stands_of KX G ?a ?l ?c ?k; (case a => k_is); (case l => k_is); (case c => k_is); (case k => k_is))
      (case f_law_prime => refine' Ow.stands_of KX G ?a ?l ?c ?k; (case a => k_is); (case l => k_is); (case c => k_is); (case k => k_is))
      (case f_law_back => refine' Ow.stands_of KX G ?a ?l ?c ?k; (case a => k_is); (case l => k_is); (case c => k_is); (case k => k_is))
      (case f_law_power => refine' Ow.stands_of KX G ?a ?l ?c ?k; (case a => k_is); (case l => k_is); (case c => k_is); (case k => k_is))
      (case f_law_is_told => refine' Ow.stands_of KX G ?a ?l ?c ?k; (case a => k_is); (case l => k_is); (case c => k_is); (case k => k_is))
      (case f_law_are_told => refine' Ow.stands_of KX G ?a ?l ?c ?k; (case a => k_is); (case l => k_is); (case c => k_is); (case k => k_is))
      (case f_law_two_right => refine' Ow.stands_of KX G ?a ?l ?c ?k; (case a => k_is); (case l => k_is); (case c => k_is); (case k => k_is))
      (case f_law_one_right => refine' Ow.stands_of KX G ?a ?l ?c ?k; (case a => k_is); (case l => k_is); (case c => k_is); (case k => k_is))
      (case f_law_right => refine' Ow.stands_of KX G ?a ?l ?c ?k; (case a => k_is); (case l => k_is); (case c => k_is); (case k => k_is))
      (case f_law => refine' Ow.stands_of KX G ?a ?l ?c ?k; (case a => k_is); (case l => k_is); (case c => k_is); (case k => k_is)))
