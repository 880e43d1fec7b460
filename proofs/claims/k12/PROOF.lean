import PyProof.Rows.All
import Wide.All
import OpenK.AllK
import Wide.FinOn
import HandS.ForMost
import HandS.IsInst
import HandS.WideBits
import HandS.Style
import HandS.Wide
import PyProof.ReprRoads
import HandS.Evl
import PySem.Challenge.RW_equalruns_k12_whole_orders_roots_logs
set_option Elab.async false
set_option linter.all false
set_option maxRecDepth 100000
set_option maxHeartbeats 4000000
/-! Own layer: promises that know that nothing is being shown (for repr), calls with keywords, repr of data. -/
namespace Ow
open PySem PySem.Spec PyProof.Rows L2
section
variable {P : Program} {w : World} {K : PySem.W.Frag} {mg : Str → Option Value} {base : Heap} {CX : CXT}
/-- a def keeps a promise, wherever no repr is under way -/
structure Prm (P : Program) (w : World) (K : PySem.W.Frag) (mg : Str → Option Value) (base : Heap) (CX : CXT) (k : Nat) (f : Addr) (fd : FuncData) (ps : List Str) (sp : Sp) : Prop where
  len : ∀ vs H Q E, sp vs H Q E → vs.length = ps.length
  go : ∀ (A : Around) (outer : List Env) (s : Shared) (H : Hp) (args : Args) (us : List Value) (vs : List V) (Q : VK) (E : XK), A.guards = some [] → Room k A → Env0 P w K mg base A outer s H →
    BindsTo s fd args (ps.zip us) → Vals vs us → sp vs H Q E → codeAny (model P w) A (.call (.ref f) args) (CR CX outer P w H s Q E) s
theorem Prm.mono {j k : Nat} {f : Addr} {fd : FuncData} {ps : List Str} {sp : Sp} (F : Prm P w K mg base CX j f fd ps sp) (h : j ≤ k) : Prm P w K mg base CX k f fd ps sp :=
  ⟨F.len, fun A outer s H args us vs Q E hg hr => F.go A outer s H args us vs Q E hg (hr.mono h)⟩
/-- a def of the text by its body -/
theorem prm_of {x qual : Str} {st : Stmt} {f : Addr} {fd : FuncData} {N ps : List Str} {k : Nat} {sp : Sp} (F : Fun K x qual st f fd) (S : FnScope N ps (defScope st))
    (len : ∀ vs H Q E, sp vs H Q E → vs.length = ps.length)
    (hbody : ∀ (cdv : Value) (A : Around) (outer : List Env) (s : Shared) (H : Hp) (vs : List V) (Q : VK) (E : XK), A.guards = some [] →
      Room k (A.deeper (envOfC qual (defScope st) s.heap.objs.size f cdv)) → sp vs H Q E →
      ∃ t, PSs (cxOf CX P w K mg base N qual (defScope st) f cdv A outer s H E) (defBody st) t ∧ t { nx := fun _ H' => Q .non H', rt := Q } (start N vs) H) :
    Prm P w K mg base CX (k + 1) f fd ps sp := by
  obtain ⟨oc, od, kV, doc, pm, an, cdv, ct, osl, rfl, lk, hcd⟩ := F.ex
  constructor
  · exact len
  intro A outer s H args us vs Q E hgd hr e0 hb r hsp
  have e1 : ∀ b o, base.get? b = some o → s.heap.get? b = some o := fun b o e => (e0.bs b o e).1
  have inH : K.In s.heap := e0.mod.kin.keeps e1
  refine codeAny_call_function hr.depth (inH _ _ lk) rfl S.co S.gen rfl (PySem.W.codeRec_of inH hcd) (hb _ _ _ _ ?_)
  refine wpAny_newFunctionEnv_cells S.kind ?_ ?_
  · rintro ⟨n, v⟩ hy
    rcases S.par n (List.of_mem_zip hy).1 with q | q
    · exact .inl q
    · exact .inr ⟨q, PySem.W.cellsFrom_some _ _ _ (.inl q)⟩
  · intro env he s1 x
    subst he
    refine ⟨(e0.mod.nolimit.keeps e1).keeps x.toInCall.keep, codeAny_func ?_⟩
    obtain ⟨t, ht, hq⟩ := hbody cdv A outer s H vs Q E hgd (hr.deeper _) hsp
    have I := inv_start (CX := CX) (cd := cdv) (f := f) (E := E) S hr.hd e0 (len _ _ _ _ hsp) r x
    refine wpAny_mono (ht.run [] s1 (start N vs) H _ I hq) ?_ (fun e s' hs => hs)
    intro fl s' hs
    cases fl with
    | brk => obtain ⟨_, _, _, q⟩ := hs; exact q.elim
    | cont => obtain ⟨_, _, _, q⟩ := hs; exact q.elim
    | next => obtain ⟨σ', H', J, q⟩ := hs; exact ⟨.non, H', J.os, J.bare, J.base, J.hok, rfl, q⟩
    | ret u => obtain ⟨v, σ', H', J, rv, q⟩ := hs; exact ⟨v, H', J.os, J.bare, J.base, J.hok, rv, q⟩
/-- how plain arguments bind -/
def Bind (x : Str) (st : Stmt) (ps : List Str) : Prop := ∀ (kV doc pm : Value) (an : Option Addr) (cdv ct : Value) (us : List Value), us.length = ps.length →
  bindArgs (PySem.W.fnOf x x (defArgs st) (defBody st) (defScope st) .none kV doc pm an cdv ct) ⟨us, []⟩ = pure (ps.zip us)
/-- a def stands at the top under its name -/
def Stands (K : PySem.W.Frag) (mg : Str → Option Value) (x : Str) (st : Stmt) : Prop := ∃ (f : Addr) (fd : FuncData), mg x = some (.ref f) ∧ Fun K x x st f fd
/-- a def that stands at the top under its name, with its promise -/
structure Df (P : Program) (w : World) (K : PySem.W.Frag) (mg : Str → Option Value) (base : Heap) (CX : CXT) (k : Nat) (x : Str) (st : Stmt) (ps : List Str) (sp : Sp) : Prop where
  ex : ∃ (f : Addr) (fd : FuncData), mg x = some (.ref f) ∧ Fun K x x st f fd ∧ Prm P w K mg base CX k f fd ps sp
  bd : Bind x st ps
/-- a def that lets no exception out, by its body -/
theorem df_of {x : Str} {st : Stmt} {N ps : List Str} {k : Nat} {sp : Sp} (F : Stands K mg x st) (S : FnScope N ps (defScope st)) (bd : Bind x st ps)
    (len : ∀ vs H Q E, sp vs H Q E → vs.length = ps.length)
    (hbody : ∀ (cdv : Value) (A : Around) (outer : List Env) (s : Shared) (H : Hp) (vs : List V) (Q : VK) (E : XK) (f : Addr), A.guards = some [] →
      Room k (A.deeper (envOfC x (defScope st) s.heap.objs.size f cdv)) → sp vs H Q E →
      ∃ t, PSs (cxOf CX0 P w K mg base N x (defScope st) f cdv A outer s H E).nox (defBody st) t ∧ t { nx := fun _ H' => Q .non H', rt := Q } (start N vs) H) :
    Df P w K mg base CX0 (k + 1) x st ps sp := by
  obtain ⟨f, fd, hm, F⟩ := F
  refine ⟨⟨f, fd, hm, F, prm_of F S len ?_⟩, bd⟩
  intro cdv A outer s H vs Q E hg hr h
  obtain ⟨t, h1, h2⟩ := hbody cdv A outer s H vs Q E f hg hr h
  exact ⟨t, h1.nox, h2⟩
end
section
variable {X : Cx} {CX : CXT} {k j : Nat} {ps ks : List Str} {sp : Sp} {E : XK} {x : Str} {st : Stmt} {p pos : Pos} {e : Expr} {es : List Expr} {kws : List Keyword} {t tk : TA}
/-- what a call brings back -/
theorem Prm.called {pins : List (Addr × Obj)} {σ : L2.St} {H : Hp} {s : Shared} {Q : VK} {us : List Value} {vs : List V} {f : Addr} {fd : FuncData} {pairs : List (Str × Value)} {first : List Value}
    (F : Prm X.prog X.w X.K X.mg X.base CX k f fd ps sp) (hr : Room k X.A) (hg : X.A.guards = some []) (hx : Passes CX X E) (I : Inv X pins σ H s) (r : Vals vs us)
    (hb : bindArgs fd ⟨first, pairs⟩ = pure (ps.zip us)) (h : sp vs H Q E) : wpAny (model X.prog X.w) X.A (call (.ref f) first pairs) (EP X pins σ Q) X.xe s := by
  refine wpAny_call (codeAny_mono (F.go X.A X.stack s H ⟨first, pairs⟩ us vs Q E hg hr I.env0 (.of_eq hb) r h) ?_)
  intro res s' hq
  cases res with
  | error er => exact hx pins σ H s er s' I hq
  | ok fl =>
    cases fl with
    | ret u => exact I.after hq
    | next => exact hq.elim
    | brk => exact hq.elim
    | cont => exact hq.elim
/-- f(a, b, ..) -/
theorem pe_d (D : Df X.prog X.w X.K X.mg X.base CX k x st ps sp) (hr : Room j X.A) (hk : k ≤ j) (hg : X.A.guards = some []) (hx : Passes CX X E)
    (gl : Gl X x) (ha : PA X (e :: es) t) (hdb : (x == ("__debug__" : Str)) = false := by decide) (he : starEach (e :: es) X.env = (false, eval e X.env) :: starEach es X.env := by rfl)
    (hpl : (backTo pos (starEach es X.env)).any (·.1) = false := by rfl) : PE X (.Call (.Name x p) (e :: es) [] pos) (tCall sp [] E t) := by
  obtain ⟨f, fd, hm, F, G⟩ := D.ex
  refine ⟨fun pins s σ H Q I h => ?_⟩
  refine wpAny_Call_Name_kw (ld_glob I gl hm ?_ hdb)
  refine PySem.W.callWith_K (h₀ := X.base) I.ok.mod.kin F.kp ?_ he hpl
  refine thn (ha.run pos pins s σ H _ I h) ?_
  rintro us s1 ⟨vs, H1, I1, r, q⟩
  refine ⟨I1.kIn, ?_⟩
  rw [List.append_nil] at q
  refine G.called (pairs := []) (first := us) (hr.mono hk) hg hx I1 r ?_ q
  obtain ⟨oc, od, kV, doc, pm, an, cdv, ct, osl, rfl, _, _⟩ := F.ex
  exact D.bd kV doc pm an cdv ct us (by rw [← r.length]; exact G.len _ _ _ _ q)
/-- f() -/
theorem pe_d0 (D : Df X.prog X.w X.K X.mg X.base CX k x st ps sp) (hr : Room j X.A) (hk : k ≤ j) (hg : X.A.guards = some []) (hx : Passes CX X E)
    (gl : Gl X x) (hdb : (x == ("__debug__" : Str)) = false := by decide) : PE X (.Call (.Name x p) [] [] pos) (tCall sp [] E tNil) := by
  obtain ⟨f, fd, hm, F, G⟩ := D.ex
  refine ⟨fun pins s σ H Q I h => ?_⟩
  refine wpAny_Call_Name_kw (ld_glob I gl hm ?_ hdb)
  refine PySem.W.callWith_K0 I.kIn F.kp ?_
  refine G.called (pairs := []) (first := []) (vs := []) (us := []) (hr.mono hk) hg hx I .nil ?_ h
  obtain ⟨oc, od, kV, doc, pm, an, cdv, ct, osl, rfl, _, _⟩ := F.ex
  exact D.bd kV doc pm an cdv ct [] (G.len _ _ _ _ h)
/-- the values in the parameters' order: ix tells for each parameter its place among the written values -/
def putIn {α : Type} (d : α) (ix : List Nat) (us ws : List α) : List α := ix.map fun i => (us ++ ws).getD i d
theorem vals_at {vs : List V} {us : List Value} (r : Vals vs us) (i : Nat) : RelV (vs.getD i .non) (us.getD i .none) := by
  rw [List.getD_eq_getElem?_getD, List.getD_eq_getElem?_getD]
  cases e : vs[i]? with
  | none => rw [r.none_of e]; exact rfl
  | some v =>
    obtain ⟨u, h1, h2⟩ := r.get e
    rw [h1]
    exact h2
theorem vals_put {vs zs : List V} {us ws : List Value} (r : Vals vs us) (q : Vals zs ws) : ∀ ix : List Nat, Vals (putIn .non ix vs zs) (putIn .none ix us ws)
  | [] => .nil
  | i :: ix => .cons (vals_at (r.append q) i) (vals_put r q ix)
def tCallKw (n m : Nat) (sp : Sp) (ix : List Nat) (E : XK) (t tk : TA) : TE := fun σ H Q => t σ H fun vs H1 => tk σ H1 fun zs H2 => vs.length = n ∧ zs.length = m ∧ sp (putIn .non ix vs zs) H2 Q E
/-- how such a call binds -/
def Way (x : Str) (st : Stmt) (ps : List Str) (n : Nat) (ks : List Str) (ix : List Nat) : Prop :=
  ∀ (kV doc pm : Value) (an : Option Addr) (cdv ct : Value) (us ws : List Value), us.length = n → ws.length = ks.length →
    bindArgs (PySem.W.fnOf x x (defArgs st) (defBody st) (defScope st) .none kV doc pm an cdv ct) ⟨us, ks.zip ws⟩ = pure (ps.zip (putIn .none ix us ws))
/-- f(a, .., k = b, ..) -/
theorem pe_dk {n : Nat} {ix : List Nat} (D : Df X.prog X.w X.K X.mg X.base CX k x st ps sp) (hr : Room j X.A) (hk : k ≤ j) (hg : X.A.guards = some []) (hx : Passes CX X E) (wy : Way x st ps n ks ix)
    (gl : Gl X x) (ha : PA X (e :: es) t) (hkw : PK X kws tk) (hall : (backToKw pos (keywordEach kws X.env)).all (·.1.isSome) = true := by rfl) (hks : (backToKw pos (keywordEach kws X.env)).filterMap (·.1) = ks := by rfl)
    (hdb : (x == ("__debug__" : Str)) = false := by decide) (he : starEach (e :: es) X.env = (false, eval e X.env) :: starEach es X.env := by rfl)
    (hpl : ((backTo pos (starEach (e :: es) X.env)).any (·.1) || (backToKw pos (keywordEach kws X.env)).any (·.1.isNone)) = false := by rfl) :
    PE X (.Call (.Name x p) (e :: es) kws pos) (tCallKw n ks.length sp ix E t tk) := by
  obtain ⟨f, fd, hm, F, G⟩ := D.ex
  refine ⟨fun pins s σ H Q I h => ?_⟩
  refine wpAny_Call_Name_kw (ld_glob I gl hm ?_ hdb)
  refine PySem.W.callWith_KW (h₀ := X.base) I.ok.mod.kin F.kp hall ?_ hpl he
  refine thn (ha.run pos pins s σ H _ I h) ?_
  rintro us s1 ⟨vs, H1, I1, r, q⟩
  refine thn (hkw.run pos pins s1 σ H1 _ I1 q) ?_
  rintro ws s2 ⟨zs, H2, I2, rz, l1, l2, q2⟩
  refine ⟨I2.kIn, ?_⟩
  rw [hks]
  refine G.called (pairs := ks.zip ws) (first := us) (hr.mono hk) hg hx I2 (vals_put r rz ix) ?_ q2
  obtain ⟨oc, od, kV, doc, pm, an, cdv, ct, osl, rfl, _, _⟩ := F.ex
  exact wy kV doc pm an cdv ct us ws (r.length.symm.trans l1) (rz.length.symm.trans l2)
/-- f(k = b, ..) -/
theorem pe_dk0 {ix : List Nat} (D : Df X.prog X.w X.K X.mg X.base CX k x st ps sp) (hr : Room j X.A) (hk : k ≤ j) (hg : X.A.guards = some []) (hx : Passes CX X E) (wy : Way x st ps 0 ks ix)
    (gl : Gl X x) (hkw : PK X kws tk) (hall : (backToKw pos (keywordEach kws X.env)).all (·.1.isSome) = true := by rfl) (hks : (backToKw pos (keywordEach kws X.env)).filterMap (·.1) = ks := by rfl)
    (hdb : (x == ("__debug__" : Str)) = false := by decide)
    (hpl : ((backTo pos (starEach [] X.env)).any (·.1) || (backToKw pos (keywordEach kws X.env)).any (·.1.isNone)) = false := by rfl) :
    PE X (.Call (.Name x p) [] kws pos) (tCallKw 0 ks.length sp ix E tNil tk) := by
  obtain ⟨f, fd, hm, F, G⟩ := D.ex
  refine ⟨fun pins s σ H Q I h => ?_⟩
  refine wpAny_Call_Name_kw (ld_glob I gl hm ?_ hdb)
  refine PySem.W.callWith_KW0 (h₀ := X.base) I.ok.mod.kin F.kp hall ?_ hpl
  refine thn (hkw.run pos pins s σ H _ I h) ?_
  rintro ws s2 ⟨zs, H2, I2, rz, l1, l2, q2⟩
  refine ⟨I2.kIn, ?_⟩
  rw [hks]
  refine G.called (pairs := ks.zip ws) (first := []) (hr.mono hk) hg hx I2 (vals_put .nil rz ix) ?_ q2
  obtain ⟨oc, od, kV, doc, pm, an, cdv, ct, osl, rfl, _, _⟩ := F.ex
  exact wy kV doc pm an cdv ct [] ws rfl (rz.length.symm.trans l2)
end
section
variable {X : Cx}
/-- a module's whole number -/
theorem pe_gi {x : Str} {i : Int} {pos : Pos} (hg : Gl X x) (hm : ∃ t, X.mg x = some (.int i t)) (hd : (x == ("__debug__" : Str)) = false := by decide) : PE X (.Name x pos) (tC (.int i)) := by
  obtain ⟨t, hm⟩ := hm
  exact pe_glob hg hm ⟨t, rfl⟩ hd
theorem op_div : OpR X (binaryOp .FloorDiv) (rI CDiv fun i j => .int (i / j)) := op_fdiv
end
end Ow
namespace Ow
open PySem PySem.Spec PyProof.Rows L2
section
variable {X : Cx}
/-- int(n) of a whole number -/
theorem call_int : CallR X (.type "int") (fun xs H Q => ∃ i, xs = [.int i] ∧ Q (.int i) H) := by
  intro pins s σ H xs us Q I r h
  obtain ⟨i, e, q⟩ := h
  exact call_int1 pins s σ H xs us Q I r (.inl ⟨i, e, q⟩)
end
end Ow
/-! Own layer, the end: a law's def under a promise Prm. -/
namespace Ow
open PySem PySem.Spec PyProof.Rows L2
theorem ints_vals : ∀ {us : List Value} {ns : List Int}, IntsAre us ns → Vals (ns.map V.int) us
  | _, _, .nil => .nil
  | _, _, .cons n t h => .cons ⟨t, rfl⟩ (ints_vals h)
section
variable {P : Program} {w : World} {K : PySem.W.Frag} {mg mb : Str → Option Value} {k : Nat} {fa a : Addr} {fd : FuncData} {x : Str} {sp : Sp} {s₁ : Shared} {us : List Value} {ns : List Int}
/-- from an abstract heap H that knows at most the script -/
theorem law_core (KX : K.In s₁.heap) (hns : s₁.heap.Ns mainGlobals mg) (hb : s₁.heap.Ns builtinsNs mb) (hbb : ∀ x : Str, x ≠ "__name__" → mb x = bootBuiltins x) (hlim : s₁.heap.NoLimit) (hg : s₁.gens = #[])
    (ha : s₁.heap.get? a = some { cls := .type "list", data := .seq us.toArray }) (hr : Room k callerA)
    (F : ∀ base : Heap, K.In base → base.Ns mainGlobals mg → Prm P w K mg base CX0 k fa fd [x] sp) (hbind : ∀ u : Value, bindArgs fd ⟨[u], []⟩ = pure [(x, u)])
    (H : Hp) (hH : ∀ b u, H b = some u → b = a ∧ K.lookup a = none ∧ ∃ xs, u = .frz { cls := .type "list", data := .seq us.toArray } (.lst xs)) (hok : HOk P w H s₁.heap)
    (hsp : sp [.ref a] H (fun v _ => v = .bl true) E0) :
    codeAny (model P w) callerA (.call (.ref fa) ⟨[.ref a], []⟩) (fun r s' => r = .ok (.ret (.bool true)) ∧ OldK s₁.heap s'.heap ∧ s'.os = s₁.os ∧ AllBare s'.gens) s₁ := by
  have isN : ∀ {b : Addr} {o : Obj}, s₁.heap.get? b = some o → (∀ its n, o.data ≠ .seq its n) → H b = none := by
    intro b o e d
    cases q : H b with
    | none => rfl
    | some u =>
      obtain ⟨rfl, _, _⟩ := hH b u q
      rw [ha] at e
      cases e
      exact absurd rfl (d us.toArray _)
  have below : ∀ {b : Addr} {m : Str → Option Value}, s₁.heap.Ns b m → (hidT s₁.heap H).Ns b m := by
    rintro b m ⟨o, es, ep, e, d, r⟩
    exact ⟨o, es, ep, hidT_get e (isN e (by intro its n z; rw [d] at z; cases z)), d, r⟩
  have inB : K.In (hidT s₁.heap H) := by
    intro b o e
    refine hidT_get (KX b o e) ?_
    cases q : H b with
    | none => rfl
    | some u =>
      obtain ⟨rfl, z, _⟩ := hH b u q
      rw [z] at e
      cases e
  obtain ⟨mc, n1, n2⟩ := hlim
  have md : Mod K mg (hidT s₁.heap H) := ⟨inB, below hns, ⟨mb, below hb, hbb⟩, ⟨mc, below n1, n2⟩⟩
  have e0 : Env0 P w K mg (hidT s₁.heap H) callerA [] s₁ H :=
    ⟨rfl, md, fun b o e => of_hidT e, Nat.le_of_eq (hidT_size _ _), trivial, (by intro b hb; cases hb), hok, .of_eq hg⟩
  have run := (F _ inB (below hns)).go callerA [] s₁ H ⟨[.ref a], []⟩ [.ref a] [.ref a] _ _ rfl hr e0 (.of_eq (hbind (.ref a))) (.cons rfl .nil) hsp
  refine codeAny_mono run ?_
  intro r s' h
  cases r with
  | error e => exact h.elim
  | ok fl =>
    cases fl with
    | next => exact h.elim
    | brk => exact h.elim
    | cont => exact h.elim
    | ret u =>
      obtain ⟨v, H', os, bare, un, hok', rv, q⟩ := h
      obtain rfl : v = .bl true := q
      obtain rfl : u = Value.bool true := rv
      refine ⟨rfl, OldK.of_keep ?_, os, bare⟩
      intro b o e
      cases q : H b with
      | none => exact un.keep b o e q (by intro z; cases z) (by intro z; cases z)
      | some u =>
        obtain ⟨rfl, _, xs, rfl⟩ := hH b u q
        obtain ⟨f1, _⟩ := hok' b _ (un.frzs b _ _ q)
        rw [ha] at e
        cases e
        exact f1
theorem law_run (KX : K.In s₁.heap) (hns : s₁.heap.Ns mainGlobals mg) (hb : s₁.heap.Ns builtinsNs mb) (hbb : ∀ x : Str, x ≠ "__name__" → mb x = bootBuiltins x) (hlim : s₁.heap.NoLimit) (hg : s₁.gens = #[])
    (ha : s₁.heap.get? a = some { cls := .type "list", data := .seq us.toArray }) (hi : IntsAre us ns) (hl : ns.length ≤ sizeLine) (hr : Room k callerA)
    (F : ∀ base : Heap, K.In base → base.Ns mainGlobals mg → Prm P w K mg base CX0 k fa fd [x] sp) (hbind : ∀ u : Value, bindArgs fd ⟨[u], []⟩ = pure [(x, u)])
    (hsp : ∀ H : Hp, SqL K H a (ns.map V.int) → sp [.ref a] H (fun v _ => v = .bl true) E0) :
    codeAny (model P w) callerA (.call (.ref fa) ⟨[.ref a], []⟩) (fun r s' => r = .ok (.ret (.bool true)) ∧ OldK s₁.heap s'.heap ∧ s'.os = s₁.os ∧ AllBare s'.gens) s₁ := by
  have rv := ints_vals hi
  cases hk : K.lookup a with
  | some o =>
    have e := KX a o hk
    rw [ha] at e
    cases e
    refine law_core KX hns hb hbb hlim hg ha hr F hbind (fun _ => none) (fun b u z => nomatch z) (fun b u z => nomatch z) (hsp _ (.inr ⟨_, us.toArray, _, hk, rfl, rfl, rfl, ?_, ?_⟩))
    · rw [List.size_toArray, hi.length]
      exact hl
    · simpa using rv
  | none =>
    refine law_core KX hns hb hbb hlim hg ha hr F hbind (fun b => if b = a then some (.frz { cls := .type "list", data := .seq us.toArray } (.lst (ns.map V.int))) else none) ?_ ?_ (hsp _ (.inl (.inr ⟨_, if_pos rfl⟩)))
    · intro b u z
      by_cases q : b = a
      · rw [if_pos q] at z
        cases z
        exact ⟨q, hk, _, rfl⟩
      · rw [if_neg q] at z
        cases z
    · intro b u z
      have z : (if b = a then some (HO.frz { cls := .type "list", data := .seq us.toArray } (.lst (ns.map V.int))) else none) = some u := z
      by_cases q : b = a
      · rw [if_pos q] at z
        cases z
        subst q
        exact ⟨ha, (by rw [List.length_map]; exact hl), us, _, rv, ha⟩
      · rw [if_neg q] at z
        cases z
/-- the goal that the head leaves, by the promise of the law's def -/
theorem law_end {l : PySem.W.OpenLaw} {n : Nat} {q : Program} {loose : List Str} {XP : (Str → Option Value) → Heap → Prop} {YP : World → Heap → Prop} {d : DefRec} {K : Params → PySem.W.Frag} {sp : PySem.W.Frag → Sp}
    (hn : l.most = some n) (hn2 : n ≤ sizeLine) (hdf : d.params.defaults = []) (hr : Room k callerA) (hY : ∀ (w : World) (h : Heap), YP w h → (K w.params).In h)
    (F : ∀ (w : World) (mg : Str → Option Value) (fa : Addr) (h : Heap), (K w.params).In h → h.Ns mainGlobals mg → mg d.name = some (.ref fa) →
      ∃ fd : FuncData, (∀ u : Value, bindArgs fd ⟨[u], []⟩ = pure [(x, u)]) ∧ ∀ base : Heap, (K w.params).In base → base.Ns mainGlobals mg → Prm l.prog w (K w.params) mg base CX0 k fa fd [x] (sp (K w.params)))
    (hsp : ∀ (K : PySem.W.Frag) (H : Hp) (a : Addr) (ns : List Int), ns.length ≤ n → SqL K H a (ns.map V.int) → sp K [.ref a] H (fun v _ => v = .bl true) E0) :
    PySem.W.WalkO q loose XP YP l.row.toRowW d [] (fun f vs => PySem.call f vs) := by
  refine Att.attach_call hn hdf ?_
  intro w s₀ s₁ mg mb fa o pm cd doc a vs ns G Y ho hd hcd hmg hobj hints hlen hg
  obtain ⟨fd, hb, hF⟩ := F w mg fa _ (hY w _ Y) G.T.g hmg
  exact law_run (hY w _ Y) G.T.g G.T.b G.T.builtins G.T.nolimit hg hobj hints (Nat.le_trans hlen hn2) hr hF hb fun H hS => hsp _ H a ns hlen hS
end
end Ow
namespace Ow
open PySem PySem.Spec PyProof.Rows L2
/-- what the head tells of a def -/
theorem stands_of {K : PySem.W.Frag} {h : Heap} {mg : Str → Option Value} {x : Str} {st : Stmt} {f : Addr} {od an : Option Addr} {sl : Array (Option Value)} {oc kV doc pm cdv ct : Value} (X : K.In h) (G : h.Ns mainGlobals mg)
    (a : PySem.W.nsIn K mainGlobals x = some (some (.ref f))) (l : K.lookup f = some ⟨oc, od, .func (PySem.W.fnOf x x (defArgs st) (defBody st) (defScope st) .none kV doc pm an cdv ct), sl⟩)
    (c : PySem.W.codeIn K cdv x = true) (k : PySem.W.keepIn K (.ref f) = true) : Stands K mg x st := ⟨f, _, PySem.W.mg_of X G a, fun_mk l c k⟩
theorem none_of {K : PySem.W.Frag} {h : Heap} {mg : Str → Option Value} {x : Str} (X : K.In h) (G : h.Ns mainGlobals mg) (a : PySem.W.nsIn K mainGlobals x = some none) : mg x = none := PySem.W.mg_none_of X G a
theorem int_of {K : PySem.W.Frag} {h : Heap} {mg : Str → Option Value} {x : Str} {i : Int} {t : Tok} (X : K.In h) (G : h.Ns mainGlobals mg) (a : PySem.W.nsIn K mainGlobals x = some (some (.int i t))) : ∃ t, mg x = some (.int i t) := ⟨t, PySem.W.mg_of X G a⟩
end Ow
namespace Ow
open PySem PySem.Spec PyProof.Rows L2
section
variable {P : Program} {w : World} {K : PySem.W.Frag} {mg : Str → Option Value} {base : Heap} {CX : CXT} {k : Nat} {x : Str} {st : Stmt} {ps : List Str} {sp : Sp} {f : Addr} {fd : FuncData}
/-- the promise, of the very def that stands there -/
theorem Df.prm (D : Df P w K mg base CX k x st ps sp) (hm : mg x = some (.ref f)) (F : Fun K x x st f fd) : Prm P w K mg base CX k f fd ps sp := by
  obtain ⟨g, gd, gm, G, R⟩ := D.ex
  rw [hm] at gm
  cases gm
  obtain ⟨o1, d1, _, _, _, _, _, _, l1, _, e1, _⟩ := F.ex
  obtain ⟨o2, d2, _, _, _, _, _, _, l2, _, e2, _⟩ := G.ex
  rw [e1] at e2
  cases e2
  exact R
/-- the law's def: what law_end asks -/
theorem made_of {s : PySem.W.Frag → Sp} (S : Stands K mg x st) (hm : mg x = some (.ref f)) (bd : Bind x st ["script"]) (D : ∀ base : Heap, Df P w K mg base CX k x st ["script"] (s K)) :
    ∃ fd : FuncData, (∀ u : Value, bindArgs fd ⟨[u], []⟩ = pure [(("script" : Str), u)]) ∧ ∀ base : Heap, K.In base → base.Ns mainGlobals mg → Prm P w K mg base CX k f fd ["script"] (s K) := by
  obtain ⟨g, fd, gm, G⟩ := S
  rw [hm] at gm
  cases gm
  refine ⟨fd, fun u => ?_, fun base _ _ => (D base).prm hm G⟩
  obtain ⟨_, _, kV, doc, pm, an, cdv, ct, _, rfl, _, _⟩ := G.ex
  exact bd kV doc pm an cdv ct [u] rfl
end
end Ow
/-! Own layer: repr of data. -/
namespace Ow
open PySem PySem.Spec PyProof.Rows L2
section
variable {X : Cx}
/-- repr(x), x data that holds no dict -/
def rShow (K : PySem.W.Frag) : List V → Hp → VK → Prop := fun xs H Q => ∃ (v : V) (d : PyData), xs = [v] ∧ Dp K H v d ∧ (d.hasDict = false ∧ d.showable = true ∧ d.depth ≤ 60 ∧ d.shown.length ≤ sizeLine) ∧ Q (.str d.shown) H
theorem call_show (hu : X.A.units + 64 < cLine) (hg : X.A.guards = some []) : CallR X (.builtin "repr") (rShow X.K) := by
  intro pins s σ H xs us Q I r h
  obtain ⟨v, d, rfl, hd, ⟨h1, h2, h3, h4⟩, q⟩ := h
  obtain ⟨u, rfl, ru⟩ := vals1 r
  have fin : ∀ (t : Tok) (tk : Nat) (h' : Heap), (∀ b o, s.heap.get? b = some o → h'.get? b = some o) → EP X pins σ Q (.str d.shown t) { s with heap := h', toks := tk } :=
    fun t tk h' hk => ⟨.str d.shown, H, I.kept hk, ⟨t, rfl⟩, q⟩
  have big : ∀ {a : Addr}, u = .ref a → wpAny (model X.prog X.w) X.A (call (.builtin "repr") [u]) (EP X pins σ Q) X.xe s := by
    intro a e
    subst e
    obtain ⟨as, rd⟩ := Dp.reads I d v _ hd ru
    exact repr_of_reads' rd h2 (fun z => by rw [h1] at z; cases z) hg (by omega) (fun _ _ e => e) (fun h' t tk hk => fin t tk h' hk) h4
  cases hd with
  | non => cases ru; exact PySem.P.repr_of_none (fin _ _ _ fun _ _ e => e)
  | bl b => cases ru; exact PySem.P.repr_of_bool (fin _ _ _ fun _ _ e => e)
  | int i => obtain ⟨t, rfl⟩ := ru; exact PySem.P.repr_of_int (by simpa [PyData.showable] using h2) (fin _ _ _ fun _ _ e => e)
  | str x => obtain ⟨t, rfl⟩ := ru; exact PySem.P.repr_of_str (fin _ _ _ fun _ _ e => e) (by simpa [PyData.shown] using h4)
  | @lst a xs ds hs ha => exact big ru
  | @tup a xs ds hs ha => exact big ru
end
end Ow
namespace Eqr
open PySem PySem.Spec L2
/-! ### numbers of a prime: the plain mathematics -/
/-- no part from 2 to 99 below the number divides it: the law's own look -/
def primeB (n : Int) : Bool := decide (1 < n) && !((List.range 98).any fun i => decide ((i : Int) + 2 < n) && decide (n % ((i : Int) + 2) = 0))
def within : V → Int → Int → Bool
  | .int i, l, m => decide (l ≤ i) && decide (i ≤ m)
  | _, _, _ => false
def prV : V → Bool
  | .int i => (decide (3 ≤ i) && decide (i ≤ 9973)) && primeB i
  | _ => false
/-- a prime here -/
def Pr (p : Int) : Prop := prV (.int p) = true
theorem Pr.lo {p : Int} (h : Pr p) : 3 ≤ p := by
  unfold Pr prV at h
  simp only [Bool.and_eq_true, decide_eq_true_eq] at h
  exact h.1.1
theorem Pr.hi {p : Int} (h : Pr p) : p ≤ 9973 := by
  unfold Pr prV at h
  simp only [Bool.and_eq_true, decide_eq_true_eq] at h
  exact h.1.2
theorem Pr.pr {p : Int} (h : Pr p) : primeB p = true := by
  unfold Pr prV at h
  simp only [Bool.and_eq_true, decide_eq_true_eq] at h
  exact h.2
theorem primeB_no {n : Int} (h : primeB n = true) {d : Int} (h2 : 2 ≤ d) (h3 : d < 100) (h4 : d < n) : n % d ≠ 0 := by
  intro e
  unfold primeB at h
  simp only [Bool.and_eq_true, Bool.not_eq_true', decide_eq_true_eq] at h
  have q : (List.range 98).any (fun i => decide ((i : Int) + 2 < n) && decide (n % ((i : Int) + 2) = 0)) = true := by
    rw [List.any_eq_true]
    refine ⟨(d - 2).toNat, List.mem_range.mpr (by omega), ?_⟩
    have e1 : (((d - 2).toNat : Nat) : Int) + 2 = d := by omega
    rw [e1]
    simp only [Bool.and_eq_true, decide_eq_true_eq]
    exact ⟨h4, e⟩
  rw [q] at h
  exact absurd h.2 (by decide)
theorem primeB_of {n : Int} (h1 : 1 < n) (h : ∀ d : Int, 2 ≤ d → d < 100 → d < n → n % d ≠ 0) : primeB n = true := by
  unfold primeB
  simp only [Bool.and_eq_true, Bool.not_eq_true', decide_eq_true_eq]
  refine ⟨h1, ?_⟩
  cases q : (List.range 98).any (fun i => decide ((i : Int) + 2 < n) && decide (n % ((i : Int) + 2) = 0)) with
  | false => rfl
  | true =>
    rw [List.any_eq_true] at q
    obtain ⟨i, hi, e⟩ := q
    simp only [Bool.and_eq_true, decide_eq_true_eq] at e
    have := List.mem_range.mp hi
    exact absurd e.2 (h _ (by omega) (by omega) e.1)
/-- what the trial by rising divisors finds: no divisor up to the root, no divisor at all -/
theorem no_small {n : Int} (h1 : 1 < n) (h2 : n < 10201) (h : ∀ d : Int, 2 ≤ d → d * d ≤ n → n % d ≠ 0) : primeB n = true := by
  refine primeB_of h1 fun d d1 d2 d3 e => ?_
  by_cases c : d * d ≤ n
  · exact h d d1 c e
  · obtain ⟨k, hk⟩ : ∃ k, n = d * k := ⟨n / d, by have := Int.mul_ediv_add_emod n d; omega⟩
    have k1 : 2 ≤ k := by
      rcases Int.lt_or_le k 2 with z | z
      · rcases Int.lt_or_le k 1 with y | y
        · have : d * k ≤ d * 0 := Int.mul_le_mul_of_nonneg_left (by omega) (by omega)
          omega
        · have : k = 1 := by omega
          subst this
          omega
      · exact z
    have k2 : k < d := by
      rcases Int.lt_or_le k d with z | z
      · exact z
      · have : d * d ≤ d * k := Int.mul_le_mul_of_nonneg_left z (by omega)
        omega
    refine h k k1 ?_ ?_
    · have : k * k ≤ d * k := Int.mul_le_mul_of_nonneg_right (by omega) (by omega)
      omega
    · rw [hk]
      exact Int.mul_emod_left d k
theorem has_small {n d : Int} (h2 : 2 ≤ d) (h3 : d * d ≤ n) (h4 : n % d = 0) (hn : n < 10201) : primeB n = false := by
  have d1 : d < 101 := by
    rcases Int.lt_or_le d 101 with z | z
    · exact z
    · have : 101 * 101 ≤ d * d := Int.mul_le_mul z z (by omega) (by omega)
      omega
  have d2 : d < n := by
    have : 2 * d ≤ d * d := Int.mul_le_mul_of_nonneg_right h2 (by omega)
    omega
  cases q : primeB n with
  | false => rfl
  | true =>
    rcases Int.lt_or_le d 100 with z | z
    · exact absurd h4 (primeB_no q h2 z d2)
    · have e : d = 100 := by omega
      subst e
      exact absurd (show n % 2 = 0 by omega) (primeB_no q (by omega) (by omega) (by omega))
/-! ### rests: sums of multiples -/
/-- x and y leave the same rest by p -/
def Cg (p x y : Int) : Prop := ∃ k, x = y + p * k
theorem Cg.refl (p x : Int) : Cg p x x := ⟨0, by simp⟩
theorem Cg.symm {p x y : Int} (h : Cg p x y) : Cg p y x := by
  obtain ⟨k, hk⟩ := h
  exact ⟨-k, by rw [hk, Int.mul_neg]; omega⟩
theorem Cg.trans {p x y z : Int} (h : Cg p x y) (g : Cg p y z) : Cg p x z := by
  obtain ⟨k, hk⟩ := h
  obtain ⟨l, hl⟩ := g
  exact ⟨k + l, by rw [hk, hl, Int.mul_add]; omega⟩
theorem Cg.mul {p x y u v : Int} (h : Cg p x y) (g : Cg p u v) : Cg p (x * u) (y * v) := by
  obtain ⟨k, rfl⟩ := h
  obtain ⟨l, rfl⟩ := g
  exact ⟨k * v + y * l + p * k * l, by grind⟩
theorem Cg.add {p x y u v : Int} (h : Cg p x y) (g : Cg p u v) : Cg p (x + u) (y + v) := by
  obtain ⟨k, rfl⟩ := h
  obtain ⟨l, rfl⟩ := g
  exact ⟨k + l, by grind⟩
theorem Cg.sub {p x y u v : Int} (h : Cg p x y) (g : Cg p u v) : Cg p (x - u) (y - v) := by
  obtain ⟨k, rfl⟩ := h
  obtain ⟨l, rfl⟩ := g
  exact ⟨k - l, by grind⟩
theorem Cg.pow {p x y : Int} (h : Cg p x y) : ∀ n : Nat, Cg p (x ^ n) (y ^ n)
  | 0 => by
    rw [Int.pow_zero, Int.pow_zero]
    exact Cg.refl _ _
  | n + 1 => by
    rw [Int.pow_succ, Int.pow_succ]
    exact (Cg.pow h n).mul h
theorem Cg.rest (p x : Int) : Cg p (x % p) x := ⟨-(x / p), by have := Int.mul_ediv_add_emod x p; rw [Int.mul_neg]; omega⟩
theorem Cg.emod {p x y : Int} (h : Cg p x y) : x % p = y % p := by
  obtain ⟨k, rfl⟩ := h
  exact Int.add_mul_emod_self_left y p k
theorem Cg.of {p x y : Int} (h : x % p = y % p) : Cg p x y := (Cg.rest p x).symm.trans (h ▸ Cg.rest p y)
theorem Cg.uniq {p x y : Int} (h : Cg p x y) (x0 : 0 ≤ x) (x1 : x < p) (y0 : 0 ≤ y) (y1 : y < p) : x = y := by
  have e := h.emod
  rw [Int.emod_eq_of_lt x0 x1, Int.emod_eq_of_lt y0 y1] at e
  exact e
/-- a back is one -/
theorem back_uniq {p a r s : Int} (hr : Cg p (r * a) 1) (hs : Cg p (s * a) 1) (r0 : 0 ≤ r) (r1 : r < p) (s0 : 0 ≤ s) (s1 : s < p) : r = s := by
  refine Cg.uniq (p := p) ?_ r0 r1 s0 s1
  have h1 : Cg p (r * (s * a)) (r * 1) := (Cg.refl p r).mul hs
  have h2 : Cg p (s * (r * a)) (s * 1) := (Cg.refl p s).mul hr
  have e : r * (s * a) = s * (r * a) := by grind
  rw [e] at h1
  simpa using h1.symm.trans h2
/-! ### primes -/
theorem Pr.nodiv {p : Int} (h : Pr p) {d : Int} (h2 : 2 ≤ d) (h3 : d < p) : p % d ≠ 0 := by
  intro e
  have lo := h.lo
  have hi := h.hi
  rcases Int.lt_or_le d 100 with z | z
  · exact primeB_no h.pr h2 z h3 e
  · have e2 : p = d * (p / d) := by have := Int.mul_ediv_add_emod p d; omega
    have k1 : 2 ≤ p / d := by
      rcases Int.lt_or_le (p / d) 2 with y | y
      · rcases Int.lt_or_le (p / d) 1 with x | x
        · have : d * (p / d) ≤ d * 0 := Int.mul_le_mul_of_nonneg_left (by omega) (by omega)
          omega
        · have : p / d = 1 := by omega
          rw [this] at e2
          omega
      · exact y
    have k2 : p / d < 100 := by
      rcases Int.lt_or_le (p / d) 100 with y | y
      · exact y
      · have : 100 * 100 ≤ d * (p / d) := Int.mul_le_mul z y (by omega) (by omega)
        omega
    refine primeB_no h.pr k1 k2 ?_ ?_
    · have : 2 * (p / d) ≤ d * (p / d) := Int.mul_le_mul_of_nonneg_right h2 (by omega)
      omega
    · generalize p / d = k at e2
      rw [e2]
      exact Int.mul_emod_left d k
/-- nothing but 1 parts both -/
def Apart (x y : Int) : Prop := ∀ d : Int, 2 ≤ d → ¬ (x % d = 0 ∧ y % d = 0)
theorem Pr.apart {p a : Int} (h : Pr p) (a0 : 0 < a) (a1 : a < p) : Apart p a := by
  rintro d d2 ⟨e1, e2⟩
  refine h.nodiv d2 ?_ e1
  rcases Int.lt_or_le d p with z | z
  · exact z
  · rw [Int.emod_eq_of_lt (by omega) (by omega)] at e2
    omega
theorem Apart.step {x y : Int} (h : Apart x y) (k : Int) : Apart y (x - k * y) := by
  rintro d d2 ⟨e1, e2⟩
  refine h d d2 ⟨?_, e1⟩
  have h1 := Int.dvd_of_emod_eq_zero e1
  have h2 := Int.dvd_of_emod_eq_zero e2
  refine Int.emod_eq_zero_of_dvd ?_
  have : x = (x - k * y) + k * y := by omega
  rw [this]
  exact Int.dvd_add h2 (Int.dvd_mul_of_dvd_right h1)
/-- one turn of the looking for a back -/
structure Turn (p a hi lo u v : Int) : Prop where
  ap : Apart hi lo
  h0 : 0 ≤ lo
  h1 : lo < hi
  h2 : hi ≤ p
  c1 : Cg p (u * a) hi
  c2 : Cg p (v * a) lo
theorem Turn.first {p a : Int} (h : Pr p) (a0 : 0 < a) (a1 : a < p) : Turn p a p a 0 1 :=
  ⟨h.apart a0 a1, by omega, a1, Int.le_refl _, ⟨-1, by omega⟩, ⟨0, by omega⟩⟩
theorem Turn.next {p a hi lo u v : Int} (t : Turn p a hi lo u v) (hl : 0 < lo) : Turn p a lo (hi - hi / lo * lo) v (u - hi / lo * v) := by
  have e := Int.mul_ediv_add_emod hi lo
  have e1 : hi - hi / lo * lo = hi % lo := by rw [Int.mul_comm]; omega
  refine ⟨t.ap.step _, ?_, ?_, by have := t.h1; have := t.h2; omega, t.c2, ?_⟩
  · rw [e1]
    exact Int.emod_nonneg _ (by omega)
  · rw [e1]
    exact Int.emod_lt_of_pos _ hl
  · have q := t.c1.sub ((Cg.refl p (hi / lo)).mul t.c2)
    have e2 : (u - hi / lo * v) * a = u * a - hi / lo * (v * a) := by grind
    rw [e2]
    exact q
theorem Turn.low {p a hi lo u v : Int} (t : Turn p a hi lo u v) (hl : 1 < lo) : 0 < hi - hi / lo * lo := by
  have n := t.next (by omega)
  rcases Int.lt_or_le 0 (hi - hi / lo * lo) with z | z
  · exact z
  · have e : hi - hi / lo * lo = 0 := by have := n.h0; omega
    exact absurd ⟨Int.emod_self, by rw [e]; simp⟩ (n.ap lo (by omega))
theorem Turn.share {p a hi lo u v : Int} (t : Turn p a hi lo u v) (hl : 0 < lo) : 0 ≤ hi / lo ∧ hi / lo ≤ p := by
  have h1 := t.h1
  have h2 := t.h2
  refine ⟨Int.ediv_nonneg (by omega) (by omega), Int.le_trans (Int.ediv_le_self _ (by omega)) h2⟩
theorem Turn.late {p a hi u v : Int} (t : Turn p a hi 1 u v) : Cg p (v % p * a) 1 := ((Cg.rest p v).mul (Cg.refl p a)).trans t.c2
theorem Turn.here {p a hi u v : Int} (t : Turn p a hi 0 u v) : Cg p (u % p * a) 1 := by
  have e : hi = 1 := by
    rcases Int.lt_or_le hi 2 with z | z
    · have := t.h1
      omega
    · exact absurd ⟨Int.emod_self, by simp⟩ (t.ap hi z)
  have q := ((Cg.rest p u).mul (Cg.refl p a)).trans t.c1
  rw [e] at q
  exact q
/-- the product of both halves at each turn -/
theorem Turn.half {p a hi lo u v : Int} (t : Turn p a hi lo u v) (hl : 0 < lo) : lo * (hi - hi / lo * lo) * 2 ≤ hi * lo := by
  have h1 := t.h1
  have n := t.next hl
  have s1 : 1 ≤ hi / lo := by
    rw [Int.le_ediv_iff_mul_le hl]
    omega
  have s2 : 1 * lo ≤ hi / lo * lo := Int.mul_le_mul_of_nonneg_right s1 (by omega)
  have n1 := n.h1
  have s3 : (hi - hi / lo * lo) * 2 ≤ hi := by omega
  have s4 : lo * ((hi - hi / lo * lo) * 2) ≤ lo * hi := Int.mul_le_mul_of_nonneg_left s3 (by omega)
  rw [Int.mul_assoc, Int.mul_comm hi lo]
  exact s4
/-! ### powers -/
theorem pow_odd (x : Int) (n : Nat) (h : n % 2 = 1) : x ^ n = x * (x * x) ^ (n / 2) := by
  have e : n = n / 2 + n / 2 + 1 := by omega
  conv => lhs; rw [e, Int.pow_succ, Int.pow_add, ← Int.mul_pow]
  exact Int.mul_comm _ _
theorem pow_even (x : Int) (n : Nat) (h : n % 2 = 0) : x ^ n = (x * x) ^ (n / 2) := by
  have e : n = n / 2 + n / 2 := by omega
  conv => lhs; rw [e, Int.pow_add, ← Int.mul_pow]
/-- r is a's power to m, by backs below 0 -/
def PowIs (p a m r : Int) : Prop := (0 ≤ r ∧ r < p) ∧ (0 ≤ m → Cg p r (a ^ m.toNat)) ∧ (m < 0 → Cg p (r * a ^ (-m).toNat) 1)
theorem PowIs.uniq {p a m r s : Int} (h : PowIs p a m r) (g : PowIs p a m s) : r = s := by
  rcases Int.lt_or_le m 0 with z | z
  · exact back_uniq (h.2.2 z) (g.2.2 z) h.1.1 h.1.2 g.1.1 g.1.2
  · exact Cg.uniq ((h.2.1 z).trans (g.2.1 z).symm) h.1.1 h.1.2 g.1.1 g.1.2
/-! ### Fermat -/
theorem perm_of_in : ∀ (l m : List Nat), l.Nodup → (∀ x ∈ l, x ∈ m) → m.length ≤ l.length → l.Perm m
  | [], m, _, _, h => by
    have e : m = [] := List.eq_nil_of_length_eq_zero (by simpa using h)
    rw [e]
  | a :: l, m, nd, hs, h => by
    have am : a ∈ m := hs a List.mem_cons_self
    have p1 := List.perm_cons_erase am
    have nd' := List.nodup_cons.mp nd
    have p2 : l.Perm (m.erase a) := by
      refine perm_of_in l (m.erase a) nd'.2 (fun x hx => ?_) ?_
      · have ne : x ≠ a := fun e => nd'.1 (e ▸ hx)
        exact (List.mem_erase_of_ne ne).mpr (hs x (List.mem_cons_of_mem _ hx))
      · rw [List.length_erase_of_mem am]
        simp only [List.length_cons] at h
        omega
    exact (List.Perm.cons a p2).trans p1.symm
def prodN : List Nat → Nat
  | [] => 1
  | x :: l => x * prodN l
theorem prodN_perm {l m : List Nat} (h : l.Perm m) : prodN l = prodN m := by
  induction h with
  | nil => rfl
  | cons x _ ih => simp only [prodN, ih]
  | swap x y l => simp only [prodN]; rw [← Nat.mul_assoc, ← Nat.mul_assoc, Nat.mul_comm x y]
  | trans _ _ ih1 ih2 => exact ih1.trans ih2
theorem prodN_mod (a p : Nat) : ∀ l : List Nat, prodN (l.map fun i => a * i % p) % p = a ^ l.length * prodN l % p
  | [] => by simp [prodN]
  | x :: l => by
    show (a * x % p) * prodN (l.map fun i => a * i % p) % p = a ^ (l.length + 1) * (x * prodN l) % p
    rw [Nat.mul_mod, prodN_mod a p l, Nat.mod_mod, ← Nat.mul_mod]
    congr 1
    rw [Nat.pow_succ]
    grind
theorem coprime_of {p a : Nat} (h : ∀ d : Nat, 2 ≤ d → d < p → p % d ≠ 0) (a0 : 0 < a) (a1 : a < p) : Nat.Coprime p a := by
  have g1 := Nat.gcd_dvd_left p a
  have g2 := Nat.gcd_dvd_right p a
  have g3 : Nat.gcd p a ≤ a := Nat.le_of_dvd a0 g2
  have g4 : 0 < Nat.gcd p a := Nat.gcd_pos_of_pos_right _ a0
  show Nat.gcd p a = 1
  rcases Nat.lt_or_ge (Nat.gcd p a) 2 with z | z
  · omega
  · exact absurd (Nat.mod_eq_zero_of_dvd g1) (h _ z (by omega))
theorem coprime_prod {p : Nat} : ∀ l : List Nat, (∀ x ∈ l, Nat.Coprime p x) → Nat.Coprime p (prodN l)
  | [], _ => Nat.coprime_one_right p
  | x :: l, h => Nat.Coprime.mul_right (h x List.mem_cons_self) (coprime_prod l fun y hy => h y (List.mem_cons_of_mem _ hy))
theorem nodup_map {f : Nat → Nat} : ∀ {l : List Nat}, l.Nodup → (∀ x ∈ l, ∀ y ∈ l, f x = f y → x = y) → (l.map f).Nodup
  | [], _, _ => List.nodup_nil
  | a :: l, nd, h => by
    have nd' := List.nodup_cons.mp nd
    rw [List.map_cons, List.nodup_cons]
    refine ⟨fun hm => ?_, nodup_map nd'.2 fun x hx y hy => h x (List.mem_cons_of_mem _ hx) y (List.mem_cons_of_mem _ hy)⟩
    obtain ⟨x, hx, e⟩ := List.mem_map.mp hm
    have := h x (List.mem_cons_of_mem _ hx) a List.mem_cons_self e
    exact nd'.1 (this ▸ hx)
theorem cancel_mod {p x y c : Nat} (h : Nat.Coprime p c) (hxy : y ≤ x) (e : x * c % p = y * c % p) : x % p = y % p := by
  have d : p ∣ (x - y) * c := by
    rw [Nat.sub_mul]
    exact Nat.dvd_of_mod_eq_zero (Nat.sub_mod_eq_zero_of_mod_eq e)
  have d2 := h.dvd_of_dvd_mul_right d
  obtain ⟨k, hk⟩ := d2
  have : x = y + p * k := by omega
  rw [this, Nat.add_mul_mod_self_left]
/-- Fermat, in natural numbers -/
theorem fermatN {p a : Nat} (h : ∀ d : Nat, 2 ≤ d → d < p → p % d ≠ 0) (hp : 2 ≤ p) (a0 : 0 < a) (a1 : a < p) : a ^ (p - 1) % p = 1 := by
  have ca := coprime_of h a0 a1
  have inR : ∀ x ∈ List.range' 1 (p - 1), 0 < x ∧ x < p := fun x hx => by
    have := List.mem_range'_1.mp hx
    omega
  have cp : Nat.Coprime p (prodN (List.range' 1 (p - 1))) := coprime_prod _ fun x hx => coprime_of h (inR x hx).1 (inR x hx).2
  have inj : ∀ x ∈ List.range' 1 (p - 1), ∀ y ∈ List.range' 1 (p - 1), a * x % p = a * y % p → x = y := by
    intro x hx y hy e
    obtain ⟨x0, x1⟩ := inR x hx
    obtain ⟨y0, y1⟩ := inR y hy
    rw [Nat.mul_comm a x, Nat.mul_comm a y] at e
    have fin : ∀ u v : Nat, u < p → v < p → v ≤ u → u * a % p = v * a % p → u = v := fun u v hu hv huv e => by
      have q := cancel_mod ca huv e
      rw [Nat.mod_eq_of_lt hu, Nat.mod_eq_of_lt hv] at q
      exact q
    rcases Nat.le_total y x with z | z
    · exact fin x y x1 y1 z e
    · exact (fin y x y1 x1 z e.symm).symm
  have pm : ((List.range' 1 (p - 1)).map fun i => a * i % p).Perm (List.range' 1 (p - 1)) := by
    refine perm_of_in _ _ (nodup_map (List.nodup_range' 1 (by omega)) inj) (fun x hx => ?_) (by simp)
    obtain ⟨i, hi, rfl⟩ := List.mem_map.mp hx
    obtain ⟨i0, i1⟩ := inR i hi
    have lt : a * i % p < p := Nat.mod_lt _ (by omega)
    have ne : a * i % p ≠ 0 := fun e => by
      have d := Nat.dvd_of_mod_eq_zero e
      have d2 := ca.dvd_of_dvd_mul_left d
      have := Nat.le_of_dvd i0 d2
      omega
    exact List.mem_range'_1.mpr ⟨by omega, by omega⟩
  have e1 := prodN_mod a p (List.range' 1 (p - 1))
  rw [prodN_perm pm, List.length_range'] at e1
  have e2 : a ^ (p - 1) * prodN (List.range' 1 (p - 1)) % p = 1 * prodN (List.range' 1 (p - 1)) % p := by rw [Nat.one_mul]; exact e1.symm
  have q := cancel_mod cp (Nat.one_le_iff_ne_zero.mpr (Nat.ne_of_gt (Nat.pow_pos a0))) e2
  rw [q, Nat.mod_eq_of_lt (by omega)]
theorem Pr.nat {p : Int} (h : Pr p) : ∀ d : Nat, 2 ≤ d → d < p.toNat → p.toNat % d ≠ 0 := by
  intro d d2 d3 e
  refine h.nodiv (d := (d : Int)) (by omega) (by omega) ?_
  have lo := h.lo
  have e2 : p = ((p.toNat : Nat) : Int) := by omega
  rw [e2, ← Int.natCast_emod, e]
  rfl
theorem fermat {p a : Int} (h : Pr p) (a0 : 0 < a) (a1 : a < p) : Cg p (a ^ (p - 1).toNat) 1 := by
  have lo := h.lo
  have q := fermatN (p := p.toNat) (a := a.toNat) h.nat (by omega) (by omega) (by omega)
  have e1 : a = ((a.toNat : Nat) : Int) := by omega
  have e2 : p = ((p.toNat : Nat) : Int) := by omega
  have e3 : (p - 1).toNat = p.toNat - 1 := by omega
  refine Cg.of ?_
  rw [e3, Int.emod_eq_of_lt (show (0:Int) ≤ 1 by omega) (show (1 : Int) < p by omega)]
  conv => lhs; rw [e1, e2]
  rw [← Int.natCast_pow, ← Int.natCast_emod]
  have e4 : ((p.toNat : Nat) : Int).toNat = p.toNat := by omega
  rw [e4, q]
  rfl
theorem dvd_pow_of {p a : Nat} (h : Nat.Coprime p a) (hp : 2 ≤ p) : ∀ n : Nat, a ^ n % p ≠ 0
  | 0 => by rw [Nat.pow_zero, Nat.mod_eq_of_lt (by omega)]; omega
  | n + 1 => fun e => by
    rw [Nat.pow_succ] at e
    have d := h.dvd_of_dvd_mul_right (Nat.dvd_of_mod_eq_zero e)
    exact dvd_pow_of h hp n (Nat.mod_eq_zero_of_dvd d)
/-- a power of a number but 0 is none -/
theorem pow_ne {p a : Int} (h : Pr p) (a0 : 0 < a) (a1 : a < p) (n : Nat) : a ^ n % p ≠ 0 := by
  have lo := h.lo
  have q := dvd_pow_of (coprime_of (p := p.toNat) (a := a.toNat) h.nat (by omega) (by omega)) (by omega) n
  have e1 : a = ((a.toNat : Nat) : Int) := by omega
  have e2 : p = ((p.toNat : Nat) : Int) := by omega
  intro e
  rw [e1, e2, ← Int.natCast_pow, ← Int.natCast_emod] at e
  omega
/-- the least divisor above 1 -/
structure Least (n r : Int) : Prop where
  lo : 2 ≤ r
  hi : r ≤ n
  dv : n % r = 0
  no : ∀ c : Int, 2 ≤ c → c < r → n % c ≠ 0
theorem Least.self {n d : Int} (h1 : 1 < n) (d1 : 2 ≤ d) (hd : ∀ c : Int, 2 ≤ c → c < d → n % c ≠ 0) (hn : n < d * d) : Least n n := by
  refine ⟨by omega, Int.le_refl _, Int.emod_self, fun c c1 c2 e => ?_⟩
  rcases Int.lt_or_le c d with z | z
  · exact hd c c1 z e
  · have e2 : n = c * (n / c) := by have := Int.mul_ediv_add_emod n c; omega
    have k1 : 2 ≤ n / c := by
      rcases Int.lt_or_le (n / c) 2 with y | y
      · rcases Int.lt_or_le (n / c) 1 with x | x
        · have : c * (n / c) ≤ c * 0 := Int.mul_le_mul_of_nonneg_left (by omega) (by omega)
          omega
        · have : n / c = 1 := by omega
          rw [this] at e2
          omega
      · exact y
    have k2 : n / c < d := by
      rcases Int.lt_or_le (n / c) d with y | y
      · exact y
      · have : d * d ≤ c * (n / c) := Int.mul_le_mul z y (by omega) (by omega)
        omega
    refine hd (n / c) k1 k2 ?_
    generalize n / c = k at e2
    rw [e2]
    exact Int.mul_emod_left c k
theorem Least.prime {n r : Int} (h : Least n r) (h1 : 1 < n) (h2 : n < 10201) : decide (r = n) = primeB n := by
  by_cases c : r = n
  · rw [decide_eq_true c]
    subst c
    exact (primeB_of h1 fun d d1 _ d3 => h.no d d1 d3).symm
  · rw [decide_eq_false c]
    have e2 : n = r * (n / r) := by have := Int.mul_ediv_add_emod n r; have := h.dv; omega
    have lo := h.lo
    have hi := h.hi
    have k1 : 2 ≤ n / r := by
      rcases Int.lt_or_le (n / r) 2 with y | y
      · rcases Int.lt_or_le (n / r) 1 with x | x
        · have : r * (n / r) ≤ r * 0 := Int.mul_le_mul_of_nonneg_left (by omega) (by omega)
          omega
        · have : n / r = 1 := by omega
          rw [this] at e2
          omega
      · exact y
    have k2 : r ≤ n / r := by
      rcases Int.lt_or_le (n / r) r with y | y
      · refine absurd ?_ (h.no (n / r) k1 y)
        generalize n / r = k at e2
        rw [e2]
        exact Int.mul_emod_left r k
      · exact y
    have : r * r ≤ r * (n / r) := Int.mul_le_mul_of_nonneg_left k2 (by omega)
    exact (has_small lo (by omega) h.dv h2).symm

end Eqr
namespace Eqr
open PySem PySem.Spec L2
/-! ### orders -/
/-- the order of a number -/
structure Ord (p a : Int) (d : Nat) : Prop where
  pos : 0 < d
  one : Cg p (a ^ d) 1
  no : ∀ e : Nat, 0 < e → e < d → ¬ Cg p (a ^ e) 1
theorem Cg.cong {p x y : Int} (h : Cg p x y) : Cg p x 1 ↔ Cg p y 1 := ⟨fun z => h.symm.trans z, fun z => h.trans z⟩
theorem pow_mod_one {p a : Int} {d n : Nat} (h : Cg p (a ^ d) 1) : Cg p (a ^ n) (a ^ (n % d)) := by
  have e : a ^ n = (a ^ d) ^ (n / d) * a ^ (n % d) := by
    rw [← Int.pow_mul, ← Int.pow_add, Nat.div_add_mod]
  rw [e]
  have q := (h.pow (n / d)).mul (Cg.refl p (a ^ (n % d)))
  rw [Int.one_pow, Int.one_mul] at q
  exact q
theorem Ord.dvd {p a : Int} {d n : Nat} (h : Ord p a d) : Cg p (a ^ n) 1 ↔ d ∣ n := by
  constructor
  · intro z
    have q := (pow_mod_one h.one).symm.trans z
    rcases Nat.eq_zero_or_pos (n % d) with e | e
    · exact Nat.dvd_of_mod_eq_zero e
    · exact absurd q (h.no _ e (Nat.mod_lt _ h.pos))
  · rintro ⟨k, rfl⟩
    rw [Int.pow_mul]
    have q := h.one.pow k
    rw [Int.one_pow] at q
    exact q
theorem Ord.uniq {p a : Int} {d e : Nat} (h : Ord p a d) (g : Ord p a e) : d = e := Nat.dvd_antisymm (h.dvd.mp g.one) (g.dvd.mp h.one)
theorem Ord.cong {p a b : Int} {d : Nat} (h : Ord p a d) (c : Cg p a b) : Ord p b d :=
  ⟨h.pos, (c.pow d).symm.trans h.one, fun e e0 e1 z => h.no e e0 e1 ((c.pow e).trans z)⟩
theorem pow_gcd {p a : Int} : ∀ (m n : Nat), Cg p (a ^ m) 1 → Cg p (a ^ n) 1 → Cg p (a ^ Nat.gcd m n) 1 := by
  intro m
  induction m using Nat.strongRecOn with
  | _ m ih =>
    intro n h1 h2
    rcases Nat.eq_zero_or_pos m with e | e
    · subst e
      rw [Nat.gcd_zero_left]
      exact h2
    · rw [Nat.gcd_rec]
      exact ih (n % m) (Nat.mod_lt _ e) m ((pow_mod_one h1).symm.trans h2) h1
/-- a number whose power to f is 1 and to no f / q has the order f -/
theorem Ord.of {p a : Int} {f : Nat} (h0 : 0 < f) (h1 : Cg p (a ^ f) 1) (h : ∀ d : Nat, 2 ≤ d → d ∣ f → ∃ q : Nat, 2 ≤ q ∧ q ∣ d ∧ ¬ Cg p (a ^ (f / q)) 1) : Ord p a f := by
  refine ⟨h0, h1, fun e e0 e1 z => ?_⟩
  have g := pow_gcd e f z h1
  have d1 := Nat.gcd_dvd_right e f
  have d2 : Nat.gcd e f ≤ e := Nat.le_of_dvd e0 (Nat.gcd_dvd_left e f)
  have d3 : 0 < Nat.gcd e f := Nat.gcd_pos_of_pos_left _ e0
  generalize Nat.gcd e f = c at g d1 d2 d3
  obtain ⟨k, hk⟩ := d1
  have k2 : 2 ≤ k := by
    rcases Nat.lt_or_ge k 2 with y | y
    · have : k = 0 ∨ k = 1 := by omega
      rcases this with rfl | rfl <;> omega
    · exact y
  obtain ⟨q, q2, ⟨l, hl⟩, nq⟩ := h k k2 ⟨c, by rw [hk, Nat.mul_comm]⟩
  refine nq ?_
  have e2 : f / q = c * l := by
    rw [hk, hl, Nat.mul_left_comm, Nat.mul_div_cancel_left _ (by omega)]
  rw [e2, Int.pow_mul]
  have r := g.pow l
  rw [Int.one_pow] at r
  exact r
theorem Ord.pow {p a : Int} {d m : Nat} (h : Ord p a d) : Ord p (a ^ m) (d / Nat.gcd d m) := by
  have g0 : 0 < Nat.gcd d m := Nat.gcd_pos_of_pos_left _ h.pos
  have g1 := Nat.gcd_dvd_left d m
  have g2 := Nat.gcd_dvd_right d m
  have key : ∀ e : Nat, Cg p ((a ^ m) ^ e) 1 ↔ d / Nat.gcd d m ∣ e := by
    intro e
    rw [← Int.pow_mul, h.dvd]
    obtain ⟨x, hx⟩ := g1
    obtain ⟨y, hy⟩ := g2
    have cop : Nat.Coprime (d / Nat.gcd d m) (m / Nat.gcd d m) := Nat.coprime_div_gcd_div_gcd g0
    have ex : d / Nat.gcd d m = x := by
      conv => lhs; lhs; rw [hx]
      exact Nat.mul_div_cancel_left _ g0
    have ey : m / Nat.gcd d m = y := by
      conv => lhs; lhs; rw [hy]
      exact Nat.mul_div_cancel_left _ g0
    rw [ex, ey] at cop
    rw [ex]
    constructor
    · intro z
      rw [hx] at z
      conv at z => rhs; lhs; rw [hy]
      rw [Nat.mul_assoc] at z
      have z2 := Nat.dvd_of_mul_dvd_mul_left g0 z
      exact cop.dvd_of_dvd_mul_left z2
    · rintro ⟨k, rfl⟩
      rw [hx]
      conv => rhs; lhs; rw [hy]
      exact ⟨y * k, by grind⟩
  have p0 : 0 < d / Nat.gcd d m := Nat.div_pos (Nat.le_of_dvd h.pos g1) g0
  refine ⟨p0, (key _).mpr (Nat.dvd_refl _), fun e e0 e1 z => ?_⟩
  have := Nat.le_of_dvd e0 ((key e).mp z)
  omega
theorem Ord.back {p a r : Int} {d : Nat} (h : Ord p a d) (c : Cg p (r * a) 1) : Ord p r d := by
  have key : ∀ e : Nat, Cg p (r ^ e) 1 ↔ Cg p (a ^ e) 1 := by
    intro e
    have q := c.pow e
    rw [Int.mul_pow, Int.one_pow] at q
    constructor
    · intro z
      have s := z.mul (Cg.refl p (a ^ e))
      rw [Int.one_mul] at s
      exact s.symm.trans q
    · intro z
      have s := (Cg.refl p (r ^ e)).mul z
      rw [Int.mul_one] at s
      exact s.symm.trans q
  exact ⟨h.pos, (key _).mpr h.one, fun e e0 e1 z => h.no e e0 e1 ((key e).mp z)⟩
/-- there is an order, and it divides the prime less 1 -/
theorem ord_ex {p a : Int} (h : Pr p) (a0 : 0 < a) (a1 : a < p) : ∃ d : Nat, Ord p a d := by
  have lo := h.lo
  have key : ∀ n : Nat, (∃ d, d ≤ n ∧ Ord p a d) ∨ ∀ e : Nat, 0 < e → e ≤ n → ¬ Cg p (a ^ e) 1 := by
    intro n
    induction n with
    | zero => exact .inr fun e e0 e1 => by omega
    | succ n ih =>
      rcases ih with ⟨d, d1, d2⟩ | z
      · exact .inl ⟨d, by omega, d2⟩
      · by_cases c : Cg p (a ^ (n + 1)) 1
        · exact .inl ⟨n + 1, Nat.le_refl _, by omega, c, fun e e0 e1 => z e e0 (by omega)⟩
        · refine .inr fun e e0 e1 => ?_
          rcases Nat.lt_or_ge e (n + 1) with y | y
          · exact z e e0 (by omega)
          · have : e = n + 1 := by omega
            rw [this]
            exact c
  rcases key (p - 1).toNat with ⟨d, _, d2⟩ | z
  · exact ⟨d, d2⟩
  · exact absurd (fermat h a0 a1) (z _ (by omega) (Nat.le_refl _))
theorem Ord.div {p a : Int} {d : Nat} (h : Ord p a d) (hp : Pr p) (a0 : 0 < a) (a1 : a < p) : d ∣ (p - 1).toNat := h.dvd.mp (fermat hp a0 a1)
theorem Ord.le {p a : Int} {d : Nat} (h : Ord p a d) (hp : Pr p) (a0 : 0 < a) (a1 : a < p) : d ≤ (p - 1).toNat := by
  have := hp.lo
  exact Nat.le_of_dvd (by omega) (h.div hp a0 a1)
/-- different exponents below the order, different powers -/
theorem Ord.inj {p a : Int} {d : Nat} (h : Ord p a d) (hp : Pr p) (a0 : 0 < a) (a1 : a < p) {i j : Nat} (hi : i < d) (hj : j < d) (e : Cg p (a ^ i) (a ^ j)) : i = j := by
  have key : ∀ i j : Nat, i ≤ j → j < d → Cg p (a ^ i) (a ^ j) → i = j := by
    intro i j hij hj e
    have q : Cg p (a ^ (d - j) * a ^ i) (a ^ (d - j) * a ^ j) := (Cg.refl p _).mul e
    rw [← Int.pow_add, ← Int.pow_add, show d - j + j = d by omega] at q
    have r := h.dvd.mp (q.trans h.one)
    rcases Nat.lt_or_ge i j with y | y
    · have := Nat.le_of_dvd (by omega) r
      omega
    · omega
  rcases Nat.le_total i j with z | z
  · exact key i j z hj e
  · exact (key j i z hi e.symm).symm
/-- a root: its order is the prime less 1 -/
def Root (p g : Int) : Prop := 0 < g ∧ g < p ∧ Ord p g (p - 1).toNat
/-- each number but 0 is a power of a root -/
theorem Root.all {p g : Int} (h : Root p g) (hp : Pr p) {a : Int} (a0 : 0 < a) (a1 : a < p) : ∃ e : Nat, e < (p - 1).toNat ∧ g ^ e % p = a := by
  obtain ⟨g0, g1, o⟩ := h
  have lo := hp.lo
  have im : ∀ e : Nat, 0 < g ^ e % p ∧ g ^ e % p < p := fun e => by
    have n0 := Int.emod_nonneg (g ^ e) (show p ≠ 0 by omega)
    have n1 := Int.emod_lt_of_pos (g ^ e) (show 0 < p by omega)
    have n2 := pow_ne hp g0 g1 e
    omega
  have pm : ((List.range (p - 1).toNat).map fun e => (g ^ e % p).toNat).Perm (List.range' 1 (p - 1).toNat) := by
    refine perm_of_in _ _ (nodup_map List.nodup_range fun x hx y hy e => ?_) (fun x hx => ?_) (by simp)
    · have hx := List.mem_range.mp hx
      have hy := List.mem_range.mp hy
      refine o.inj hp g0 g1 hx hy (Cg.of ?_)
      have := im x
      have := im y
      omega
    · obtain ⟨e, _, rfl⟩ := List.mem_map.mp hx
      have := im e
      exact List.mem_range'_1.mpr ⟨by omega, by omega⟩
  have m : a.toNat ∈ List.range' 1 (p - 1).toNat := List.mem_range'_1.mpr ⟨by omega, by omega⟩
  rw [← pm.mem_iff] at m
  obtain ⟨e, he, e2⟩ := List.mem_map.mp m
  refine ⟨e, List.mem_range.mp he, ?_⟩
  have := im e
  omega
/-- what divides a count, by its parts: each divisor above 1 has one of them -/
def Parts (n : Int) (qs : List Int) : Prop := (∀ q ∈ qs, 2 ≤ q ∧ q ≤ n ∧ n % q = 0) ∧ ∀ d : Int, 2 ≤ d → n % d = 0 → ∃ q ∈ qs, d % q = 0
theorem nat_dvd {x y : Int} (h : x % y = 0) (hx : 0 ≤ x) (hy : 0 ≤ y) : y.toNat ∣ x.toNat := by
  have e1 : ((x.toNat : Nat) : Int) = x := by omega
  have e2 : ((y.toNat : Nat) : Int) = y := by omega
  refine Nat.dvd_of_mod_eq_zero ?_
  have : (((x.toNat % y.toNat : Nat)) : Int) = 0 := by rw [Int.natCast_emod, e1, e2]; exact h
  omega
theorem int_dvd {x y : Nat} (h : y ∣ x) : (x : Int) % (y : Int) = 0 := by
  obtain ⟨k, rfl⟩ := h
  rw [Int.natCast_mul]
  exact Int.mul_emod_right _ _
theorem nat_div {x y : Int} (hx : 0 ≤ x) (hy : 0 ≤ y) : (x / y).toNat = x.toNat / y.toNat := by
  have e1 : ((x.toNat : Nat) : Int) = x := by omega
  have e2 : ((y.toNat : Nat) : Int) = y := by omega
  have : ((x.toNat / y.toNat : Nat) : Int) = x / y := by rw [Int.natCast_ediv, e1, e2]
  have := Int.ediv_nonneg hx hy
  omega
/-- the order by parts: the power to f is 1, to f over any of n's parts that divides f it is not -/
theorem Ord.by_parts {p a n f : Int} {qs : List Int} (hq : Parts n qs) (f0 : 0 < f) (fn : n % f = 0) (h1 : Cg p (a ^ f.toNat) 1) (h : ∀ q ∈ qs, f % q = 0 → ¬ Cg p (a ^ (f / q).toNat) 1) : Ord p a f.toNat := by
  refine Ord.of (by omega) h1 fun d d2 dv => ?_
  have e1 : f % (d : Int) = 0 := by
    have := int_dvd dv
    have e : ((f.toNat : Nat) : Int) = f := by omega
    rw [e] at this
    exact this
  have e2 : n % (d : Int) = 0 := Int.emod_eq_zero_of_dvd (Int.dvd_trans (Int.dvd_of_emod_eq_zero e1) (Int.dvd_of_emod_eq_zero fn))
  obtain ⟨q, hm, e3⟩ := hq.2 d (by omega) e2
  obtain ⟨q2, _, _⟩ := hq.1 q hm
  refine ⟨q.toNat, by omega, ?_, ?_⟩
  · have := nat_dvd e3 (by omega) (by omega)
    simpa using this
  · have e4 : f % q = 0 := Int.emod_eq_zero_of_dvd (Int.dvd_trans (Int.dvd_of_emod_eq_zero e3) (Int.dvd_of_emod_eq_zero e1))
    rw [← nat_div (by omega) (by omega)]
    exact h q hm e4

end Eqr
namespace Eqr
open PySem PySem.Spec L2
def top (i : Nat) : Stmt := PySem.Challenge.pw_equalruns_k12_whole_orders_roots_logs.main.body.getD i (.Pass ⟨0, 0, 0, 0⟩)
abbrev s_is_integer : Stmt := top 11
theorem sc_is_integer : FnScope ["value"] ["value"] (defScope s_is_integer) := ⟨rfl, rfl, rfl, by decide +kernel, rfl, by decide +kernel, by decide +kernel⟩
theorem bd_is_integer : Ow.Bind "is_integer" s_is_integer ["value"] := fun _ _ _ _ _ _ us hl => match us, hl with | [_], _ => rfl
abbrev s_is_within : Stmt := top 12
theorem sc_is_within : FnScope ["value", "least", "most"] ["value", "least", "most"] (defScope s_is_within) := ⟨rfl, rfl, rfl, by decide +kernel, rfl, by decide +kernel, by decide +kernel⟩
theorem bd_is_within : Ow.Bind "is_within" s_is_within ["value", "least", "most"] := fun _ _ _ _ _ _ us hl => match us, hl with | [_, _, _], _ => rfl
abbrev s_least_divisor : Stmt := top 13
theorem sc_least_divisor : FnScope ["count", "found"] ["count"] (defScope s_least_divisor) := ⟨rfl, rfl, rfl, by decide +kernel, rfl, by decide +kernel, by decide +kernel⟩
theorem bd_least_divisor : Ow.Bind "least_divisor" s_least_divisor ["count"] := fun _ _ _ _ _ _ us hl => match us, hl with | [_], _ => rfl
abbrev s_is_prime_of : Stmt := top 14
theorem sc_is_prime_of : FnScope ["value"] ["value"] (defScope s_is_prime_of) := ⟨rfl, rfl, rfl, by decide +kernel, rfl, by decide +kernel, by decide +kernel⟩
theorem bd_is_prime_of : Ow.Bind "is_prime_of" s_is_prime_of ["value"] := fun _ _ _ _ _ _ us hl => match us, hl with | [_], _ => rfl
abbrev s_check_prime : Stmt := top 15
theorem sc_check_prime : FnScope ["value"] ["value"] (defScope s_check_prime) := ⟨rfl, rfl, rfl, by decide +kernel, rfl, by decide +kernel, by decide +kernel⟩
theorem bd_check_prime : Ow.Bind "check_prime" s_check_prime ["value"] := fun _ _ _ _ _ _ us hl => match us, hl with | [_], _ => rfl
abbrev s_is_number_of : Stmt := top 16
theorem sc_is_number_of : FnScope ["prime", "value"] ["prime", "value"] (defScope s_is_number_of) := ⟨rfl, rfl, rfl, by decide +kernel, rfl, by decide +kernel, by decide +kernel⟩
theorem bd_is_number_of : Ow.Bind "is_number_of" s_is_number_of ["prime", "value"] := fun _ _ _ _ _ _ us hl => match us, hl with | [_, _], _ => rfl
abbrev s_check_number : Stmt := top 17
theorem sc_check_number : FnScope ["prime", "value"] ["prime", "value"] (defScope s_check_number) := ⟨rfl, rfl, rfl, by decide +kernel, rfl, by decide +kernel, by decide +kernel⟩
theorem bd_check_number : Ow.Bind "check_number" s_check_number ["prime", "value"] := fun _ _ _ _ _ _ us hl => match us, hl with | [_, _], _ => rfl
abbrev s_powered : Stmt := top 20
theorem sc_powered : FnScope ["prime", "one", "many", "found", "square", "left", "odd"] ["prime", "one", "many"] (defScope s_powered) := ⟨rfl, rfl, rfl, by decide +kernel, rfl, by decide +kernel, by decide +kernel⟩
theorem bd_powered : Ow.Bind "powered" s_powered ["prime", "one", "many"] := fun _ _ _ _ _ _ us hl => match us, hl with | [_, _, _], _ => rfl
abbrev s_back_of : Stmt := top 21
theorem sc_back_of : FnScope ["prime", "one", "high", "low", "many", "late", "share"] ["prime", "one"] (defScope s_back_of) := ⟨rfl, rfl, rfl, by decide +kernel, rfl, by decide +kernel, by decide +kernel⟩
theorem bd_back_of : Ow.Bind "back_of" s_back_of ["prime", "one"] := fun _ _ _ _ _ _ us hl => match us, hl with | [_, _], _ => rfl
abbrev s_check_pair : Stmt := top 22
theorem sc_check_pair : FnScope ["prime", "one", "other"] ["prime", "one", "other"] (defScope s_check_pair) := ⟨rfl, rfl, rfl, by decide +kernel, rfl, by decide +kernel, by decide +kernel⟩
theorem bd_check_pair : Ow.Bind "check_pair" s_check_pair ["prime", "one", "other"] := fun _ _ _ _ _ _ us hl => match us, hl with | [_, _, _], _ => rfl
abbrev s_times : Stmt := top 23
theorem sc_times : FnScope ["prime", "one", "other"] ["prime", "one", "other"] (defScope s_times) := ⟨rfl, rfl, rfl, by decide +kernel, rfl, by decide +kernel, by decide +kernel⟩
theorem bd_times : Ow.Bind "times" s_times ["prime", "one", "other"] := fun _ _ _ _ _ _ us hl => match us, hl with | [_, _, _], _ => rfl
abbrev s_back : Stmt := top 24
theorem sc_back : FnScope ["prime", "one"] ["prime", "one"] (defScope s_back) := ⟨rfl, rfl, rfl, by decide +kernel, rfl, by decide +kernel, by decide +kernel⟩
theorem bd_back : Ow.Bind "back" s_back ["prime", "one"] := fun _ _ _ _ _ _ us hl => match us, hl with | [_, _], _ => rfl
abbrev s_power : Stmt := top 25
theorem sc_power : FnScope ["prime", "one", "many"] ["prime", "one", "many"] (defScope s_power) := ⟨rfl, rfl, rfl, by decide +kernel, rfl, by decide +kernel, by decide +kernel⟩
theorem bd_power : Ow.Bind "power" s_power ["prime", "one", "many"] := fun _ _ _ _ _ _ us hl => match us, hl with | [_, _, _], _ => rfl
abbrev s_primes_of : Stmt := top 27
theorem sc_primes_of : FnScope ["count", "found", "left", "one"] ["count"] (defScope s_primes_of) := ⟨rfl, rfl, rfl, by decide +kernel, rfl, by decide +kernel, by decide +kernel⟩
theorem bd_primes_of : Ow.Bind "primes_of" s_primes_of ["count"] := fun _ _ _ _ _ _ us hl => match us, hl with | [_], _ => rfl
abbrev s_is_full : Stmt := top 28
theorem sc_is_full : FnScope ["count", "one", "parts", "part"] ["count", "one", "parts"] (defScope s_is_full) := ⟨rfl, rfl, rfl, by decide +kernel, rfl, by decide +kernel, by decide +kernel⟩
theorem bd_is_full : Ow.Bind "is_full" s_is_full ["count", "one", "parts"] := fun _ _ _ _ _ _ us hl => match us, hl with | [_, _, _], _ => rfl
abbrev s_least_full : Stmt := top 29
theorem sc_least_full : FnScope ["count", "parts", "one"] ["count", "parts"] (defScope s_least_full) := ⟨rfl, rfl, rfl, by decide +kernel, rfl, by decide +kernel, by decide +kernel⟩
theorem bd_least_full : Ow.Bind "least_full" s_least_full ["count", "parts"] := fun _ _ _ _ _ _ us hl => match us, hl with | [_, _], _ => rfl
abbrev s_is_root_of : Stmt := top 30
theorem sc_is_root_of : FnScope ["prime", "value"] ["prime", "value"] (defScope s_is_root_of) := ⟨rfl, rfl, rfl, by decide +kernel, rfl, by decide +kernel, by decide +kernel⟩
theorem bd_is_root_of : Ow.Bind "is_root_of" s_is_root_of ["prime", "value"] := fun _ _ _ _ _ _ us hl => match us, hl with | [_, _], _ => rfl
abbrev s_order_by : Stmt := top 31
theorem sc_order_by : FnScope ["prime", "one", "found", "part"] ["prime", "one"] (defScope s_order_by) := ⟨rfl, rfl, rfl, by decide +kernel, rfl, by decide +kernel, by decide +kernel⟩
theorem bd_order_by : Ow.Bind "order_by" s_order_by ["prime", "one"] := fun _ _ _ _ _ _ us hl => match us, hl with | [_, _], _ => rfl
abbrev s_check_one : Stmt := top 32
theorem sc_check_one : FnScope ["prime", "one"] ["prime", "one"] (defScope s_check_one) := ⟨rfl, rfl, rfl, by decide +kernel, rfl, by decide +kernel, by decide +kernel⟩
theorem bd_check_one : Ow.Bind "check_one" s_check_one ["prime", "one"] := fun _ _ _ _ _ _ us hl => match us, hl with | [_, _], _ => rfl
abbrev s_order_of : Stmt := top 33
theorem sc_order_of : FnScope ["prime", "one"] ["prime", "one"] (defScope s_order_of) := ⟨rfl, rfl, rfl, by decide +kernel, rfl, by decide +kernel, by decide +kernel⟩
theorem bd_order_of : Ow.Bind "order_of" s_order_of ["prime", "one"] := fun _ _ _ _ _ _ us hl => match us, hl with | [_, _], _ => rfl
abbrev s_is_root : Stmt := top 34
theorem sc_is_root : FnScope ["prime", "value"] ["prime", "value"] (defScope s_is_root) := ⟨rfl, rfl, rfl, by decide +kernel, rfl, by decide +kernel, by decide +kernel⟩
theorem bd_is_root : Ow.Bind "is_root" s_is_root ["prime", "value"] := fun _ _ _ _ _ _ us hl => match us, hl with | [_, _], _ => rfl
abbrev s_least_root : Stmt := top 35
theorem sc_least_root : FnScope ["prime"] ["prime"] (defScope s_least_root) := ⟨rfl, rfl, rfl, by decide +kernel, rfl, by decide +kernel, by decide +kernel⟩
theorem bd_least_root : Ow.Bind "least_root" s_least_root ["prime"] := fun _ _ _ _ _ _ us hl => match us, hl with | [_], _ => rfl
abbrev s_log_of : Stmt := top 36
theorem sc_log_of : FnScope ["prime", "root", "one", "found", "here"] ["prime", "root", "one"] (defScope s_log_of) := ⟨rfl, rfl, rfl, by decide +kernel, rfl, by decide +kernel, by decide +kernel⟩
theorem bd_log_of : Ow.Bind "log_of" s_log_of ["prime", "root", "one"] := fun _ _ _ _ _ _ us hl => match us, hl with | [_, _, _], _ => rfl
abbrev s_law_pot : Stmt := top 38
theorem sc_law_pot : FnScope ["script", "k", "cell"] ["script", "k"] (defScope s_law_pot) := ⟨rfl, rfl, rfl, by decide +kernel, rfl, by decide +kernel, by decide +kernel⟩
theorem bd_law_pot : Ow.Bind "_law_pot" s_law_pot ["script", "k"] := fun _ _ _ _ _ _ us hl => match us, hl with | [_, _], _ => rfl
abbrev s_law_draw : Stmt := top 39
theorem sc_law_draw : FnScope ["pot", "many", "digit"] ["pot", "many"] (defScope s_law_draw) := ⟨rfl, rfl, rfl, by decide +kernel, rfl, by decide +kernel, by decide +kernel⟩
theorem bd_law_draw : Ow.Bind "_law_draw" s_law_draw ["pot", "many"] := fun _ _ _ _ _ _ us hl => match us, hl with | [_, _], _ => rfl
abbrev s_law_pick : Stmt := top 40
theorem sc_law_pick : FnScope ["pot", "some"] ["pot", "some"] (defScope s_law_pick) := ⟨rfl, rfl, rfl, by decide +kernel, rfl, by decide +kernel, by decide +kernel⟩
theorem bd_law_pick : Ow.Bind "_law_pick" s_law_pick ["pot", "some"] := fun _ _ _ _ _ _ us hl => match us, hl with | [_, _], _ => rfl
abbrev s_law_is_prime : Stmt := top 41
theorem sc_law_is_prime : FnScope ["number", "part"] ["number"] (defScope s_law_is_prime) := ⟨rfl, rfl, rfl, by decide +kernel, rfl, by decide +kernel, by decide +kernel⟩
theorem bd_law_is_prime : Ow.Bind "_law_is_prime" s_law_is_prime ["number"] := fun _ _ _ _ _ _ us hl => match us, hl with | [_], _ => rfl
abbrev s_law_prime : Stmt := top 42
theorem sc_law_prime : FnScope ["pot", "first", "number"] ["pot"] (defScope s_law_prime) := ⟨rfl, rfl, rfl, by decide +kernel, rfl, by decide +kernel, by decide +kernel⟩
theorem bd_law_prime : Ow.Bind "_law_prime" s_law_prime ["pot"] := fun _ _ _ _ _ _ us hl => match us, hl with | [_], _ => rfl
abbrev s_law_divisor : Stmt := top 43
theorem sc_law_divisor : FnScope ["one", "late", "turn"] ["one", "late"] (defScope s_law_divisor) := ⟨rfl, rfl, rfl, by decide +kernel, rfl, by decide +kernel, by decide +kernel⟩
theorem bd_law_divisor : Ow.Bind "_law_divisor" s_law_divisor ["one", "late"] := fun _ _ _ _ _ _ us hl => match us, hl with | [_, _], _ => rfl
abbrev s_law_powers : Stmt := top 44
theorem sc_law_powers : FnScope ["prime", "one", "found", "here", "turn"] ["prime", "one"] (defScope s_law_powers) := ⟨rfl, rfl, rfl, by decide +kernel, rfl, by decide +kernel, by decide +kernel⟩
theorem bd_law_powers : Ow.Bind "_law_powers" s_law_powers ["prime", "one"] := fun _ _ _ _ _ _ us hl => match us, hl with | [_, _], _ => rfl
abbrev s_law_least_root : Stmt := top 45
theorem sc_law_least_root : FnScope ["prime", "one"] ["prime"] (defScope s_law_least_root) := ⟨rfl, rfl, rfl, by decide +kernel, rfl, by decide +kernel, by decide +kernel⟩
theorem bd_law_least_root : Ow.Bind "_law_least_root" s_law_least_root ["prime"] := fun _ _ _ _ _ _ us hl => match us, hl with | [_], _ => rfl
abbrev s_law_is_told : Stmt := top 46
theorem sc_law_is_told : FnScope ["value", "due"] ["value", "due"] (defScope s_law_is_told) := ⟨rfl, rfl, rfl, by decide +kernel, rfl, by decide +kernel, by decide +kernel⟩
theorem bd_law_is_told : Ow.Bind "_law_is_told" s_law_is_told ["value", "due"] := fun _ _ _ _ _ _ us hl => match us, hl with | [_, _], _ => rfl
abbrev s_law_are_told : Stmt := top 47
theorem sc_law_are_told : FnScope ["some", "due", "value"] ["some", "due"] (defScope s_law_are_told) := ⟨rfl, rfl, rfl, by decide +kernel, rfl, by decide +kernel, by decide +kernel⟩
theorem bd_law_are_told : Ow.Bind "_law_are_told" s_law_are_told ["some", "due"] := fun _ _ _ _ _ _ us hl => match us, hl with | [_, _], _ => rfl
abbrev s_law_orders_right : Stmt := top 48
theorem sc_law_orders_right : FnScope ["pot", "prime", "one", "turn", "due", "many"] ["pot", "prime"] (defScope s_law_orders_right) := ⟨rfl, rfl, rfl, by decide +kernel, rfl, by decide +kernel, by decide +kernel⟩
theorem bd_law_orders_right : Ow.Bind "_law_orders_right" s_law_orders_right ["pot", "prime"] := fun _ _ _ _ _ _ us hl => match us, hl with | [_, _], _ => rfl
abbrev s_law_roots_right : Stmt := top 49
theorem sc_law_roots_right : FnScope ["pot", "prime", "least", "some", "turn", "value", "is_number", "is_so"] ["pot", "prime", "least"] (defScope s_law_roots_right) := ⟨rfl, rfl, rfl, by decide +kernel, rfl, by decide +kernel, by decide +kernel⟩
theorem bd_law_roots_right : Ow.Bind "_law_roots_right" s_law_roots_right ["pot", "prime", "least"] := fun _ _ _ _ _ _ us hl => match us, hl with | [_, _, _], _ => rfl
abbrev s_law_logs_right : Stmt := top 50
theorem sc_law_logs_right : FnScope ["pot", "prime", "least", "many", "powers", "root", "logs", "row", "at", "one", "some", "turn", "other"] ["pot", "prime", "least"] (defScope s_law_logs_right) := ⟨rfl, rfl, rfl, by decide +kernel, rfl, by decide +kernel, by decide +kernel⟩
theorem bd_law_logs_right : Ow.Bind "_law_logs_right" s_law_logs_right ["pot", "prime", "least"] := fun _ _ _ _ _ _ us hl => match us, hl with | [_, _, _], _ => rfl
abbrev s_law_right : Stmt := top 51
theorem sc_law_right : FnScope ["pot", "prime", "least"] ["pot"] (defScope s_law_right) := ⟨rfl, rfl, rfl, by decide +kernel, rfl, by decide +kernel, by decide +kernel⟩
theorem bd_law_right : Ow.Bind "_law_right" s_law_right ["pot"] := fun _ _ _ _ _ _ us hl => match us, hl with | [_], _ => rfl
abbrev s_law : Stmt := top 52
theorem sc_law : FnScope ["script", "k"] ["script"] (defScope s_law) := ⟨rfl, rfl, rfl, by decide +kernel, rfl, by decide +kernel, by decide +kernel⟩
theorem bd_law : Ow.Bind "law" s_law ["script"] := fun _ _ _ _ _ _ us hl => match us, hl with | [_], _ => rfl
theorem w_order_of_0_one_prime : Ow.Way "order_of" s_order_of ["prime", "one"] 0 ["one", "prime"] [1, 0] := fun _ _ _ _ _ _ us ws h1 h2 => match us, ws, h1, h2 with | [], [_, _], _, _ => rfl
theorem w_least_root_0_prime : Ow.Way "least_root" s_least_root ["prime"] 0 ["prime"] [0] := fun _ _ _ _ _ _ us ws h1 h2 => match us, ws, h1, h2 with | [], [_], _, _ => rfl
theorem w_is_root_0_value_prime : Ow.Way "is_root" s_is_root ["prime", "value"] 0 ["value", "prime"] [1, 0] := fun _ _ _ _ _ _ us ws h1 h2 => match us, ws, h1, h2 with | [], [_, _], _, _ => rfl
theorem w_log_of_0_one_root_prime : Ow.Way "log_of" s_log_of ["prime", "root", "one"] 0 ["one", "root", "prime"] [2, 1, 0] := fun _ _ _ _ _ _ us ws h1 h2 => match us, ws, h1, h2 with | [], [_, _, _], _, _ => rfl
/-- what the top has written -/
structure Tx (K : PySem.W.Frag) (mg : Str → Option Value) : Prop where
  b_abs : mg "abs" = none
  b_all : mg "all" = none
  b_any : mg "any" = none
  b_bool : mg "bool" = none
  b_divmod : mg "divmod" = none
  b_enumerate : mg "enumerate" = none
  b_int : mg "int" = none
  b_isinstance : mg "isinstance" = none
  b_len : mg "len" = none
  b_max : mg "max" = none
  b_min : mg "min" = none
  b_range : mg "range" = none
  b_repr : mg "repr" = none
  b_str : mg "str" = none
  c_LEAST_PRIME : ∃ t, mg "LEAST_PRIME" = some (.int 3 t)
  c_MOST_EXPONENT : ∃ t, mg "MOST_EXPONENT" = some (.int 1000000 t)
  c_MOST_PRIME : ∃ t, mg "MOST_PRIME" = some (.int 9973 t)
  f_is_integer : Ow.Stands K mg "is_integer" s_is_integer
  f_is_within : Ow.Stands K mg "is_within" s_is_within
  f_least_divisor : Ow.Stands K mg "least_divisor" s_least_divisor
  f_is_prime_of : Ow.Stands K mg "is_prime_of" s_is_prime_of
  f_check_prime : Ow.Stands K mg "check_prime" s_check_prime
  f_is_number_of : Ow.Stands K mg "is_number_of" s_is_number_of
  f_check_number : Ow.Stands K mg "check_number" s_check_number
  f_powered : Ow.Stands K mg "powered" s_powered
  f_back_of : Ow.Stands K mg "back_of" s_back_of
  f_check_pair : Ow.Stands K mg "check_pair" s_check_pair
  f_times : Ow.Stands K mg "times" s_times
  f_back : Ow.Stands K mg "back" s_back
  f_power : Ow.Stands K mg "power" s_power
  f_primes_of : Ow.Stands K mg "primes_of" s_primes_of
  f_is_full : Ow.Stands K mg "is_full" s_is_full
  f_least_full : Ow.Stands K mg "least_full" s_least_full
  f_is_root_of : Ow.Stands K mg "is_root_of" s_is_root_of
  f_order_by : Ow.Stands K mg "order_by" s_order_by
  f_check_one : Ow.Stands K mg "check_one" s_check_one
  f_order_of : Ow.Stands K mg "order_of" s_order_of
  f_is_root : Ow.Stands K mg "is_root" s_is_root
  f_least_root : Ow.Stands K mg "least_root" s_least_root
  f_log_of : Ow.Stands K mg "log_of" s_log_of
  f_law_pot : Ow.Stands K mg "_law_pot" s_law_pot
  f_law_draw : Ow.Stands K mg "_law_draw" s_law_draw
  f_law_pick : Ow.Stands K mg "_law_pick" s_law_pick
  f_law_is_prime : Ow.Stands K mg "_law_is_prime" s_law_is_prime
  f_law_prime : Ow.Stands K mg "_law_prime" s_law_prime
  f_law_divisor : Ow.Stands K mg "_law_divisor" s_law_divisor
  f_law_powers : Ow.Stands K mg "_law_powers" s_law_powers
  f_law_least_root : Ow.Stands K mg "_law_least_root" s_law_least_root
  f_law_is_told : Ow.Stands K mg "_law_is_told" s_law_is_told
  f_law_are_told : Ow.Stands K mg "_law_are_told" s_law_are_told
  f_law_orders_right : Ow.Stands K mg "_law_orders_right" s_law_orders_right
  f_law_roots_right : Ow.Stands K mg "_law_roots_right" s_law_roots_right
  f_law_logs_right : Ow.Stands K mg "_law_logs_right" s_law_logs_right
  f_law_right : Ow.Stands K mg "_law_right" s_law_right
  f_law : Ow.Stands K mg "law" s_law
end Eqr
namespace Eqr
open PySem PySem.Spec L2
/-! ### kinds of values -/
/-- a value and whether it is a whole number -/
inductive IsV (H : Hp) : V → Bool → Prop
  | int (i : Int) : IsV H (.int i) true
  | non : IsV H .non false
  | bl (b : Bool) : IsV H (.bl b) false
  | str (x : Str) : IsV H (.str x) false
  | lst {a : Addr} {xs : List V} (h : H a = some (.lst xs)) : IsV H (.ref a) false
  | tup {a : Addr} {xs : List V} (h : H a = some (.tup xs)) : IsV H (.ref a) false
theorem kit_no {K : PySem.W.Frag} {a b : String} {u : Bool} (h : kitB a b = some u) : PySem.W.kitOne K (.type a) (.type b) = some u := kit_ty h
section
variable {P : Program} {w : World} {K : PySem.W.Frag} {mg : Str → Option Value} {base : Heap}
/-! ### the parts of basics -/
def sp_is_integer : Sp := fun vs H Q _ => ∃ v b, vs = [v] ∧ IsV H v b ∧ Q (.bl b) H
theorem D_is_integer (T : Tx K mg) : Ow.Df P w K mg base CX0 1 "is_integer" s_is_integer ["value"] (sp_is_integer) := by
  refine Ow.df_of T.f_is_integer sc_is_integer bd_is_integer (fun vs H Q E h => ?_) (fun cdv A outer s H vs Q E f hG hR h => ?_)
  · obtain ⟨_, _, rfl, _⟩ := h
    rfl
  · obtain ⟨v, b, rfl, hv, q⟩ := h
    have hu := hR.units
    have hu1 := hu_of hR
    refine ⟨_, (pss_one (ps_ret (pe_and (pe_callB call_isi (by rfl) T.b_isinstance (by decide +kernel) (pa_cons (pv 0) (pa_cons (pe_bltn (v := .ty "int") (by rfl) T.b_int (by decide +kernel) rfl) pa_nil))) (pe_one (pe_not (pe_callB call_isi (by rfl) T.b_isinstance (by decide +kernel) (pa_cons (pv 0) (pa_cons (pe_bltn (v := .ty "bool") (by rfl) T.b_bool (by decide +kernel) rfl) pa_nil)))))))), ?_⟩
    refine ⟨_, rfl, v, .ty "int", ?_⟩
    cases hv with
    | int i => exact ⟨_, _, _, rfl, .ty _, .base (.int i), kit_ty (by decide +kernel), _, rfl, iteT ⟨_, rfl, _, _, _, _, false, rfl, .ty _, .base (.int i), kit_ty (by decide +kernel), _, rfl, q⟩⟩
    | non => exact ⟨_, _, _, rfl, .ty _, .base .non, kit_ty (by decide +kernel), _, rfl, iteF q⟩
    | bl b => exact ⟨_, _, _, rfl, .ty _, .base (.bl b), kit_ty (by decide +kernel), _, rfl, iteT ⟨_, rfl, _, _, _, _, true, rfl, .ty _, .base (.bl b), kit_ty (by decide +kernel), _, rfl, q⟩⟩
    | str x => exact ⟨_, _, _, rfl, .ty _, .base (.str x), kit_ty (by decide +kernel), _, rfl, iteF q⟩
    | lst h => exact ⟨_, _, _, rfl, .ty _, .base (.lst h), kit_ty (by decide +kernel), _, rfl, iteF q⟩
    | tup h => exact ⟨_, _, _, rfl, .ty _, .base (.tup h), kit_ty (by decide +kernel), _, rfl, iteF q⟩
def sp_is_within : Sp := fun vs H Q _ => ∃ v b l m, vs = [v, .int l, .int m] ∧ IsV H v b ∧ Q (.bl (within v l m)) H
theorem D_is_within (T : Tx K mg) : Ow.Df P w K mg base CX0 2 "is_within" s_is_within ["value", "least", "most"] (sp_is_within) := by
  refine Ow.df_of T.f_is_within sc_is_within bd_is_within (fun vs H Q E h => ?_) (fun cdv A outer s H vs Q E f hG hR h => ?_)
  · obtain ⟨_, _, _, _, rfl, _⟩ := h
    rfl
  · obtain ⟨v, b, l, m, rfl, hv, q⟩ := h
    have hu := hR.units
    have hu1 := hu_of hR
    refine ⟨_, (pss_one (ps_ret (pe_and (Ow.pe_d (D_is_integer T) hR (by decide) hG pass0 (by rfl) (pa_cons (pv 0) pa_nil)) (pe_one (pe_chain op_le op_le (pv 1) (pv 0) (pv 2)))))), ?_⟩
    refine ⟨_, rfl, v, b, rfl, hv, _, rfl, ?_⟩
    cases hv with
    | int i =>
      refine iteT ⟨_, rfl, _, rfl, _, _, rfl, rfl, _, rfl, ?_⟩
      have e : within (.int i) l m = (decide (l ≤ i) && decide (i ≤ m)) := rfl
      rw [e] at q
      cases h1 : decide (l ≤ i) with
      | true =>
        rw [h1] at q
        exact iteT ⟨_, rfl, _, _, rfl, rfl, q⟩
      | false =>
        rw [h1] at q
        exact iteF q
    | non => exact iteF q
    | bl b => exact iteF q
    | str x => exact iteF q
    | lst h => exact iteF q
    | tup h => exact iteF q
def sp_least_divisor : Sp := fun vs H Q _ => ∃ n, vs = [.int n] ∧ 1 < n ∧ n < 10201 ∧ ∀ r, Least n r → Q (.int r) H
theorem D_least_divisor (T : Tx K mg) : Ow.Df P w K mg base CX0 1 "least_divisor" s_least_divisor ["count"] (sp_least_divisor) := by
  refine Ow.df_of T.f_least_divisor sc_least_divisor bd_least_divisor (fun vs H Q E h => ?_) (fun cdv A outer s H vs Q E f hG hR h => ?_)
  · obtain ⟨_, rfl, _⟩ := h
    rfl
  · obtain ⟨n, rfl, h1, h2, q⟩ := h
    have hu := hR.units
    have hu1 := hu_of hR
    refine ⟨_, (pss_cons (ps_set (i := 1) sc_least_divisor.nd rfl (Or.inl rfl) pe_int)
      (pss_cons (ps_while PassesOwn.never (pt_cmpR op_le (pe_op op_mul (pv 1) (pv 1)) (pv 0) (nomark _))
      (pss_cons (ps_if (pt_cmpR op_eq (pe_op op_mod (pv 0) (pv 1)) pe_int (nomark _))
        (pss_one (ps_ret (pv 1)))
        pss_nil)
        (pss_one (ps_set (i := 1) sc_least_divisor.nd rfl (Or.inl rfl) (pe_op op_add (pv 1) pe_int)))))
      (pss_one (ps_ret (pv 0))))), ?_⟩
    refine ⟨fun m σ H' => H' = H ∧ ∃ d : Int, σ = [some (.int n), some (.int d)] ∧ m = (n + 1 - d).toNat ∧ 2 ≤ d ∧ d ≤ n ∧ ∀ c : Int, 2 ≤ c → c < d → n % c ≠ 0, ⟨_, rfl, 2, rfl, rfl, by omega, by omega, fun c c1 c2 => by omega⟩, ?_⟩
    rintro m σ H' ⟨rfl, d, rfl, rfl, d1, d2, hd⟩
    refine ⟨_, rfl, _, rfl, _, _, rfl, rfl, .inl ⟨by omega, by omega⟩, _, rfl, _, _, rfl, rfl, _, rfl, ?_⟩
    refine ite2 (fun c => ⟨fun σ' H' => ∃ m', m' < _ ∧ _, fun _ _ h => h, ?_⟩) (fun c => ?_)
    · have c : d * d ≤ n := of_decide_eq_true c
      refine ⟨_, rfl, _, rfl, _, _, rfl, rfl, (show 0 < d by omega), rfl, _, rfl, ?_⟩
      refine ite2 (fun z => ?_) (fun z => ?_)
      · have z : n % d = 0 := V.int.inj (of_decide_eq_true z)
        exact ⟨_, rfl, q d ⟨d1, d2, z, hd⟩⟩
      · have z : n % d ≠ 0 := fun e => z (decide_eq_true (congrArg V.int e))
        have dn : d ≠ n := fun e => by
          subst e
          exact z (Int.emod_self)
        refine ⟨_, rfl, _, _, rfl, rfl, (n + 1 - (d + 1)).toNat, by omega, rfl, d + 1, rfl, rfl, by omega, by omega, fun x x1 x2 => ?_⟩
        rcases Int.lt_or_le x d with y | y
        · exact hd x x1 y
        · have e : x = d := by omega
          rw [e]
          exact z
    · have c : ¬ d * d ≤ n := fun z => c (decide_eq_true z)
      exact ⟨_, rfl, q n (.self h1 d1 hd (by omega))⟩
end

end Eqr
namespace Eqr
open PySem PySem.Spec L2
section
variable {P : Program} {w : World} {K : PySem.W.Frag} {mg : Str → Option Value} {base : Heap}
def sp_is_prime_of : Sp := fun vs H Q _ => ∃ v b, vs = [v] ∧ IsV H v b ∧ Q (.bl (prV v)) H
theorem D_is_prime_of (T : Tx K mg) : Ow.Df P w K mg base CX0 3 "is_prime_of" s_is_prime_of ["value"] (sp_is_prime_of) := by
  refine Ow.df_of T.f_is_prime_of sc_is_prime_of bd_is_prime_of (fun vs H Q E h => ?_) (fun cdv A outer s H vs Q E f hG hR h => ?_)
  · obtain ⟨_, _, rfl, _⟩ := h
    rfl
  · obtain ⟨v, b, rfl, hv, q⟩ := h
    have hu := hR.units
    have hu1 := hu_of hR
    refine ⟨_, (pss_one (ps_ret (pe_and (Ow.pe_d (D_is_within T) hR (by decide) hG pass0 (by rfl) (pa_cons (pv 0) (pa_cons (Ow.pe_gi rfl T.c_LEAST_PRIME) (pa_cons (Ow.pe_gi rfl T.c_MOST_PRIME) pa_nil)))) (pe_one (pe_cmpR op_eq (Ow.pe_d (D_least_divisor T) hR (by decide) hG pass0 (by rfl) (pa_cons (pv 0) pa_nil)) (pv 0) (nomark _)))))), ?_⟩
    refine ⟨_, rfl, v, b, 3, 9973, rfl, hv, _, rfl, ?_⟩
    cases hv with
    | int i =>
      have e : within (.int i) 3 9973 = (decide (3 ≤ i) && decide (i ≤ 9973)) := rfl
      have e2 : prV (.int i) = ((decide (3 ≤ i) && decide (i ≤ 9973)) && primeB i) := rfl
      rw [e2] at q
      rw [e]
      cases h1 : (decide (3 ≤ i) && decide (i ≤ 9973)) with
      | true =>
        rw [h1] at q
        simp only [Bool.and_eq_true, decide_eq_true_eq] at h1
        refine iteT ⟨_, rfl, i, rfl, by omega, by omega, fun r hr => ⟨_, rfl, rfl, ?_⟩⟩
        have e3 : decide (V.int r = V.int i) = primeB i := by
          rw [← hr.prime (by omega) (by omega)]
          exact decide_eq_decide.mpr ⟨V.int.inj, fun e => congrArg V.int e⟩
        rw [e3]
        exact q
      | false =>
        rw [h1] at q
        exact iteF q
    | non => exact iteF q
    | bl b => exact iteF q
    | str x => exact iteF q
    | lst h => exact iteF q
    | tup h => exact iteF q
def sp_check_prime : Sp := fun vs H Q _ => ∃ p, vs = [.int p] ∧ Pr p ∧ Q .non H
theorem D_check_prime (T : Tx K mg) : Ow.Df P w K mg base CX0 4 "check_prime" s_check_prime ["value"] (sp_check_prime) := by
  refine Ow.df_of T.f_check_prime sc_check_prime bd_check_prime (fun vs H Q E h => ?_) (fun cdv A outer s H vs Q E f hG hR h => ?_)
  · obtain ⟨_, rfl, _⟩ := h
    rfl
  · obtain ⟨p, rfl, hp, q⟩ := h
    have hu := hR.units
    have hu1 := hu_of hR
    refine ⟨_, (pss_one (ps_if (pt_not (pt_val (Ow.pe_d (D_is_prime_of T) hR (by decide) hG pass0 (by rfl) (pa_cons (pv 0) pa_nil))))
      (pss_one ps_never)
      pss_nil)), ?_⟩
    refine ⟨_, rfl, _, _, rfl, .int p, true, congrArg V.bl hp, ?_⟩
    exact iteF q
def sp_is_number_of : Sp := fun vs H Q _ => ∃ p v b, vs = [.int p, v] ∧ IsV H v b ∧ Q (.bl (within v 0 (p - 1))) H
theorem D_is_number_of (T : Tx K mg) : Ow.Df P w K mg base CX0 3 "is_number_of" s_is_number_of ["prime", "value"] (sp_is_number_of) := by
  refine Ow.df_of T.f_is_number_of sc_is_number_of bd_is_number_of (fun vs H Q E h => ?_) (fun cdv A outer s H vs Q E f hG hR h => ?_)
  · obtain ⟨_, _, _, rfl, _⟩ := h
    rfl
  · obtain ⟨p, v, b, rfl, hv, q⟩ := h
    have hu := hR.units
    have hu1 := hu_of hR
    refine ⟨_, (pss_one (ps_ret (Ow.pe_d (D_is_within T) hR (by decide) hG pass0 (by rfl) (pa_cons (pv 1) (pa_cons pe_int (pa_cons (pe_op op_sub (pv 0) pe_int) pa_nil)))))), ?_⟩
    exact ⟨_, rfl, _, rfl, _, _, rfl, rfl, _, _, _, _, rfl, hv, q⟩
/-- a number of a prime -/
def Nm (p a : Int) : Prop := 0 ≤ a ∧ a < p
theorem Nm.within {p a : Int} (h : Nm p a) : within (.int a) 0 (p - 1) = true := by
  have e : Eqr.within (.int a) 0 (p - 1) = (decide (0 ≤ a) && decide (a ≤ p - 1)) := rfl
  rw [e, decide_eq_true h.1, decide_eq_true (by have := h.2; omega)]
  rfl
def sp_check_number : Sp := fun vs H Q _ => ∃ p a, vs = [.int p, .int a] ∧ Nm p a ∧ Q .non H
theorem D_check_number (T : Tx K mg) : Ow.Df P w K mg base CX0 4 "check_number" s_check_number ["prime", "value"] (sp_check_number) := by
  refine Ow.df_of T.f_check_number sc_check_number bd_check_number (fun vs H Q E h => ?_) (fun cdv A outer s H vs Q E f hG hR h => ?_)
  · obtain ⟨_, _, rfl, _⟩ := h
    rfl
  · obtain ⟨p, a, rfl, ha, q⟩ := h
    have hu := hR.units
    have hu1 := hu_of hR
    refine ⟨_, (pss_one (ps_if (pt_not (pt_val (Ow.pe_d (D_is_number_of T) hR (by decide) hG pass0 (by rfl) (pa_cons (pv 0) (pa_cons (pv 1) pa_nil)))))
      (pss_one ps_never)
      pss_nil)), ?_⟩
    refine ⟨_, rfl, _, rfl, p, .int a, true, rfl, .int a, true, ?_, iteF q⟩
    rw [ha.within]
def sp_powered : Sp := fun vs H Q _ => ∃ p a m, vs = [.int p, .int a, .int m] ∧ 2 ≤ p ∧ p ≤ 10000 ∧ Nm p a ∧ 0 ≤ m ∧ ∀ r H', Same H H' → Nm p r → Cg p r (a ^ m.toNat) → Q (.int r) H'
theorem nm_mod {p x : Int} (h : 0 < p) : Nm p (x % p) := ⟨Int.emod_nonneg _ (by omega), Int.emod_lt_of_pos _ h⟩
theorem same_new {H : Hp} {p : Addr} {o : HO} (h : H p = none) : Same H (upd H p o) := fun b u e => by
  rw [upd_ne (ne_of_none e h)]
  exact e
theorem div_small {i j : Int} (h : 0 < j) (h2 : j < 1073741824) : CDivP i j := ⟨h, PyProof.noPylong_small (by omega)⟩
theorem D_powered (T : Tx K mg) : Ow.Df P w K mg base CX0 1 "powered" s_powered ["prime", "one", "many"] (sp_powered) := by
  refine Ow.df_of T.f_powered sc_powered bd_powered (fun vs H Q E h => ?_) (fun cdv A outer s H vs Q E f hG hR h => ?_)
  · obtain ⟨_, _, _, rfl, _⟩ := h
    rfl
  · obtain ⟨p, a, m, rfl, lo, hi, ha, hm, q⟩ := h
    have hu := hR.units
    have hu1 := hu_of hR
    refine ⟨_, (pss_cons (ps_par3 (i := 3) (j := 4) (l := 5) rfl sc_powered.nd rfl rfl rfl (by decide) (by decide) (by decide) rfl rfl rfl (pa_cons pe_int (pa_cons (pv 1) (pa_cons (pv 2) pa_nil))) (by rfl))
      (pss_cons (ps_while PassesOwn.never (pt_cmpR op_gt (pv 5) pe_int (nomark _))
      (pss_cons (ps_asg (pe_callB call_divmodW (by rfl) T.b_divmod (by decide +kernel) (pa_cons (pv 5) (pa_cons pe_int pa_nil))) (pg_tup rfl (pgs_cons (pg_name (i := 5) sc_powered.nd rfl (Or.inl rfl)) (pgs_cons (pg_name (i := 6) sc_powered.nd rfl (Or.inl rfl)) pgs_nil))))
        (pss_cons (ps_if (pt_cmpR op_eq (pv 6) pe_int (nomark _))
        (pss_one (ps_set (i := 3) sc_powered.nd rfl (Or.inl rfl) (pe_op op_mod (pe_op op_mul (pv 3) (pv 4)) (pv 0))))
        pss_nil)
        (pss_one (ps_set (i := 4) sc_powered.nd rfl (Or.inl rfl) (pe_op op_mod (pe_op op_mul (pv 4) (pv 4)) (pv 0)))))))
      (pss_one (ps_ret (pv 3))))), ?_⟩
    refine ⟨_, rfl, _, rfl, _, _, _, rfl, ?_⟩
    refine ⟨fun k σ H' => Same H H' ∧ ∃ (f s l : Int) (o : Option V), σ = [some (.int p), some (.int a), some (.int m), some (.int f), some (.int s), some (.int l), o] ∧ k = l.toNat ∧ Nm p f ∧ Nm p s ∧ 0 ≤ l ∧ Cg p (f * s ^ l.toNat) (a ^ m.toNat),
      ⟨_, Same.refl H, 1, a, m, none, rfl, rfl, ⟨by omega, by omega⟩, ha, hm, by rw [Int.one_mul]; exact Cg.refl _ _⟩, ?_⟩
    rintro k σ H' ⟨sm, f, s, l, o, rfl, rfl, hf, hs, hl, hc⟩
    refine ⟨_, rfl, _, _, rfl, rfl, _, rfl, ?_⟩
    refine ite2 (fun c => ⟨fun σ' H' => ∃ m', m' < _ ∧ _, fun _ _ h => h, ?_⟩) (fun c => ?_)
    · have c : 0 < l := of_decide_eq_true c
      refine ⟨_, rfl, _, _, rfl, div_small (by omega) (by omega), fun t ht => ?_⟩
      refine ⟨t, _, rfl, .inl (.inl upd_same), rfl, _, _, rfl, _, _, rfl, rfl, ?_⟩
      have sm2 : Same H (upd H' t (.tup [.int (l / 2), .int (l % 2)])) := sm.trans (same_new ht)
      have l0 : 0 ≤ l / 2 := by omega
      have l1 : (l / 2).toNat = l.toNat / 2 := by omega
      refine ⟨_, rfl, rfl, _, rfl, ?_⟩
      refine ite2 (fun z => ?_) (fun z => ?_)
      · have z : l % 2 = 1 := V.int.inj (of_decide_eq_true z)
        refine ⟨_, rfl, _, rfl, _, _, rfl, rfl, .inl ⟨by have := hf.1; omega, by have := hf.2; omega⟩, _, rfl, _, _, rfl, rfl, (show 0 < p by omega), ?_⟩
        refine ⟨_, rfl, _, rfl, _, _, rfl, rfl, .inl ⟨by have := hs.1; omega, by have := hs.2; omega⟩, _, rfl, _, _, rfl, rfl, (show 0 < p by omega), ?_⟩
        refine ⟨(l / 2).toNat, by omega, sm2, _, _, _, _, rfl, rfl, nm_mod (by omega), nm_mod (by omega), l0, ?_⟩
        rw [l1]
        refine Cg.trans ?_ hc
        rw [pow_odd s l.toNat (by omega), ← Int.mul_assoc]
        exact (Cg.rest p (f * s)).mul ((Cg.rest p (s * s)).pow _)
      · have z : l % 2 ≠ 1 := fun e => z (decide_eq_true (congrArg V.int e))
        refine ⟨_, rfl, _, rfl, _, _, rfl, rfl, .inl ⟨by have := hs.1; omega, by have := hs.2; omega⟩, _, rfl, _, _, rfl, rfl, (show 0 < p by omega), ?_⟩
        refine ⟨(l / 2).toNat, by omega, sm2, _, _, _, _, rfl, rfl, hf, nm_mod (by omega), l0, ?_⟩
        rw [l1]
        refine Cg.trans ?_ hc
        rw [pow_even s l.toNat (by omega)]
        exact (Cg.refl p f).mul ((Cg.rest p (s * s)).pow _)
    · have c : ¬ 0 < l := fun z => c (decide_eq_true z)
      refine ⟨_, rfl, q f H' sm hf ?_⟩
      have e : l.toNat = 0 := by omega
      rw [e, Int.pow_zero, Int.mul_one] at hc
      exact hc
def sp_back_of : Sp := fun vs H Q _ => ∃ p a, vs = [.int p, .int a] ∧ Pr p ∧ 0 < a ∧ a < p ∧ ∀ r H', Same H H' → Nm p r → Cg p (r * a) 1 → Q (.int r) H'
theorem D_back_of (T : Tx K mg) : Ow.Df P w K mg base CX0 1 "back_of" s_back_of ["prime", "one"] (sp_back_of) := by
  refine Ow.df_of T.f_back_of sc_back_of bd_back_of (fun vs H Q E h => ?_) (fun cdv A outer s H vs Q E f hG hR h => ?_)
  · obtain ⟨_, _, rfl, _⟩ := h
    rfl
  · obtain ⟨p, a, rfl, hp, a0, a1, q⟩ := h
    have hu := hR.units
    have hu1 := hu_of hR
    refine ⟨_, (pss_cons (ps_asg (pe_tup (pa_cons (pv 0) (pa_cons (pv 1) (pa_cons pe_int (pa_cons pe_int pa_nil))))) (pg_tup rfl (pgs_cons (pg_name (i := 2) sc_back_of.nd rfl (Or.inl rfl)) (pgs_cons (pg_name (i := 3) sc_back_of.nd rfl (Or.inl rfl)) (pgs_cons (pg_name (i := 4) sc_back_of.nd rfl (Or.inl rfl)) (pgs_cons (pg_name (i := 5) sc_back_of.nd rfl (Or.inl rfl)) pgs_nil))))))
      (pss_cons (ps_while PassesOwn.never (pt_cmpR op_gt (pv 3) pe_int (nomark _))
      (pss_cons (ps_set (i := 6) sc_back_of.nd rfl (Or.inl rfl) (pe_op Ow.op_div (pv 2) (pv 3)))
        (pss_one (ps_asg (pe_tup (pa_cons (pv 3) (pa_cons (pe_op op_sub (pv 2) (pe_op op_mul (pv 6) (pv 3))) (pa_cons (pv 5) (pa_cons (pe_op op_sub (pv 4) (pe_op op_mul (pv 6) (pv 5))) pa_nil))))) (pg_tup rfl (pgs_cons (pg_name (i := 2) sc_back_of.nd rfl (Or.inl rfl)) (pgs_cons (pg_name (i := 3) sc_back_of.nd rfl (Or.inl rfl)) (pgs_cons (pg_name (i := 4) sc_back_of.nd rfl (Or.inl rfl)) (pgs_cons (pg_name (i := 5) sc_back_of.nd rfl (Or.inl rfl)) pgs_nil)))))))))
      (pss_one (ps_ret (pe_op op_mod (pv 5) (pv 0)))))), ?_⟩
    have lo := hp.lo
    have hi := hp.hi
    refine ⟨_, rfl, _, rfl, (by show 4 ≤ sizeLine; decide), fun t ht => ?_⟩
    refine ⟨t, _, rfl, .inl (.inl upd_same), rfl, _, _, rfl, _, _, rfl, _, _, rfl, _, _, rfl, rfl, ?_⟩
    refine ⟨fun k σ H' => Same H H' ∧ ∃ (h l u v : Int) (o : Option V), σ = [some (.int p), some (.int a), some (.int h), some (.int l), some (.int u), some (.int v), o] ∧ k = l.toNat ∧ 0 < l ∧ Turn p a h l u v,
      ⟨_, same_new ht, p, a, 0, 1, none, rfl, rfl, a0, .first hp a0 a1⟩, ?_⟩
    rintro k σ H' ⟨sm, h, l, u, v, o, rfl, rfl, hl, tn⟩
    refine ⟨_, rfl, _, _, rfl, rfl, _, rfl, ?_⟩
    have l1 := tn.h1
    have l2 := tn.h2
    refine ite2 (fun c => ⟨fun σ' H' => ∃ m', m' < _ ∧ _, fun _ _ h => h, ?_⟩) (fun c => ?_)
    · have c : 1 < l := of_decide_eq_true c
      have sh := tn.share hl
      have nx := tn.next hl
      have n1 := nx.h1
      refine ⟨_, rfl, _, rfl, _, _, rfl, rfl, ⟨by omega, by omega⟩, ?_⟩
      refine ⟨_, rfl, _, rfl, _, rfl, _, rfl, _, _, rfl, rfl, .inl ⟨by omega, by omega⟩, _, _, rfl, rfl, _, rfl, _, rfl, _, rfl, _, rfl, _, _, rfl, rfl, .inl ⟨by omega, by omega⟩, _, _, rfl, rfl, (by show 4 ≤ sizeLine; decide), fun t2 ht2 => ?_⟩
      refine ⟨t2, _, rfl, .inl (.inl upd_same), rfl, _, _, rfl, _, _, rfl, _, _, rfl, _, _, rfl, rfl, ?_⟩
      exact ⟨_, by omega, sm.trans (same_new ht2), _, _, _, _, _, rfl, rfl, tn.low c, nx⟩
    · have c : ¬ 1 < l := fun z => c (decide_eq_true z)
      have e : l = 1 := by omega
      subst e
      refine ⟨_, rfl, _, rfl, _, _, rfl, rfl, (show 0 < p by omega), ?_⟩
      exact q _ H' sm (nm_mod (by omega)) tn.late
def sp_check_pair : Sp := fun vs H Q _ => ∃ p a b, vs = [.int p, .int a, .int b] ∧ Pr p ∧ Nm p a ∧ Nm p b ∧ Q .non H
theorem D_check_pair (T : Tx K mg) : Ow.Df P w K mg base CX0 5 "check_pair" s_check_pair ["prime", "one", "other"] (sp_check_pair) := by
  refine Ow.df_of T.f_check_pair sc_check_pair bd_check_pair (fun vs H Q E h => ?_) (fun cdv A outer s H vs Q E f hG hR h => ?_)
  · obtain ⟨_, _, _, rfl, _⟩ := h
    rfl
  · obtain ⟨p, a, b, rfl, hp, ha, hb, q⟩ := h
    have hu := hR.units
    have hu1 := hu_of hR
    refine ⟨_, (pss_cons (ps_expr (Ow.pe_d (D_check_prime T) hR (by decide) hG pass0 (by rfl) (pa_cons (pv 0) pa_nil)))
      (pss_cons (ps_expr (Ow.pe_d (D_check_number T) hR (by decide) hG pass0 (by rfl) (pa_cons (pv 0) (pa_cons (pv 1) pa_nil))))
      (pss_one (ps_expr (Ow.pe_d (D_check_number T) hR (by decide) hG pass0 (by rfl) (pa_cons (pv 0) (pa_cons (pv 2) pa_nil))))))), ?_⟩
    exact ⟨_, rfl, p, rfl, hp, _, rfl, _, rfl, p, a, rfl, ha, _, rfl, _, rfl, p, b, rfl, hb, q⟩
def sp_rest : Sp := fun vs H Q _ => ∃ p n, vs = [.int p, .int n] ∧ Pr p ∧ Q (.int (n % p)) H
/-- two numbers and what is made of them -/
def sp_two (f : Int → Int → Int → Int) : Sp := fun vs H Q _ => ∃ p a b, vs = [.int p, .int a, .int b] ∧ Pr p ∧ Nm p a ∧ Nm p b ∧ Q (.int (f p a b)) H
theorem D_times (T : Tx K mg) : Ow.Df P w K mg base CX0 6 "times" s_times ["prime", "one", "other"] (sp_two fun p a b => a * b % p) := by
  refine Ow.df_of T.f_times sc_times bd_times (fun vs H Q E h => ?_) (fun cdv A outer s H vs Q E f hG hR h => ?_)
  · obtain ⟨_, _, _, rfl, _⟩ := h
    rfl
  · obtain ⟨p, a, b, rfl, hp, ha, hb, q⟩ := h
    have hu := hR.units
    have hu1 := hu_of hR
    refine ⟨_, (pss_cons (ps_expr (Ow.pe_d (D_check_pair T) hR (by decide) hG pass0 (by rfl) (pa_cons (pv 0) (pa_cons (pv 1) (pa_cons (pv 2) pa_nil)))))
      (pss_one (ps_ret (pe_op op_mod (pe_op op_mul (pv 1) (pv 2)) (pv 0))))), ?_⟩
    have lo := hp.lo
    have hi := hp.hi
    exact ⟨_, rfl, _, rfl, _, rfl, p, a, b, rfl, hp, ha, hb, _, rfl, _, rfl, _, _, rfl, rfl, .inl ⟨by have := ha.1; omega, by have := ha.2; omega⟩, _, rfl, _, _, rfl, rfl, (show 0 < p by omega), q⟩
def sp_over : Sp := fun vs H Q _ => ∃ p a b, vs = [.int p, .int a, .int b] ∧ Pr p ∧ Nm p a ∧ Nm p b ∧ 0 < b ∧ ∀ r H', Same H H' → Nm p r → Cg p (r * b) 1 → Q (.int (a * r % p)) H'
theorem D_back (T : Tx K mg) : Ow.Df P w K mg base CX0 5 "back" s_back ["prime", "one"] (sp_back_of) := by
  refine Ow.df_of T.f_back sc_back bd_back (fun vs H Q E h => ?_) (fun cdv A outer s H vs Q E f hG hR h => ?_)
  · obtain ⟨_, _, rfl, _⟩ := h
    rfl
  · obtain ⟨p, a, rfl, hp, a0, a1, q⟩ := h
    have hu := hR.units
    have hu1 := hu_of hR
    refine ⟨_, (pss_cons (ps_expr (Ow.pe_d (D_check_prime T) hR (by decide) hG pass0 (by rfl) (pa_cons (pv 0) pa_nil)))
      (pss_cons (ps_expr (Ow.pe_d (D_check_number T) hR (by decide) hG pass0 (by rfl) (pa_cons (pv 0) (pa_cons (pv 1) pa_nil))))
      (pss_cons (ps_if (pt_cmpR op_eq (pv 1) pe_int (nomark _))
      (pss_one ps_never)
      pss_nil)
      (pss_one (ps_ret (Ow.pe_d (D_back_of T) hR (by decide) hG pass0 (by rfl) (pa_cons (pv 0) (pa_cons (pv 1) pa_nil)))))))), ?_⟩
    refine ⟨_, rfl, p, rfl, hp, _, rfl, _, rfl, p, a, rfl, ⟨by omega, a1⟩, _, rfl, rfl, _, rfl, ite2 (fun z => ?_) (fun z => ?_)⟩
    · have z : a = 0 := V.int.inj (of_decide_eq_true z)
      omega
    · exact ⟨_, rfl, _, rfl, p, a, rfl, hp, a0, a1, q⟩
def sp_power : Sp := fun vs H Q _ => ∃ p a m, vs = [.int p, .int a, .int m] ∧ Pr p ∧ Nm p a ∧ -1000000 ≤ m ∧ m ≤ 1000000 ∧ (m < 0 → 0 < a) ∧ ∀ r H', Same H H' → PowIs p a m r → Q (.int r) H'
theorem D_power (T : Tx K mg) : Ow.Df P w K mg base CX0 5 "power" s_power ["prime", "one", "many"] (sp_power) := by
  refine Ow.df_of T.f_power sc_power bd_power (fun vs H Q E h => ?_) (fun cdv A outer s H vs Q E f hG hR h => ?_)
  · obtain ⟨_, _, _, rfl, _⟩ := h
    rfl
  · obtain ⟨p, a, m, rfl, hp, ha, m0, m1, hm, q⟩ := h
    have hu := hR.units
    have hu1 := hu_of hR
    refine ⟨_, (pss_cons (ps_expr (Ow.pe_d (D_check_prime T) hR (by decide) hG pass0 (by rfl) (pa_cons (pv 0) pa_nil)))
      (pss_cons (ps_expr (Ow.pe_d (D_check_number T) hR (by decide) hG pass0 (by rfl) (pa_cons (pv 0) (pa_cons (pv 1) pa_nil))))
      (pss_cons (ps_if (pt_not (pt_val (Ow.pe_d (D_is_within T) hR (by decide) hG pass0 (by rfl) (pa_cons (pv 2) (pa_cons (pe_op op_sub pe_int (Ow.pe_gi rfl T.c_MOST_EXPONENT)) (pa_cons (Ow.pe_gi rfl T.c_MOST_EXPONENT) pa_nil))))))
      (pss_one ps_never)
      pss_nil)
      (pss_cons (ps_if (pt_cmpR op_ge (pv 2) pe_int (nomark _))
      (pss_one (ps_ret (Ow.pe_d (D_powered T) hR (by decide) hG pass0 (by rfl) (pa_cons (pv 0) (pa_cons (pv 1) (pa_cons (pv 2) pa_nil))))))
      pss_nil)
      (pss_cons (ps_if (pt_cmpR op_eq (pv 1) pe_int (nomark _))
      (pss_one ps_never)
      pss_nil)
      (pss_one (ps_ret (Ow.pe_d (D_back_of T) hR (by decide) hG pass0 (by rfl) (pa_cons (pv 0) (pa_cons (Ow.pe_d (D_powered T) hR (by decide) hG pass0 (by rfl) (pa_cons (pv 0) (pa_cons (pv 1) (pa_cons (pe_op op_sub pe_int (pv 2)) pa_nil)))) pa_nil)))))))))), ?_⟩
    have lo := hp.lo
    have hi := hp.hi
    have e : within (.int m) (0 - 1000000) 1000000 = true := by
      have e : within (.int m) (0 - 1000000) 1000000 = (decide (0 - 1000000 ≤ m) && decide (m ≤ 1000000)) := rfl
      rw [e, decide_eq_true (by omega), decide_eq_true m1]
      rfl
    refine ⟨_, rfl, p, rfl, hp, _, rfl, _, rfl, p, a, rfl, ha, _, rfl, _, _, rfl, rfl, .int m, true, _, _, rfl, .int m, _, rfl, ?_⟩
    rw [e]
    refine iteF ?_
    refine ⟨_, rfl, _, _, rfl, rfl, _, rfl, ite2 (fun c => ?_) (fun c => ?_)⟩
    · have c : 0 ≤ m := of_decide_eq_true c
      refine ⟨_, rfl, _, rfl, _, rfl, p, a, m, rfl, by omega, by omega, ha, c, fun r H' sm hr hc => ?_⟩
      exact q r H' sm ⟨hr, fun _ => hc, fun z => by omega⟩
    · have c : ¬ 0 ≤ m := fun z => c (decide_eq_true z)
      have a0 := hm (by omega)
      refine ⟨_, rfl, rfl, _, rfl, ite2 (fun z => ?_) (fun z => ?_)⟩
      · have z : a = 0 := V.int.inj (of_decide_eq_true z)
        omega
      · refine ⟨_, rfl, _, rfl, _, rfl, _, rfl, _, _, rfl, rfl, p, a, 0 - m, rfl, by omega, by omega, ha, by omega, fun r H' sm hr hc => ?_⟩
        have r0 : r ≠ 0 := fun z => by
          have e := hc.emod
          rw [z, Int.zero_emod] at e
          exact pow_ne hp a0 ha.2 _ e.symm
        refine ⟨p, r, rfl, hp, by have := hr.1; omega, hr.2, fun s H2 sm2 hs hd => ?_⟩
        refine q s H2 (sm.trans sm2) ⟨hs, fun z => by omega, fun _ => ?_⟩
        have e2 : (-m).toNat = (0 - m).toNat := by omega
        rw [e2]
        exact (((Cg.refl p s).mul hc).symm).trans hd
end

end Eqr
namespace Eqr
open PySem PySem.Spec L2
/-! ### the pot: two numbers, the second one below 2 ^ 32 -/
def PotAt (H : Hp) (a : Addr) : Prop := ∃ x y : Int, H a = some (.lst [.int x, .int y]) ∧ 0 ≤ x ∧ 0 ≤ y ∧ y < 4294967296
/-- nothing known has changed but the pot -/
structure Stp (a : Addr) (H H' : Hp) : Prop where
  kp : ∀ b o, b ≠ a → H b = some o → H' b = some o
  pot : PotAt H' a
theorem Stp.refl {a : Addr} {H : Hp} (h : PotAt H a) : Stp a H H := ⟨fun _ _ _ e => e, h⟩
theorem Stp.trans {a : Addr} {H H1 H2 : Hp} (h : Stp a H H1) (g : Stp a H1 H2) : Stp a H H2 := ⟨fun b o n e => g.kp b o n (h.kp b o n e), g.pot⟩
theorem PotAt.same {a : Addr} {H H' : Hp} (h : PotAt H a) (s : Same H H') : PotAt H' a := by
  obtain ⟨x, y, e, r⟩ := h
  exact ⟨x, y, s _ _ e, r⟩
theorem Stp.same {a : Addr} {H H1 H2 : Hp} (h : Stp a H H1) (s : Same H1 H2) : Stp a H H2 := ⟨fun b o n e => s _ _ (h.kp b o n e), h.pot.same s⟩
theorem Stp.of {a : Addr} {H H1 : Hp} (h : PotAt H a) (s : Same H H1) : Stp a H H1 := (Stp.refl h).same s
theorem PotAt.some {a : Addr} {H : Hp} (h : PotAt H a) : H a ≠ none := by
  obtain ⟨x, y, e, _⟩ := h
  rw [e]
  intro z
  cases z
theorem PotAt.ne {a p : Addr} {H : Hp} (h : PotAt H a) (hp : H p = none) : p ≠ a := fun e => h.some (e ▸ hp)
section
variable {P : Program} {w : World} {K : PySem.W.Frag} {mg : Str → Option Value} {base : Heap}
def sp_law_pot (K : PySem.W.Frag) : Sp := fun vs H Q _ => ∃ a k ns, vs = [.ref a, .int k] ∧ SqL K H a (List.map V.int ns) ∧ 0 ≤ k ∧ ∀ H' p, Same H H' → H p = none → PotAt H' p → Q (.ref p) H'
theorem D_law_pot (T : Tx K mg) : Ow.Df P w K mg base CX0 1 "_law_pot" s_law_pot ["script", "k"] (sp_law_pot K) := by
  refine Ow.df_of T.f_law_pot sc_law_pot bd_law_pot (fun vs H Q E h => ?_) (fun cdv A outer s H vs Q E f hG hR h => ?_)
  · obtain ⟨_, _, _, rfl, _⟩ := h
    rfl
  · obtain ⟨a, k, ns, rfl, hS, hk, q⟩ := h
    have hu := hR.units
    have hu1 := hu_of hR
    refine ⟨_, (pss_cons (ps_set (i := 2) sc_law_pot.nd rfl (Or.inl rfl) (pe_ifExp (pt_cmpR op_lt (pv 1) (pe_callB call_len_seq (by rfl) T.b_len (by decide +kernel) (pa_cons (pv 0) pa_nil)) (nomark _)) (pe_callB call_abs (by rfl) T.b_abs (by decide +kernel) (pa_cons (pe_ix ix_list (pv 0) (pv 1) (fun _ _ => rfl)) pa_nil)) (pe_op op_add (pe_op op_mul pe_int (pv 1)) pe_int)))
      (pss_one (ps_ret (pe_lst (pa_cons (pe_callB (call_max2 rfl) (by rfl) T.b_max (by decide +kernel) (pa_cons pe_int (pa_cons (pe_op op_sub (pv 2) (pe_op op_pow pe_int pe_int)) pa_nil))) (pa_cons (pe_op op_add (pe_op op_mod (pe_callTy Ow.call_int (by rfl) T.b_int (by decide +kernel) (pa_cons (pe_op op_add (pe_op op_add (pe_op op_mul (pe_op op_mod (pe_callTy Ow.call_int (by rfl) T.b_int (by decide +kernel) (pa_cons (pv 2) pa_nil)) pe_int) pe_int) (pe_op op_mul pe_int (pv 1))) pe_int) pa_nil)) pe_int) pe_int) pa_nil)))))), ?_⟩
    have fin : ∀ x y : Int, 0 ≤ x → 0 ≤ y → y < 4294967296 → [V.int x, V.int y].length ≤ sizeLine ∧ ∀ p, H p = none → Q (.ref p) (upd H p (.lst [.int x, .int y])) :=
      fun x y x0 y0 y1 => ⟨(by show 2 ≤ sizeLine; decide), fun p hp => q _ p (same_new hp) hp ⟨x, y, upd_same, x0, y0, y1⟩⟩
    refine ⟨_, rfl, _, rfl, a, _, rfl, .inl hS, _, _, rfl, rfl, _, rfl, ?_⟩
    refine ite2 (fun c => ?_) (fun c => ?_)
    · have c : k < ((List.map V.int ns).length : Int) := of_decide_eq_true c
      rw [List.length_map] at c
      have g : (List.map V.int ns)[k.toNat]? = some (.int ns[k.toNat]) := by
        rw [List.getElem?_map, List.getElem?_eq_getElem (by omega)]
        rfl
      refine ⟨_, rfl, _, rfl, a, _, k, _, rfl, rfl, hS, at_of (by omega) g, _, rfl, ?_⟩
      generalize (if ns[k.toNat] < 0 then -ns[k.toNat] else ns[k.toNat]) = c
      refine ⟨_, rfl, _, _, rfl, rfl, ⟨by decide, by decide, by decide⟩, _, _, rfl, rfl, _, _, rfl, _, rfl, _, rfl, _, _, rfl, rfl, (by show (0 : Int) < _; omega), _, _, rfl, rfl, (by first | exact .inl ⟨by omega, by omega⟩ | exact .inr ⟨by omega, by omega⟩), _, rfl, _, _, rfl, rfl, (by first | exact .inl ⟨by omega, by omega⟩ | exact .inr ⟨by omega, by omega⟩), _, _, rfl, rfl, _, _, rfl, rfl, _, rfl, _, _, rfl, rfl, (by show (0 : Int) < _; omega), _, _, rfl, rfl, fin _ _ ?_ ?_ ?_⟩
      · split <;> omega
      · have := Int.emod_nonneg (c % 2147483549 * 40014 + 6121 * k + 4133) (show (2147483563 : Int) ≠ 0 by decide)
        omega
      · have := Int.emod_lt_of_pos (c % 2147483549 * 40014 + 6121 * k + 4133) (show (0 : Int) < 2147483563 by decide)
        omega
    · refine ⟨_, rfl, _, _, rfl, rfl, (by first | exact .inl ⟨by omega, by omega⟩ | exact .inr ⟨by omega, by omega⟩), _, _, rfl, rfl, ?_⟩
      generalize 6121 * k + 3617 = c
      refine ⟨_, rfl, _, _, rfl, rfl, ⟨by decide, by decide, by decide⟩, _, _, rfl, rfl, _, _, rfl, _, rfl, _, rfl, _, _, rfl, rfl, (by show (0 : Int) < _; omega), _, _, rfl, rfl, (by first | exact .inl ⟨by omega, by omega⟩ | exact .inr ⟨by omega, by omega⟩), _, rfl, _, _, rfl, rfl, (by first | exact .inl ⟨by omega, by omega⟩ | exact .inr ⟨by omega, by omega⟩), _, _, rfl, rfl, _, _, rfl, rfl, _, rfl, _, _, rfl, rfl, (by show (0 : Int) < _; omega), _, _, rfl, rfl, fin _ _ ?_ ?_ ?_⟩
      · split <;> omega
      · have := Int.emod_nonneg (c % 2147483549 * 40014 + 6121 * k + 4133) (show (2147483563 : Int) ≠ 0 by decide)
        omega
      · have := Int.emod_lt_of_pos (c % 2147483549 * 40014 + 6121 * k + 4133) (show (0 : Int) < 2147483563 by decide)
        omega
def sp_law_draw : Sp := fun vs H Q _ => ∃ a m, vs = [.ref a, .int m] ∧ PotAt H a ∧ 0 < m ∧ m < 2 ^ 200 ∧ ∀ d H', Stp a H H' → 0 ≤ d → d < m → Q (.int d) H'
theorem div_big {i j : Int} (h : 0 < j) (h2 : j < 2 ^ 200) : CDivP i j := ⟨h, PyProof.noPylong_of_log2 (by
  have e : j.natAbs < 2 ^ 200 := by omega
  have := (Nat.log2_lt (by omega : j.natAbs ≠ 0)).mpr e
  omega)⟩
theorem stp_put {a : Addr} {H H' : Hp} {x y : Int} (s : ∀ b o, b ≠ a → H b = some o → H' b = some o) (x0 : 0 ≤ x) (y0 : 0 ≤ y) (y1 : y < 4294967296) : Stp a H (upd H' a (.lst [.int x, .int y])) :=
  ⟨fun b o n e => by rw [upd_ne n]; exact s b o n e, x, y, upd_same, x0, y0, y1⟩
theorem D_law_draw (T : Tx K mg) : Ow.Df P w K mg base CX0 1 "_law_draw" s_law_draw ["pot", "many"] (sp_law_draw) := by
  refine Ow.df_of T.f_law_draw sc_law_draw bd_law_draw (fun vs H Q E h => ?_) (fun cdv A outer s H vs Q E f hG hR h => ?_)
  · obtain ⟨_, _, rfl, _⟩ := h
    rfl
  · obtain ⟨a, m, rfl, hp, m0, m1, q⟩ := h
    have hu := hR.units
    have hu1 := hu_of hR
    refine ⟨_, (pss_cons (ps_if (pt_cmpR op_gt (pe_ix ix_list (pv 0) pe_int (fun _ _ => rfl)) pe_int (nomark _))
      (pss_cons (ps_asg (pe_callB call_divmodW (by rfl) T.b_divmod (by decide +kernel) (pa_cons (pe_ix ix_list (pv 0) pe_int (fun _ _ => rfl)) (pa_cons (pv 1) pa_nil))) (pg_tup rfl (pgs_cons (pg_sub (pv 0) pe_int set_list) (pgs_cons (pg_name (i := 2) sc_law_draw.nd rfl (Or.inl rfl)) pgs_nil))))
        (pss_one (ps_ret (pv 2))))
      pss_nil)
      (pss_cons (ps_asg (pe_op op_mod (pe_callTy Ow.call_int (by rfl) T.b_int (by decide +kernel) (pa_cons (pe_op op_add (pe_op op_mul (pe_ix ix_list (pv 0) pe_int (fun _ _ => rfl)) pe_int) pe_int) pa_nil)) pe_int) (pg_sub (pv 0) pe_int set_list))
      (pss_one (ps_ret (pe_op op_mod (pe_callTy Ow.call_int (by rfl) T.b_int (by decide +kernel) (pa_cons (pe_op Ow.op_div (pe_op op_mod (pe_callTy Ow.call_int (by rfl) T.b_int (by decide +kernel) (pa_cons (pe_op op_mul (pe_ix ix_list (pv 0) pe_int (fun _ _ => rfl)) (pe_ix ix_list (pv 0) pe_int (fun _ _ => rfl))) pa_nil)) pe_int) pe_int) pa_nil)) (pv 1)))))), ?_⟩
    obtain ⟨x, y, e, x0, y0, y1⟩ := hp
    refine ⟨_, rfl, a, _, 0, .int x, rfl, rfl, .of e, rfl, _, _, rfl, rfl, _, rfl, ?_⟩
    refine ite2 (fun c => ?_) (fun c => ?_)
    · have c : 0 < x := of_decide_eq_true c
      refine ⟨_, rfl, a, _, 0, .int x, rfl, rfl, .of e, rfl, _, rfl, _, _, rfl, div_big m0 m1, fun t ht => ?_⟩
      have ne : a ≠ t := ne_of_none e ht
      refine ⟨t, _, rfl, .inl (.inl upd_same), rfl, _, _, rfl, _, rfl, a, _, 0, 0, rfl, rfl, (upd_ne ne).trans e, rfl, ?_⟩
      refine ⟨_, _, rfl, rfl, _, rfl, ?_⟩
      have s := same_new (o := .tup [.int (x / m), .int (x % m)]) ht
      exact q _ _ (stp_put (fun b o _ e => s b o e) (Int.ediv_nonneg (by omega) (by omega)) y0 y1) (Int.emod_nonneg _ (by omega)) (Int.emod_lt_of_pos _ m0)
    · refine ⟨_, rfl, a, _, 1, .int y, rfl, rfl, .of e, rfl, _, _, rfl, rfl, .inl ⟨by omega, by omega⟩, _, _, rfl, rfl, _, rfl, _, _, rfl, rfl, (by show (0 : Int) < _; omega), ?_⟩
      have z0 := Int.emod_nonneg (y * 40692 + 4133) (show (2147483587 : Int) ≠ 0 by decide)
      have z1 := Int.emod_lt_of_pos (y * 40692 + 4133) (show (0 : Int) < 2147483587 by decide)
      refine ⟨_, rfl, a, _, 1, 1, rfl, rfl, e, rfl, ?_⟩
      have e2 : (upd H a (.lst [.int x, .int ((y * 40692 + 4133) % 2147483587)])) a = some (.lst [.int x, .int ((y * 40692 + 4133) % 2147483587)]) := upd_same
      refine ⟨_, rfl, a, _, 1, _, rfl, rfl, .of e2, rfl, _, rfl, a, _, 1, _, rfl, rfl, .of e2, rfl, _, _, rfl, rfl, .inl ⟨by omega, by omega⟩, _, rfl, _, _, rfl, rfl, (by show (0 : Int) < _; omega), _, _, rfl, rfl, ⟨by omega, by omega⟩, _, rfl, _, rfl, _, _, rfl, rfl, m0, ?_⟩
      exact q _ _ (stp_put (fun b o _ e => e) x0 z0 (by omega)) (Int.emod_nonneg _ (by omega)) (Int.emod_lt_of_pos _ m0)
def sp_law_pick : Sp := fun vs H Q _ => ∃ a l xs, vs = [.ref a, .ref l] ∧ PotAt H a ∧ H l = some (.lst xs) ∧ l ≠ a ∧ 0 < xs.length ∧ xs.length < 1000 ∧ ∀ v H', Stp a H H' → v ∈ xs → Q v H'
theorem D_law_pick (T : Tx K mg) : Ow.Df P w K mg base CX0 2 "_law_pick" s_law_pick ["pot", "some"] (sp_law_pick) := by
  refine Ow.df_of T.f_law_pick sc_law_pick bd_law_pick (fun vs H Q E h => ?_) (fun cdv A outer s H vs Q E f hG hR h => ?_)
  · obtain ⟨_, _, _, rfl, _⟩ := h
    rfl
  · obtain ⟨a, l, xs, rfl, hp, hl, ne, x0, x1, q⟩ := h
    have hu := hR.units
    have hu1 := hu_of hR
    refine ⟨_, (pss_one (ps_ret (pe_ix ix_list (pv 1) (Ow.pe_d (D_law_draw T) hR (by decide) hG pass0 (by rfl) (pa_cons (pv 0) (pa_cons (pe_callB call_len_seq (by rfl) T.b_len (by decide +kernel) (pa_cons (pv 1) pa_nil)) pa_nil))) (fun _ _ => rfl)))), ?_⟩
    refine ⟨_, rfl, _, rfl, _, rfl, l, xs, rfl, .inl (.of hl), a, _, rfl, hp, by omega, by omega, fun d H' s d0 d1 => ?_⟩
    have g : xs[d.toNat]? = some xs[d.toNat] := List.getElem?_eq_getElem (by omega)
    exact ⟨l, xs, d, _, rfl, rfl, .of (s.kp _ _ ne hl), at_of (by omega) g, q _ _ s (List.getElem_mem _)⟩
end

end Eqr
namespace Eqr
open PySem PySem.Spec L2
/-! ### comprehensions without a test -/
def Gives (te : TE) (σ : L2.St) (H : Hp) (S : Hp → Hp → Prop) (R : V → Prop) : Prop := ∀ Q : VK, (∀ v H', S H H' → R v → Q v H') → te σ H Q
/-- what a comprehension's turns may do -/
structure Fair (S : Hp → Hp → Prop) (H1 : Hp) (D : Addr) : Prop where
  tr : ∀ {H H'}, S H1 H → S H H' → S H1 H'
  up : ∀ {H H' : Hp} {o : HO}, S H H' → H D = some o → H' D = some o
  put : ∀ {H : Hp} (o : HO), S H1 H → S H1 (upd H D o)
  nw : ∀ (o : HO), S H1 (upd H1 D o)
theorem Fair.same {H1 : Hp} {D : Addr} (h : H1 D = none) : Fair Same H1 D where
  tr := fun a b => a.trans b
  up := fun a e => a _ _ e
  put := fun o a b u e => by rw [upd_ne (ne_of_none e h)]; exact a b u e
  nw := fun o => same_new h
theorem Fair.pot {H1 : Hp} {D a : Addr} (h : H1 D = none) (hp : PotAt H1 a) : Fair (Stp a) H1 D where
  tr := fun x y => x.trans y
  up := fun x e => x.kp _ _ (hp.ne h) e
  put := fun o x => ⟨fun b u n e => by rw [upd_ne (ne_of_none e h)]; exact x.kp b u n e, by
    obtain ⟨u, v, e, r⟩ := x.pot
    exact ⟨u, v, by rw [upd_ne (hp.ne h).symm]; exact e, r⟩⟩
  nw := fun o => .of hp (same_new h)
section
variable {lo : Int} {n j : Nat} {te : TE} {vs : List Nat} {σ : L2.St} {H1 : Hp} {D : Addr} {Qd : Hp → Prop} {S : Hp → Hp → Prop}
theorem take_turn {Hc : Hp} {i : Nat} {y : V} {R : Nat → V → Prop} {acc : List V} (F : Fair S H1 D) (hs : S H1 Hc) (hd : Hc D = some (.lst acc)) (hl : acc.length = i) (ha : ∀ k v, acc[k]? = some v → R k v) (hy : R i y) :
    S H1 (upd Hc D (.lst (acc ++ [y]))) ∧ ∃ acc', (upd Hc D (.lst (acc ++ [y]))) D = some (.lst acc') ∧ acc'.length = i + 1 ∧ ∀ k v, acc'[k]? = some v → R k v := by
  refine ⟨F.put _ hs, acc ++ [y], upd_same, by simp [hl], fun k v e => ?_⟩
  rcases Nat.lt_or_ge k acc.length with z | z
  · rw [List.getElem?_append_left z] at e
    exact ha k v e
  · rw [List.getElem?_append_right z] at e
    have z2 : k - acc.length = 0 := by
      rcases Nat.eq_zero_or_pos (k - acc.length) with q | q
      · exact q
      · rw [List.getElem?_eq_none (by simp; omega)] at e
        cases e
    rw [z2] at e
    have e2 : y = v := Option.some.inj e
    have e3 : k = i := by omega
    rw [← e2, e3]
    exact hy
theorem comp_range (R : Nat → V → Prop) (F : Fair S H1 D) (hn : n < 1000) (hw : ∀ x, wipe ((wipe σ vs).set j (some x)) vs = wipe σ vs)
    (he : ∀ (i : Nat) H', i < n → S H1 H' → Gives te ((wipe σ vs).set j (some (.int (lo + i)))) H' S (R i))
    (hq : ∀ xs H', xs.length = n → (∀ k v, xs[k]? = some v → R k v) → S H1 H' → H' D = some (.lst xs) → Qd H') :
    ∃ W : Nat → Nat → Hp → Prop, (∃ m, W 0 m (upd H1 D (.lst []))) ∧ ∀ i m H, W i m H →
      ((Itr lo n).stop i H ∧ Qd H) ∨ ((Itr lo n).go i H ∧ ∃ Nx : Hp → Prop, (∀ H', Nx H' → ∃ m', m' < m ∧ W (i + 1) m' H') ∧ ∀ x H', (Itr lo n).yld i H x H' → gName j x (wipe σ vs) H' fun σ2 H2 => wipe σ2 vs = wipe σ vs ∧ tYes σ2 H2 fun b H3 =>
        if b = true then te σ2 H3 fun y H4 => ∃ acc, H4 D = some (.lst acc) ∧ acc.length < sizeLine ∧ Nx (upd H4 D (.lst (acc ++ [y]))) else Nx H3) := by
  refine lc_range (fun i H' => S H1 H' ∧ ∃ acc, H' D = some (.lst acc) ∧ acc.length = i ∧ ∀ k v, acc[k]? = some v → R k v) ⟨F.nw _, [], upd_same, rfl, fun k v e => by simp at e⟩ ?_ ?_
  · rintro i H' hi ⟨s, acc, e, hl, ha⟩
    refine ⟨hw _, iteT (B := S H1 H' ∧ ∃ acc, H' D = some (.lst acc) ∧ acc.length = i + 1 ∧ ∀ k v, acc[k]? = some v → R k v) (he i H' hi s _ fun v H2 s2 r => ⟨acc, F.up s2 e, small1000 (by omega), ?_⟩)⟩
    exact take_turn F (F.tr s s2) (F.up s2 e) hl ha r
  · rintro H' ⟨s, acc, e, hl, ha⟩
    exact hq acc H' hl ha s e
theorem comp_list {K : PySem.W.Frag} {a : Addr} {xs : List V} (R : Nat → V → Prop) (F : Fair S H1 D) (hn : xs.length < 1000) (hw : ∀ x, wipe ((wipe σ vs).set j (some x)) vs = wipe σ vs)
    (hl : ∀ H', S H1 H' → SqL K H' a xs)
    (he : ∀ (i : Nat) x H', xs[i]? = some x → S H1 H' → Gives te ((wipe σ vs).set j (some x)) H' S (R i))
    (hq : ∀ ys H', ys.length = xs.length → (∀ k v, ys[k]? = some v → R k v) → S H1 H' → H' D = some (.lst ys) → Qd H') :
    ∃ W : Nat → Nat → Hp → Prop, (∃ m, W 0 m (upd H1 D (.lst []))) ∧ ∀ i m H, W i m H →
      ((Itl K a).stop i H ∧ Qd H) ∨ ((Itl K a).go i H ∧ ∃ Nx : Hp → Prop, (∀ H', Nx H' → ∃ m', m' < m ∧ W (i + 1) m' H') ∧ ∀ x H', (Itl K a).yld i H x H' → gName j x (wipe σ vs) H' fun σ2 H2 => wipe σ2 vs = wipe σ vs ∧ tYes σ2 H2 fun b H3 =>
        if b = true then te σ2 H3 fun y H4 => ∃ acc, H4 D = some (.lst acc) ∧ acc.length < sizeLine ∧ Nx (upd H4 D (.lst (acc ++ [y]))) else Nx H3) := by
  refine lc_list (xs := xs) (fun i H' => S H1 H' ∧ ∃ acc, H' D = some (.lst acc) ∧ acc.length = i ∧ ∀ k v, acc[k]? = some v → R k v) ⟨F.nw _, [], upd_same, rfl, fun k v e => by simp at e⟩ (fun i H' _ p => hl H' p.1) ?_ ?_
  · rintro i x H' hi ⟨s, acc, e, hl2, ha⟩
    have := (List.getElem?_eq_some_iff.mp hi).1
    refine ⟨hw _, iteT (B := S H1 H' ∧ ∃ acc, H' D = some (.lst acc) ∧ acc.length = i + 1 ∧ ∀ k v, acc[k]? = some v → R k v) (he i x H' hi s _ fun v H2 s2 r => ⟨acc, F.up s2 e, small1000 (by omega), ?_⟩)⟩
    exact take_turn F (F.tr s s2) (F.up s2 e) hl2 ha r
  · rintro H' ⟨s, acc, e, hl2, ha⟩
    exact hq acc H' hl2 ha s e
end
theorem list_map_of {ys : List V} {α : Type} {f : α → V} {zs : List α} (hl : ys.length = zs.length) (h : ∀ (k : Nat) v z, ys[k]? = some v → zs[k]? = some z → v = f z) : ys = zs.map f := by
  refine List.ext_getElem? fun k => ?_
  rw [List.getElem?_map]
  cases e : zs[k]? with
  | none =>
    rw [List.getElem?_eq_none_iff] at e
    rw [List.getElem?_eq_none (by omega)]
    rfl
  | some z =>
    have : k < ys.length := by
      have := (List.getElem?_eq_some_iff.mp e).1
      omega
    rw [List.getElem?_eq_getElem this]
    exact congrArg some (h k _ z (List.getElem?_eq_getElem this) e)
theorem fresh_of {H X : Hp} {p : Addr} {o : HO} (h : H p = none) (e : upd H p o = X) : Same H X ∧ X p = some o := by
  subst e
  exact ⟨same_new h, upd_same⟩
theorem IsV.mono {H H' : Hp} {v : V} {b : Bool} (h : IsV H v b) (s : Same H H') : IsV H' v b := by
  cases h with
  | int i => exact .int i
  | non => exact .non
  | bl b => exact .bl b
  | str x => exact .str x
  | lst h => exact .lst (s _ _ h)
  | tup h => exact .tup (s _ _ h)
theorem two_bools (x : Bool) : (PyData.list [.bool x, .bool x]).hasDict = false ∧ (PyData.list [.bool x, .bool x]).showable = true ∧ (PyData.list [.bool x, .bool x]).depth ≤ 60 ∧ (PyData.list [.bool x, .bool x]).shown.length ≤ sizeLine := by
  cases x <;> exact ⟨by decide +kernel, by decide +kernel, by decide +kernel, by decide +kernel⟩

end Eqr
namespace Eqr
open PySem PySem.Spec L2
/-! ### where the next prime stands -/
def noDiv (n : Nat) : Nat → Nat → Bool
  | 0, _ => true
  | k + 1, d => cond (Nat.beq (n % d) 0) (Nat.ble n d) (noDiv n k (d + 1))
theorem noDiv_ok {n : Nat} : ∀ {k d : Nat}, noDiv n k d = true → ∀ c, d ≤ c → c < d + k → c < n → n % c ≠ 0
  | 0, d, _, c, h1, h2, _ => by omega
  | k + 1, d, h, c, h1, h2, h3 => by
    unfold noDiv at h
    cases e : Nat.beq (n % d) 0 with
    | true =>
      rw [e] at h
      have h : Nat.ble n d = true := h
      have := Nat.le_of_ble_eq_true h
      omega
    | false =>
      rw [e] at h
      have h : noDiv n k (d + 1) = true := h
      rcases Nat.lt_or_ge d c with z | z
      · exact noDiv_ok h c (by omega) (by omega) h3
      · have e2 : c = d := by omega
        rw [e2]
        exact Nat.ne_of_beq_eq_false e
def gaps : Nat → Nat → Bool
  | 0, _ => true
  | n + 1, d => cond (noDiv (n + 1) 98 2) (gaps n 0) (cond (Nat.ble 39 d) (Nat.ble (n + 1) 2) (gaps n (d + 1)))
theorem gaps_ok : ∀ (n d : Nat), gaps n d = true → (∃ j, j ≤ d ∧ n + 1 + d = n + 1 + j ∧ noDiv (n + 1 + d) 98 2 = true) → d ≤ 39 → ∀ f, 3 ≤ f → f ≤ n + 1 → ∃ j, j < 40 ∧ f + j ≤ n + 1 + d ∧ noDiv (f + j) 98 2 = true
  | 0, d, _, _, _, f, h1, h2 => by omega
  | n + 1, d, h, ⟨j, hj, he, hp⟩, hd, f, h1, h2 => by
    rcases Nat.lt_or_ge f (n + 2) with z | z
    · unfold gaps at h
      cases e : noDiv (n + 1) 98 2 with
      | true =>
        rw [e] at h
        obtain ⟨i, i1, i2, i3⟩ := gaps_ok n 0 h ⟨0, Nat.le_refl _, rfl, e⟩ (by omega) f h1 (by omega)
        exact ⟨i, i1, by omega, i3⟩
      | false =>
        rw [e] at h
        have h : cond (Nat.ble 39 d) (Nat.ble (n + 1) 2) (gaps n (d + 1)) = true := h
        cases e2 : Nat.ble 39 d with
        | true =>
          rw [e2] at h
          have := Nat.le_of_ble_eq_true (show Nat.ble (n + 1) 2 = true from h)
          omega
        | false =>
          rw [e2] at h
          have hd2 : ¬ 39 ≤ d := fun q => by rw [Nat.ble_eq_true_of_le q] at e2; cases e2
          have eq : n + 1 + (d + 1) = n + 1 + 1 + d := by omega
          obtain ⟨i, i1, i2, i3⟩ := gaps_ok n (d + 1) h ⟨d + 1, Nat.le_refl _, rfl, by rw [eq]; exact hp⟩ (by omega) f h1 (by omega)
          exact ⟨i, i1, by omega, i3⟩
    · have e : f = n + 2 := by omega
      refine ⟨d, by omega, by omega, ?_⟩
      have eq : f + d = n + 1 + 1 + d := by omega
      rw [eq]
      exact hp
set_option maxRecDepth 1000000 in
theorem gaps_9973 : gaps 9972 0 = true := by decide +kernel
theorem next_prime {f : Nat} (h1 : 3 ≤ f) (h2 : f ≤ 9973) : ∃ j, j < 40 ∧ f + j ≤ 9973 ∧ primeB ((f : Int) + (j : Int)) = true := by
  obtain ⟨j, j1, j2, j3⟩ := gaps_ok 9972 0 gaps_9973 ⟨0, Nat.le_refl _, rfl, by decide +kernel⟩ (by omega) f h1 (by omega)
  refine ⟨j, j1, by omega, primeB_of (by omega) fun d d1 d2 d3 e => ?_⟩
  refine noDiv_ok j3 d.toNat (by omega) (by omega) (by omega) ?_
  have e1 : (((f + j) % d.toNat : Nat) : Int) = ((f : Int) + (j : Int)) % d := by
    rw [Int.natCast_emod, Int.natCast_add]
    congr 1
    omega
  rw [e] at e1
  omega

end Eqr
namespace Eqr
open PySem PySem.Spec L2
/-! ### a root for each prime up to 9973, found elsewhere, looked at by the kernel -/
def pw (p : Nat) : Nat → Nat → Nat → Nat → Nat
  | 0, _, _, acc => acc
  | k + 1, b, e, acc => cond (Nat.beq (e % 2) 1) (pw p k (b * b % p) (e / 2) (acc * b % p)) (pw p k (b * b % p) (e / 2) acc)
theorem pow_modN (x p : Nat) : ∀ n : Nat, (x % p) ^ n % p = x ^ n % p
  | 0 => by rw [Nat.pow_zero, Nat.pow_zero]
  | n + 1 => by
    rw [Nat.pow_succ, Nat.pow_succ, Nat.mul_mod, pow_modN x p n, Nat.mod_mod, ← Nat.mul_mod]
theorem pw_ok (p : Nat) : ∀ (k b e acc : Nat), e < 2 ^ k → acc % p = acc → pw p k b e acc = acc * b ^ e % p
  | 0, b, e, acc, h, ha => by
    have : e = 0 := by
      rw [Nat.pow_zero] at h
      omega
    subst this
    rw [Nat.pow_zero, Nat.mul_one, ha]
    rfl
  | k + 1, b, e, acc, h, ha => by
    have h2 : e / 2 < 2 ^ k := by
      rw [Nat.pow_succ] at h
      omega
    show cond (Nat.beq (e % 2) 1) (pw p k (b * b % p) (e / 2) (acc * b % p)) (pw p k (b * b % p) (e / 2) acc) = _
    have eb : ∀ m : Nat, (b * b % p) ^ m % p = b ^ (2 * m) % p := fun m => by
      rw [pow_modN, Nat.pow_mul, Nat.pow_succ, Nat.pow_one]
    cases c : Nat.beq (e % 2) 1 with
    | true =>
      have c2 : e % 2 = 1 := Nat.eq_of_beq_eq_true c
      show pw p k (b * b % p) (e / 2) (acc * b % p) = _
      rw [pw_ok p k _ _ _ h2 (Nat.mod_mod _ _), Nat.mul_mod, eb, Nat.mod_mod, ← Nat.mul_mod]
      have e3 : e = 2 * (e / 2) + 1 := by omega
      conv => rhs; rw [e3, Nat.pow_succ]
      congr 1
      rw [Nat.mul_assoc, Nat.mul_comm b]
    | false =>
      have c2 : e % 2 ≠ 1 := Nat.ne_of_beq_eq_false c
      show pw p k (b * b % p) (e / 2) acc = _
      rw [pw_ok p k _ _ _ h2 ha, Nat.mul_mod, eb, ← Nat.mul_mod]
      have e3 : e = 2 * (e / 2) := by omega
      conv => rhs; rw [e3]
def rootLook (p g : Nat) : Nat → Nat → Bool
  | 0, _ => true
  | k + 1, c => cond (Nat.beq ((p - 1) % c) 0)
      (cond (Nat.ble (p - 1) c) true (cond (Nat.beq (pw p 14 g c 1) 1) false true) && (cond (Nat.ble c 1) true (cond (Nat.beq (pw p 14 g ((p - 1) / c) 1) 1) false true) && rootLook p g k (c + 1)))
      (rootLook p g k (c + 1))
theorem rootLook_ok {p g : Nat} : ∀ {k c : Nat}, rootLook p g k c = true → ∀ d, c ≤ d → d < c + k → (p - 1) % d = 0 → (d < p - 1 → pw p 14 g d 1 ≠ 1) ∧ (2 ≤ d → pw p 14 g ((p - 1) / d) 1 ≠ 1)
  | 0, c, _, d, h1, h2, _ => by omega
  | k + 1, c, h, d, h1, h2, h3 => by
    have h : cond (Nat.beq ((p - 1) % c) 0)
      (cond (Nat.ble (p - 1) c) true (cond (Nat.beq (pw p 14 g c 1) 1) false true) && (cond (Nat.ble c 1) true (cond (Nat.beq (pw p 14 g ((p - 1) / c) 1) 1) false true) && rootLook p g k (c + 1)))
      (rootLook p g k (c + 1)) = true := h
    have tl : rootLook p g k (c + 1) = true := by
      cases z : Nat.beq ((p - 1) % c) 0 with
      | true =>
        rw [z] at h
        simp only [cond_true, Bool.and_eq_true] at h
        exact h.2.2
      | false =>
        rw [z] at h
        exact h
    rcases Nat.lt_or_ge c d with y | y
    · exact rootLook_ok tl d (by omega) (by omega) h3
    · have e : d = c := by omega
      subst e
      have z : Nat.beq ((p - 1) % d) 0 = true := by rw [h3]; rfl
      rw [z] at h
      simp only [cond_true, Bool.and_eq_true] at h
      refine ⟨fun lt e => ?_, fun ge e => ?_⟩
      · have f1 : Nat.ble (p - 1) d = false := by
          cases q : Nat.ble (p - 1) d with
          | false => rfl
          | true => have := Nat.le_of_ble_eq_true q; omega
        have a := h.1
        rw [f1, e] at a
        exact absurd a (by decide)
      · have f1 : Nat.ble d 1 = false := by
          cases q : Nat.ble d 1 with
          | false => rfl
          | true => have := Nat.le_of_ble_eq_true q; omega
        have a := h.2.1
        rw [f1, e] at a
        exact absurd a (by decide)
def rootAt (p g : Nat) : Bool := Nat.ble 1 g && (Nat.ble (g + 1) p && rootLook p g 99 1)
def rootsAll : Nat → Nat → Nat → Bool
  | 0, _, _ => true
  | k + 1, n, G => cond (noDiv n 98 2) (rootAt n (G % 32) && rootsAll k (n + 1) (G / 32)) (rootsAll k (n + 1) G)
theorem rootsAll_ok : ∀ (k n G : Nat), rootsAll k n G = true → ∀ m, n ≤ m → m < n + k → noDiv m 98 2 = true → ∃ g, rootAt m g = true
  | 0, n, G, _, m, h1, h2, _ => by omega
  | k + 1, n, G, h, m, h1, h2, h3 => by
    have h : cond (noDiv n 98 2) (rootAt n (G % 32) && rootsAll k (n + 1) (G / 32)) (rootsAll k (n + 1) G) = true := h
    rcases Nat.lt_or_ge n m with y | y
    · cases z : noDiv n 98 2 with
      | true =>
        rw [z] at h
        simp only [cond_true, Bool.and_eq_true] at h
        exact rootsAll_ok k (n + 1) _ h.2 m (by omega) (by omega) h3
      | false =>
        rw [z] at h
        exact rootsAll_ok k (n + 1) _ h m (by omega) (by omega) h3
    · have e : m = n := by omega
      subst e
      rw [h3] at h
      simp only [cond_true, Bool.and_eq_true] at h
      exact ⟨_, h.1⟩
set_option maxRecDepth 1000000 in
theorem roots_0 : rootsAll 1250 3 77524370747538285191828018252424493848363811657373300190107303826613589786208704631988776696961128358453075466031181466050896107606899349895224937141271242658905961191708374728041490565381521032141350144248994316792030836031164893002810639293481485393666417624328585742781454797726119800445790867328928834 = true := by decide +kernel
set_option maxRecDepth 1000000 in
theorem roots_1 : rootsAll 1250 1253 14736762440912366034979171442840117257164172603210461144226621643179561848982515204086197815146015583212993497769191034699511915049825114330587215949323886559445524332801092050158255397884759354864258044650610785924114465313578832319838108585026 = true := by decide +kernel
set_option maxRecDepth 1000000 in
theorem roots_2 : rootsAll 1250 2503 43878168537683827715473769665352468007038378509629297177058319196731488682875755122240956454616152337746567877699957000131996422439026225243828500746799872558494414085274700147534535457888726055051911461078302877773634390444599216675 = true := by decide +kernel
set_option maxRecDepth 1000000 in
theorem roots_3 : rootsAll 1250 3753 17838024250473807949757804266003866591832562110740133003134665090907986589208450980034280632614843631359466735654028969749401069992558712549675454723537148650348149577702501190642457845416588302100993409357680229104032931 = true := by decide +kernel
set_option maxRecDepth 1000000 in
theorem roots_4 : rootsAll 1250 5003 27285157427695349896870772756641860212970308944546295265427247054290450154425012229137192632659867413412180475899315882951031672595349259726670779679463500294064125820048582626382269186819364255205507669580311529570 = true := by decide +kernel
set_option maxRecDepth 1000000 in
theorem roots_5 : rootsAll 1250 6253 356981943054250081385043864297298464080000447296174416993134642388999907385216230247998740796107471633725181240798449087788418753809449301912456435844984927921538902659200493858499114856011675515830210496675 = true := by decide +kernel
set_option maxRecDepth 1000000 in
theorem roots_6 : rootsAll 1250 7503 10875051465494985609635660383508179780880885498605289788751083834273809560056578566777455171740652484770005376949282140665154275205787683923720883950117121772998007856228307846338045020238597423218858166209054786 = true := by decide +kernel
set_option maxRecDepth 1000000 in
theorem roots_7 : rootsAll 1221 8753 1781166932950555380814650639499957828326987945469982141132200189289426746020812533814311063946771942839839475027673700188468752182370885852306117525059483749744700928344904868290003488456502343459788481015523 = true := by decide +kernel
theorem roots_at : ∀ m, 3 ≤ m → m < 9974 → noDiv m 98 2 = true → ∃ g, rootAt m g = true := by
  intro m h1 h2 h3
  rcases Nat.lt_or_ge m 1253 with z | z
  · exact rootsAll_ok 1250 3 _ roots_0 m (by omega) (by omega) h3
  rcases Nat.lt_or_ge m 2503 with z | z
  · exact rootsAll_ok 1250 1253 _ roots_1 m (by omega) (by omega) h3
  rcases Nat.lt_or_ge m 3753 with z | z
  · exact rootsAll_ok 1250 2503 _ roots_2 m (by omega) (by omega) h3
  rcases Nat.lt_or_ge m 5003 with z | z
  · exact rootsAll_ok 1250 3753 _ roots_3 m (by omega) (by omega) h3
  rcases Nat.lt_or_ge m 6253 with z | z
  · exact rootsAll_ok 1250 5003 _ roots_4 m (by omega) (by omega) h3
  rcases Nat.lt_or_ge m 7503 with z | z
  · exact rootsAll_ok 1250 6253 _ roots_5 m (by omega) (by omega) h3
  rcases Nat.lt_or_ge m 8753 with z | z
  · exact rootsAll_ok 1250 7503 _ roots_6 m (by omega) (by omega) h3
  exact rootsAll_ok 1221 8753 _ roots_7 m (by omega) (by omega) h3
theorem noDiv_of {n : Nat} (h : ∀ c : Nat, 2 ≤ c → c < n → n % c ≠ 0) : ∀ (k d : Nat), 2 ≤ d → noDiv n k d = true
  | 0, _, _ => rfl
  | k + 1, d, hd => by
    show cond (Nat.beq (n % d) 0) (Nat.ble n d) (noDiv n k (d + 1)) = true
    cases c : Nat.beq (n % d) 0 with
    | true =>
      have c2 : n % d = 0 := Nat.eq_of_beq_eq_true c
      rcases Nat.lt_or_ge d n with z | z
      · exact absurd c2 (h d hd z)
      · exact Nat.ble_eq_true_of_le z
    | false => exact noDiv_of h k (d + 1) (by omega)
/-- each prime has a root -/
theorem root_ex {p : Int} (hp : Pr p) : ∃ g, Root p g := by
  have lo := hp.lo
  have hi := hp.hi
  obtain ⟨g, hg⟩ := roots_at p.toNat (by omega) (by omega) (noDiv_of hp.nat 98 2 (by omega))
  have hg : (Nat.ble 1 g && (Nat.ble (g + 1) p.toNat && rootLook p.toNat g 99 1)) = true := hg
  simp only [Bool.and_eq_true] at hg
  have g0 := Nat.le_of_ble_eq_true hg.1
  have g1 := Nat.le_of_ble_eq_true hg.2.1
  have look := @rootLook_ok p.toNat g 99 1 hg.2.2
  have a0 : (0 : Int) < (g : Int) := by omega
  have a1 : (g : Int) < p := by omega
  have ep : ((p.toNat : Nat) : Int) = p := by omega
  have en : (p - 1).toNat = p.toNat - 1 := by omega
  refine ⟨(g : Int), a0, a1, ?_⟩
  obtain ⟨d, hd⟩ := ord_ex hp a0 a1
  have dv := hd.div hp a0 a1
  have dle := hd.le hp a0 a1
  have d0 := hd.pos
  have pwE : ∀ e : Nat, e < 2 ^ 14 → Cg p ((g : Int) ^ e) 1 → pw p.toNat 14 g e 1 = 1 := by
    intro e he c
    rw [pw_ok p.toNat 14 g e 1 he (Nat.mod_eq_of_lt (by omega)), Nat.one_mul]
    have q := c.emod
    rw [Int.emod_eq_of_lt (show (0 : Int) ≤ 1 by omega) (show (1 : Int) < p by omega)] at q
    have e2 : (((g ^ e % p.toNat : Nat)) : Int) = 1 := by rw [Int.natCast_emod, Int.natCast_pow, ep]; exact q
    omega
  rcases Nat.lt_or_ge d (p - 1).toNat with y | y
  · exfalso
    rw [en] at dv dle y
    rcases Nat.lt_or_ge d 100 with z | z
    · exact (look d d0 (by omega) (Nat.mod_eq_zero_of_dvd dv)).1 (by omega) (pwE d (by omega) hd.one)
    · obtain ⟨c, hc⟩ := dv
      have c2 : 2 ≤ c := by
        rcases Nat.lt_or_ge c 2 with x | x
        · have : c = 0 ∨ c = 1 := by omega
          rcases this with rfl | rfl <;> omega
        · exact x
      have c3 : c < 100 := by
        rcases Nat.lt_or_ge c 100 with x | x
        · exact x
        · have : 100 * 100 ≤ d * c := Nat.mul_le_mul z x
          omega
      have hm : (p.toNat - 1) % c = 0 := by rw [hc]; exact Nat.mul_mod_left d c
      have hq : (p.toNat - 1) / c = d := by rw [hc]; exact Nat.mul_div_cancel d (by omega)
      have := (look c (by omega) (by omega) hm).2 c2
      rw [hq] at this
      exact this (pwE d (by omega) hd.one)
  · have e : d = (p - 1).toNat := by omega
    rw [e] at hd
    exact hd

end Eqr
namespace Eqr
open PySem PySem.Spec L2
section
variable {P : Program} {w : World} {K : PySem.W.Frag} {mg : Str → Option Value} {base : Heap}
def sp_law_is_prime : Sp := fun vs H Q _ => ∃ n, vs = [.int n] ∧ ∀ H', Same H H' → Q (.bl (primeB n)) H'
theorem any_one {α : Type} (l : List α) (f : α → Bool) (x : α) : (l ++ [x]).any f = (l.any f || f x) := by simp
theorem D_law_is_prime (T : Tx K mg) : Ow.Df P w K mg base CX0 1 "_law_is_prime" s_law_is_prime ["number"] (sp_law_is_prime) := by
  refine Ow.df_of T.f_law_is_prime sc_law_is_prime bd_law_is_prime (fun vs H Q E h => ?_) (fun cdv A outer s H vs Q E f hG hR h => ?_)
  · obtain ⟨_, rfl, _⟩ := h
    rfl
  · obtain ⟨n, rfl, q⟩ := h
    have hu := hR.units
    have hu1 := hu_of hR
    refine ⟨_, (pss_one (ps_ret (pe_and (pe_cmpR op_gt (pv 0) pe_int (nomark _)) (pe_one (pe_not (pe_callB (cr_any rfl) (by rfl) T.b_any (by decide +kernel) (pa_cons (pe_lc (own := [("part", 1)]) (g := gName 1) rfl sc_law_is_prime.nd (pi_range2 (by rfl) T.b_range (pa_cons pe_int (pa_cons pe_int pa_nil))) (blkOk_by (N := ["number", "part"]) (sc := defScope s_law_is_prime) (by decide +kernel)) (fun _ _ _ _ _ => pg_name (i := 1) sc_law_is_prime.nd rfl (Or.inl rfl)) (fun _ _ _ _ _ => pts_one (pt_cmpR op_lt (pv 1) (pv 0) (nomark _))) (fun _ _ _ _ _ => (pe_cmpR op_eq (pe_op op_mod (pe_callTy Ow.call_int (by rfl) T.b_int (by decide +kernel) (pa_cons (pv 0) pa_nil)) (pv 1)) pe_int (nomark _)))) pa_nil))))))), ?_⟩
    have e0 : primeB n = (decide (1 < n) && !((List.range 98).any fun i => decide ((i : Int) + 2 < n) && decide (n % ((i : Int) + 2) = 0))) := rfl
    refine ⟨_, rfl, _, _, rfl, rfl, _, rfl, ite2 (fun c => ?_) (fun c => ?_)⟩
    · have c : 1 < n := of_decide_eq_true c
      rw [decide_eq_true c] at e0
      refine ⟨2, 100, rfl, ⟨by decide, by decide, by decide, by decide⟩, fun D hD => ?_⟩
      refine lc_range (lo := 2) (n := 98) (fun i H' => Same H H' ∧ ∃ bs : List Bool, H' D = some (.lst (bs.map V.bl)) ∧ bs.length ≤ i ∧ bs.any id = (List.range i).any fun i => decide ((i : Int) + 2 < n) && decide (n % ((i : Int) + 2) = 0))
        ⟨same_new hD, [], upd_same, Nat.le_refl _, rfl⟩ ?_ ?_
      · rintro i H' hi ⟨sm, bs, e, hl, ha⟩
        have hf : ∀ b u, H b = some u → b ≠ D := fun b u z => ne_of_none z hD
        refine ⟨rfl, _, rfl, _, rfl, _, _, rfl, rfl, _, rfl, ite2 (fun z => ?_) (fun z => ?_)⟩
        · have z : 2 + (i : Int) < n := of_decide_eq_true z
          refine ⟨_, rfl, _, rfl, _, rfl, _, _, rfl, rfl, (by show (0 : Int) < _; omega), rfl, bs.map V.bl, e, by rw [List.length_map]; exact small1000 (by omega), fun b u z2 => ?_, bs ++ [decide (V.int (n % (2 + (i : Int))) = V.int 0)], ?_, ?_, ?_⟩
          · rw [upd_ne (hf b u z2)]
            exact sm b u z2
          · rw [upd_same, List.map_append]
            rfl
          · simp only [List.length_append, List.length_cons, List.length_nil]
            omega
          · rw [any_one, ha, List.range_succ, any_one]
            congr 1
            have e1 : (i : Int) + 2 = 2 + (i : Int) := Int.add_comm _ _
            rw [e1, decide_eq_true z]
            exact decide_eq_decide.mpr ⟨V.int.inj, fun e => congrArg V.int e⟩
        · have z : ¬ 2 + (i : Int) < n := fun y => z (decide_eq_true y)
          refine ⟨sm, bs, e, by omega, ?_⟩
          rw [ha, List.range_succ, any_one]
          have e1 : (i : Int) + 2 = 2 + (i : Int) := Int.add_comm _ _
          rw [e1, decide_eq_false z]
          simp
      · rintro H' ⟨sm, bs, e, hl, ha⟩
        refine ⟨D, bs, rfl, .of e, _, rfl, ?_⟩
        rw [ha]
        have := q H' sm
        rw [e0] at this
        exact this
    · have c : ¬ 1 < n := fun z => c (decide_eq_true z)
      rw [decide_eq_false c] at e0
      have := q H (Same.refl H)
      rw [e0] at this
      exact this
def sp_law_prime : Sp := fun vs H Q _ => ∃ a, vs = [.ref a] ∧ PotAt H a ∧ ∀ p H', Stp a H H' → Pr p → Q (.int p) H'
theorem D_law_prime (T : Tx K mg) : Ow.Df P w K mg base CX0 3 "_law_prime" s_law_prime ["pot"] (sp_law_prime) := by
  refine Ow.df_of T.f_law_prime sc_law_prime bd_law_prime (fun vs H Q E h => ?_) (fun cdv A outer s H vs Q E f hG hR h => ?_)
  · obtain ⟨_, rfl, _⟩ := h
    rfl
  · obtain ⟨a, rfl, hp, q⟩ := h
    have hu := hR.units
    have hu1 := hu_of hR
    refine ⟨_, (pss_cons (ps_if (pt_cmpR op_eq (Ow.pe_d (D_law_draw T) hR (by decide) hG pass0 (by rfl) (pa_cons (pv 0) (pa_cons pe_int pa_nil))) pe_int (nomark _))
      (pss_one (ps_ret (Ow.pe_d (D_law_pick T) hR (by decide) hG pass0 (by rfl) (pa_cons (pv 0) (pa_cons (pe_lst (pa_cons pe_int (pa_cons pe_int (pa_cons pe_int (pa_cons pe_int (pa_cons pe_int (pa_cons pe_int pa_nil))))))) pa_nil)))))
      pss_nil)
      (pss_cons (ps_set (i := 1) sc_law_prime.nd rfl (Or.inl rfl) (pe_op op_add pe_int (Ow.pe_d (D_law_draw T) hR (by decide) hG pass0 (by rfl) (pa_cons (pv 0) (pa_cons pe_int pa_nil)))))
      (pss_one (ps_ret (pe_ix ix_list (pe_lc (own := [("number", 2)]) (g := gName 2) rfl sc_law_prime.nd (pi_range2 (by rfl) T.b_range (pa_cons (pv 1) (pa_cons (pe_callB (call_min2 rfl) (by rfl) T.b_min (by decide +kernel) (pa_cons (pe_op op_add (pv 1) pe_int) (pa_cons pe_int pa_nil))) pa_nil))) (blkOk_by (N := ["pot", "first", "number"]) (sc := defScope s_law_prime) (by decide +kernel)) (fun _ _ _ _ _ => pg_name (i := 2) sc_law_prime.nd rfl (Or.inl rfl)) (fun _ _ _ _ _ => pts_one (pt_val (Ow.pe_d (D_law_is_prime T) hR (by decide) hG pass0 (by rfl) (pa_cons (pv 2) pa_nil)))) (fun _ _ _ _ _ => (pv 2))) pe_int (fun _ _ => rfl)))))), ?_⟩
    refine ⟨_, rfl, a, 3, rfl, hp, by omega, by omega, fun d H1 s1 d0 d1 => ⟨rfl, _, rfl, ite2 (fun c => ?_) (fun c => ?_)⟩⟩
    · refine ⟨_, rfl, by show 6 ≤ sizeLine; decide, fun l hl => ?_⟩
      refine ⟨a, l, _, rfl, s1.pot.same (same_new hl), upd_same, s1.pot.ne hl, by show 0 < 6; omega, by show 6 < 1000; omega, fun v H2 s2 hv => ?_⟩
      have st : Stp a H H2 := (s1.same (same_new hl)).trans s2
      simp only [List.mem_cons, List.not_mem_nil, or_false] at hv
      rcases hv with rfl | rfl | rfl | rfl | rfl | rfl <;> exact q _ _ st (by show prV _ = true; decide +kernel)
    · refine ⟨_, rfl, a, 9971, rfl, s1.pot, by omega, by omega, fun e H2 s2 e0 e1 => ⟨_, _, rfl, rfl, ?_⟩⟩
      have st := s1.trans s2
      have hn : ∀ x : Int, (if 9974 < x then 9974 else x) = min x 9974 := fun x => by
        rw [Int.min_def]
        split <;> split <;> omega
      refine ⟨_, rfl, _, rfl, _, _, rfl, rfl, _, _, rfl, _, _, rfl, ?_⟩
      rw [hn]
      have m1 : min (3 + e + 40) 9974 - (3 + e) ≤ 40 := by omega
      have m2 : 0 < min (3 + e + 40) 9974 - (3 + e) := by omega
      refine ⟨⟨by omega, by omega, by omega, by omega⟩, fun D hD => ?_⟩
      refine lc_range (lo := 3 + e) (n := (min (3 + e + 40) 9974 - (3 + e)).toNat) (fun i H' => Same H2 H' ∧ H' D = some (.lst (((List.range i).filter fun (j : Nat) => primeB (3 + e + (j : Int))).map fun (j : Nat) => V.int (3 + e + (j : Int)))))
        ⟨same_new hD, upd_same⟩ ?_ ?_
      · rintro i H' hi ⟨sm, ea⟩
        refine ⟨rfl, _, rfl, _, rfl, fun H3 sm3 => ⟨_, rfl, ?_⟩⟩
        have ea3 := sm3 _ _ ea
        cases hb : primeB (3 + e + (i : Int)) with
        | true =>
          refine iteT ⟨_, rfl, _, ea3, ?_, fun b u z => ?_, ?_⟩
          · rw [List.length_map]
            refine small1000 (Nat.le_trans (List.length_filter_le _ _) ?_)
            rw [List.length_range]
            omega
          · rw [upd_ne (ne_of_none z hD)]
            exact sm3 _ _ (sm b u z)
          · rw [upd_same, List.range_succ, List.filter_append, List.map_append, List.filter_cons, if_pos hb]
            rfl
        | false =>
          refine iteF ⟨sm.trans sm3, ?_⟩
          rw [List.range_succ, List.filter_append, List.map_append, List.filter_cons, if_neg (by rw [hb]; decide)]
          rw [ea3]
          simp
      · rintro H' ⟨sm, ea⟩
        have ex : ((List.range (min (3 + e + 40) 9974 - (3 + e)).toNat).filter fun (j : Nat) => primeB (3 + e + (j : Int))) ≠ [] := by
          obtain ⟨j, j1, j2, j3⟩ := next_prime (f := (3 + e).toNat) (by omega) (by omega)
          intro z
          have hm : j ∈ ((List.range (min (3 + e + 40) 9974 - (3 + e)).toNat).filter fun (j : Nat) => primeB (3 + e + (j : Int))) := by
            rw [List.mem_filter, List.mem_range]
            refine ⟨by omega, ?_⟩
            have e1 : (((3 + e).toNat : Nat) : Int) = 3 + e := by omega
            rw [e1] at j3
            exact j3
          rw [z] at hm
          cases hm
        obtain ⟨x, r, hx⟩ := List.exists_cons_of_ne_nil ex
        have hm : x ∈ ((List.range (min (3 + e + 40) 9974 - (3 + e)).toNat).filter fun (j : Nat) => primeB (3 + e + (j : Int))) := by rw [hx]; exact List.mem_cons_self
        rw [hx] at ea
        rw [List.mem_filter, List.mem_range] at hm
        refine ⟨D, _, 0, .int (3 + e + (x : Int)), rfl, rfl, .of ea, at_of (j := 0) rfl rfl, ?_⟩
        refine q _ H' (st.same sm) ?_
        show ((decide (3 ≤ 3 + e + (x : Int)) && decide (3 + e + (x : Int) ≤ 9973)) && primeB (3 + e + (x : Int))) = true
        rw [hm.2, decide_eq_true (by omega), decide_eq_true (by omega)]
        rfl
def sp_law_power : Sp := sp_power
theorem half_of {l : Int} {i : Nat} (h : l * 2 ^ i ≤ 1000000) (h0 : 0 ≤ l) : l / 2 * 2 ^ (i + 1) ≤ 1000000 := by
  have p2 : (0 : Int) < 2 ^ i := Int.pow_pos (by omega)
  have e2 : (2 : Int) ^ (i + 1) = 2 ^ i * 2 := Int.pow_succ 2 i
  have : l / 2 * 2 * 2 ^ i ≤ l * 2 ^ i := Int.mul_le_mul_of_nonneg_right (by omega) (by omega)
  rw [e2]
  have e3 : l / 2 * (2 ^ i * 2) = l / 2 * 2 * 2 ^ i := by grind
  omega
def told : V → Int → Bool
  | .int i, d => decide (i = d)
  | _, _ => false
def sp_law_is_told : Sp := fun vs H Q _ => ∃ v d, vs = [.int v, .int d] ∧ Q (.bl (decide (v = d))) H
theorem dec_v {a b : Int} : decide (V.int a = V.int b) = decide (a = b) := decide_eq_decide.mpr ⟨V.int.inj, fun e => congrArg V.int e⟩
theorem D_law_is_told (T : Tx K mg) : Ow.Df P w K mg base CX0 1 "_law_is_told" s_law_is_told ["value", "due"] (sp_law_is_told) := by
  refine Ow.df_of T.f_law_is_told sc_law_is_told bd_law_is_told (fun vs H Q E h => ?_) (fun cdv A outer s H vs Q E f hG hR h => ?_)
  · obtain ⟨_, _, rfl, _⟩ := h
    rfl
  · obtain ⟨v, d, rfl, q⟩ := h
    have hu := hR.units
    have hu1 := hu_of hR
    refine ⟨_, (pss_one (ps_ret (pe_and (pe_callB call_isi (by rfl) T.b_isinstance (by decide +kernel) (pa_cons (pv 0) (pa_cons (pe_bltn (v := .ty "int") (by rfl) T.b_int (by decide +kernel) rfl) pa_nil))) (pe_and (pe_not (pe_callB call_isi (by rfl) T.b_isinstance (by decide +kernel) (pa_cons (pv 0) (pa_cons (pe_bltn (v := .ty "bool") (by rfl) T.b_bool (by decide +kernel) rfl) pa_nil)))) (pe_one (pe_cmpR op_eq (pv 0) (pv 1) (nomark _))))))), ?_⟩
    refine ⟨_, rfl, _, _, _, _, _, rfl, .ty _, .base (.int v), kit_ty (by decide +kernel), _, rfl, iteT ⟨_, rfl, _, _, _, _, false, rfl, .ty _, .base (.int v), kit_ty (by decide +kernel), _, rfl, _, rfl, iteT ⟨_, rfl, _, rfl, rfl, ?_⟩⟩⟩
    rw [dec_v]
    exact q
def sp_law_are_told : Sp := fun vs H Q _ => ∃ l ns d, vs = [.ref l, .int d] ∧ H l = some (.lst (List.map V.int ns)) ∧ ns.length < 1000 ∧ ∀ H', Same H H' → Q (.bl (ns.all fun n => decide (n = d))) H'
theorem D_law_are_told (T : Tx K mg) : Ow.Df P w K mg base CX0 2 "_law_are_told" s_law_are_told ["some", "due"] (sp_law_are_told) := by
  refine Ow.df_of T.f_law_are_told sc_law_are_told bd_law_are_told (fun vs H Q E h => ?_) (fun cdv A outer s H vs Q E f hG hR h => ?_)
  · obtain ⟨_, _, _, rfl, _⟩ := h
    rfl
  · obtain ⟨l, ns, d, rfl, hl, hn, q⟩ := h
    have hu := hR.units
    have hu1 := hu_of hR
    refine ⟨_, (pss_one (ps_ret (pe_callB (cr_all rfl) (by rfl) T.b_all (by decide +kernel) (pa_cons (pe_lc (own := [("value", 2)]) (g := gName 2) rfl sc_law_are_told.nd (pi_list (pv 0)) (blkOk_by (N := ["some", "due", "value"]) (sc := defScope s_law_are_told) (by decide +kernel)) (fun _ _ _ _ _ => pg_name (i := 2) sc_law_are_told.nd rfl (Or.inl rfl)) (fun _ _ _ _ _ => pts_nil) (fun _ _ _ _ _ => (Ow.pe_d (D_law_is_told T) hR (by decide) hG pass0 (by rfl) (pa_cons (pv 2) (pa_cons (pv 1) pa_nil))))) pa_nil)))), ?_⟩
    refine ⟨_, rfl, l, rfl, ⟨_, .of hl⟩, fun D hD => ?_⟩
    refine comp_list (S := Same) (xs := ns.map V.int) (fun i v => ∀ z, ns[i]? = some z → v = .bl (decide (z = d))) (Fair.same hD) (by rw [List.length_map]; exact hn) (fun x => rfl) (fun H' s => s.seq (.of hl)) ?_ ?_
    · intro i x H' hx s Q' k
      rw [List.getElem?_map] at hx
      cases e : ns[i]? with
      | none => rw [e] at hx; cases hx
      | some z =>
        rw [e] at hx
        obtain rfl : V.int z = x := Option.some.inj hx
        exact ⟨_, rfl, _, rfl, z, d, rfl, k _ H' (Same.refl _) fun z2 e2 => by rw [e] at e2; cases e2; rfl⟩
    · intro ys H' h1 h2 s e
      rw [List.length_map] at h1
      have ey := list_map_of (f := fun z => V.bl (decide (z = d))) h1 fun k v z a b => h2 k v a z b
      refine ⟨D, ns.map fun z => decide (z = d), rfl, .of ?_, ?_⟩
      · rw [e, ey, List.map_map]
        rfl
      · rw [List.all_map]
        exact q H' s
end
theorem told2 {x y d : Int} (h1 : x = d) (h2 : y = d) : ([x, y].all fun n => decide (n = d)) = true := by
  subst h1 h2
  simp
theorem told3 {x y z d : Int} (h1 : x = d) (h2 : y = d) (h3 : z = d) : ([x, y, z].all fun n => decide (n = d)) = true := by
  subst h1 h2 h3
  simp
theorem Nm.self {p a : Int} (h : Nm p a) : a % p = a := Int.emod_eq_of_lt h.1 h.2
theorem there_back {p a b : Int} (h : Nm p a) : ((a + b) % p - b) % p = a := by
  have q := ((Cg.rest p (a + b)).sub (Cg.refl p b)).emod
  rw [q, show a + b - b = a by omega, h.self]
theorem back_there {p a b : Int} (h : Nm p a) : ((a - b) % p + b) % p = a := by
  have q := ((Cg.rest p (a - b)).add (Cg.refl p b)).emod
  rw [q, show a - b + b = a by omega, h.self]
theorem over_times {p a b r : Int} (h : Nm p a) (hc : Cg p (r * b) 1) : a * r % p * b % p = a := by
  have q := (Cg.rest p (a * r)).mul (Cg.refl p b)
  have q2 := (Cg.refl p a).mul hc
  rw [Int.mul_assoc] at q
  have e := (q.trans q2).emod
  rw [Int.mul_one, h.self] at e
  exact e
theorem Cg.one {p x : Int} (h : Cg p x 1) (hp : Pr p) : x % p = 1 := by
  have lo := hp.lo
  rw [h.emod, Int.emod_eq_of_lt (by omega) (by omega)]
theorem Nm.one {p x : Int} (h : Nm p x) (hp : Pr p) (hc : Cg p x 1) : x = 1 := by
  rw [← h.self]
  exact hc.one hp

end Eqr
namespace Eqr
open PySem PySem.Spec L2
/-! ### orders, roots, logs: the parts of cycles -/
theorem Least.own {n r : Int} (h : Least n r) : ∀ x : Int, 2 ≤ x → x < r → r % x ≠ 0 := fun x x1 x2 e => h.no x x1 x2 (Int.emod_eq_zero_of_dvd (Int.dvd_trans (Int.dvd_of_emod_eq_zero e) (Int.dvd_of_emod_eq_zero h.dv)))
theorem part_step {r d c : Int} (hr : ∀ x : Int, 2 ≤ x → x < r → r % x ≠ 0) (r2 : 2 ≤ r) (d0 : 0 < d) (c0 : 0 < c) (nd : d % r ≠ 0) (h : r * c % d = 0) : c % d = 0 := by
  have er : ((r.toNat : Nat) : Int) = r := by omega
  have ed : ((d.toNat : Nat) : Int) = d := by omega
  have ec : ((c.toNat : Nat) : Int) = c := by omega
  have g1 := Nat.gcd_dvd_left d.toNat r.toNat
  have g2 := Nat.gcd_dvd_right d.toNat r.toNat
  have g3 : 0 < Nat.gcd d.toNat r.toNat := Nat.gcd_pos_of_pos_left _ (by omega)
  have g4 : Nat.gcd d.toNat r.toNat ≤ r.toNat := Nat.le_of_dvd (by omega) g2
  have cop : Nat.Coprime d.toNat r.toNat := by
    show Nat.gcd d.toNat r.toNat = 1
    rcases Nat.lt_or_ge (Nat.gcd d.toNat r.toNat) 2 with z | z
    · omega
    · rcases Nat.lt_or_ge (Nat.gcd d.toNat r.toNat) r.toNat with y | y
      · have := int_dvd g2
        rw [er] at this
        exact absurd this (hr _ (by omega) (by omega))
      · have e : Nat.gcd d.toNat r.toNat = r.toNat := by omega
        rw [e] at g1
        have := int_dvd g1
        rw [er, ed] at this
        exact absurd this nd
  have hd : d.toNat ∣ r.toNat * c.toNat := by
    refine Nat.dvd_of_mod_eq_zero ?_
    have e : (((r.toNat * c.toNat % d.toNat : Nat)) : Int) = 0 := by rw [Int.natCast_emod, Int.natCast_mul, er, ed, ec]; exact h
    omega
  have := int_dvd (cop.dvd_of_dvd_mul_left hd)
  rw [ec, ed] at this
  exact this
theorem div_of {n r : Int} (h : n % r = 0) : n = r * (n / r) := by have := Int.mul_ediv_add_emod n r; omega
theorem div_pos' {n r : Int} (h : n % r = 0) (n0 : 0 < n) (r0 : 0 < r) : 0 < n / r := by
  have e := div_of h
  rcases Int.lt_or_le 0 (n / r) with z | z
  · exact z
  · have : r * (n / r) ≤ r * 0 := Int.mul_le_mul_of_nonneg_left z (by omega)
    omega
theorem emod_trans {n a b : Int} (h : n % a = 0) (g : a % b = 0) : n % b = 0 := Int.emod_eq_zero_of_dvd (Int.dvd_trans (Int.dvd_of_emod_eq_zero g) (Int.dvd_of_emod_eq_zero h))
theorem emod_quot {n r : Int} (h : n % r = 0) : n % (n / r) = 0 := by
  have e := div_of h
  conv => lhs; lhs; rw [e]
  exact Int.mul_emod_left r (n / r)
theorem one_part {n : Int} (h : n = 1) : Parts n [] := ⟨fun q hq => (nomatch hq), fun d d2 e => by subst h; rw [Int.emod_eq_of_lt (by omega) (by omega)] at e; omega⟩
theorem pow_le_one {l : Int} {k : Nat} {n : Int} (h : l * 2 ^ k ≤ n) (l0 : 0 < l) (hn : n < 10201) : k ≤ 14 := by
  rcases Nat.lt_or_ge k 15 with z | z
  · omega
  · exfalso
    have p1 : (2 : Int) ^ 15 ≤ 2 ^ k := by
      have : (2 : Nat) ^ 15 ≤ 2 ^ k := Nat.pow_le_pow_right (by decide) z
      exact_mod_cast this
    have p2 : 1 * 2 ^ k ≤ l * 2 ^ k := Int.mul_le_mul_of_nonneg_right (by omega) (by omega)
    omega
section
variable {P : Program} {w : World} {K : PySem.W.Frag} {mg : Str → Option Value} {base : Heap}
def sp_primes_of : Sp := fun vs H Q _ => ∃ n, vs = [.int n] ∧ 0 < n ∧ n < 10201 ∧ ∀ l qs H', Same H H' → H l = none → H' l = some (.lst (List.map V.int qs)) → Parts n qs → qs.length ≤ 20 → Q (.ref l) H'
theorem D_primes_of (T : Tx K mg) : Ow.Df P w K mg base CX0 2 "primes_of" s_primes_of ["count"] (sp_primes_of) := by
  refine Ow.df_of T.f_primes_of sc_primes_of bd_primes_of (fun vs H Q E h => ?_) (fun cdv A outer s H vs Q E f hG hR h => ?_)
  · obtain ⟨_, rfl, _⟩ := h
    rfl
  · obtain ⟨n, rfl, n0, n1, q⟩ := h
    have hu := hR.units
    have hu1 := hu_of hR
    refine ⟨_, (pss_cons (ps_par (i := 1) (j := 2) rfl sc_primes_of.nd rfl rfl (by decide) rfl rfl (pa_cons (pe_lst pa_nil) (pa_cons (pv 0) pa_nil)) (by rfl))
      (pss_cons (ps_while PassesOwn.never (pt_cmpR op_gt (pv 2) pe_int (nomark _))
      (pss_cons (ps_set (i := 3) sc_primes_of.nd rfl (Or.inl rfl) (Ow.pe_d (D_least_divisor T) hR (by decide) hG pass0 (by rfl) (pa_cons (pv 2) pa_nil)))
        (pss_cons (ps_expr (pe_bm PySem.F.plainAttrs_list PySem.F.slot_list_append PySem.F.type_list_append mt_append (pv 1) (pa_cons (pv 3) pa_nil)))
        (pss_one (ps_while PassesOwn.never (pt_cmpR op_eq (pe_op op_mod (pv 2) (pv 3)) pe_int (nomark _))
        (pss_one (ps_set (i := 2) sc_primes_of.nd rfl (Or.inl rfl) (pe_op Ow.op_div (pv 2) (pv 3)))))))))
      (pss_one (ps_ret (pv 1))))), ?_⟩
    refine ⟨Nat.zero_le _, ?_⟩
    intro l hp_l
    generalize hx_l : upd _ l _ = H1
    obtain ⟨s1, e1⟩ := fresh_of hp_l hx_l
    clear hx_l
    refine ⟨_, rfl, _, _, rfl, ?_⟩
    refine ⟨fun m σ H' => Same H H' ∧ ∃ (qs : List Int) (left : Int) (o : Option V), σ = [some (.int n), some (.ref l), some (.int left), o] ∧ m = left.toNat ∧ H' l = some (.lst (List.map V.int qs)) ∧ 0 < left ∧ n % left = 0 ∧ left * 2 ^ qs.length ≤ n ∧
      (∀ q ∈ qs, 2 ≤ q ∧ q ≤ n ∧ n % q = 0) ∧ ∀ d : Int, 2 ≤ d → n % d = 0 → (∃ q ∈ qs, d % q = 0) ∨ left % d = 0,
      ⟨_, s1, [], n, none, rfl, rfl, e1, n0, Int.emod_self, by simp, fun q hq => (nomatch hq), fun d d2 e => .inr e⟩, ?_⟩
    rintro m σ H2 ⟨s2, qs, left, o, rfl, rfl, e2, l0, l1, l2, hq, hd⟩
    have ln : left ≤ n := Int.le_of_dvd n0 (Int.dvd_of_emod_eq_zero l1)
    have k14 := pow_le_one l2 l0 n1
    refine ⟨_, rfl, _, _, rfl, rfl, _, rfl, ite2 (fun c => ⟨fun σ' H' => ∃ m', m' < _ ∧ _, fun _ _ h => h, ?_⟩) (fun c => ?_)⟩
    · have c : 1 < left := of_decide_eq_true c
      refine ⟨_, rfl, left, rfl, c, by omega, fun r hr => ?_⟩
      have r2 := hr.lo
      have r3 := hr.hi
      refine ⟨_, rfl, .inl ⟨rfl, _, .of e2⟩, _, rfl, l, _, _, rfl, rfl, e2, by rw [List.length_map]; exact small1000 (by omega), ?_⟩
      have s3 : Same H (upd H2 l (.lst (List.map V.int qs ++ [.int r]))) := fun b u z => by rw [upd_ne (ne_of_none z hp_l)]; exact s2 b u z
      have e3 : (upd H2 l (.lst (List.map V.int qs ++ [.int r]))) l = some (.lst (List.map V.int (qs ++ [r]))) := by rw [upd_same, List.map_append]; rfl
      revert s3 e3
      generalize upd H2 l (.lst (List.map V.int qs ++ [.int r])) = H3
      intro s3 e3
      refine ⟨fun m σ H' => H' = H3 ∧ ∃ cur : Int, σ = [some (.int n), some (.ref l), some (.int cur), some (.int r)] ∧ m = cur.toNat ∧ 0 < cur ∧ left % cur = 0 ∧ (cur = left ∨ cur * 2 ≤ left) ∧ ∀ d : Int, 2 ≤ d → left % d = 0 → d % r = 0 ∨ cur % d = 0,
        ⟨_, rfl, left, rfl, rfl, l0, Int.emod_self, .inl rfl, fun d d2 e => .inr e⟩, ?_⟩
      rintro m σ H4 ⟨rfl, cur, rfl, rfl, c0, c1, c2, c3⟩
      have cl : cur ≤ left := Int.le_of_dvd l0 (Int.dvd_of_emod_eq_zero c1)
      refine ⟨_, rfl, _, rfl, _, _, rfl, rfl, (by show (0 : Int) < _; omega), rfl, _, rfl, ite2 (fun z => ⟨fun σ' H' => ∃ m', m' < _ ∧ _, fun _ _ h => h, ?_⟩) (fun z => ?_)⟩
      · have z : cur % r = 0 := V.int.inj (of_decide_eq_true z)
        have e := div_of z
        have q0 := div_pos' z c0 (by omega)
        have q1 : 2 * (cur / r) ≤ r * (cur / r) := Int.mul_le_mul_of_nonneg_right r2 (by omega)
        refine ⟨_, rfl, _, rfl, _, _, rfl, rfl, ⟨by omega, by omega⟩, (cur / r).toNat, by omega, rfl, cur / r, rfl, rfl, q0, emod_trans c1 (emod_quot z), .inr (by omega), fun d d2 ed => ?_⟩
        rcases c3 d d2 ed with y | y
        · exact .inl y
        · by_cases x : d % r = 0
          · exact .inl x
          · refine .inr (part_step hr.own r2 (by omega) q0 x ?_)
            rw [← e]
            exact y
      · have z : cur % r ≠ 0 := fun e => z (decide_eq_true (congrArg V.int e))
        have c4 : cur * 2 ≤ left := by
          rcases c2 with y | y
          · subst y
            exact absurd hr.dv z
          · exact y
        refine ⟨cur.toNat, by omega, s3, qs ++ [r], cur, _, rfl, rfl, e3, c0, emod_trans l1 c1, ?_, ?_, ?_⟩
        · rw [List.length_append, List.length_cons, List.length_nil]
          have e : (2 : Int) ^ (qs.length + 1) = 2 ^ qs.length * 2 := Int.pow_succ 2 _
          have p2 : (0 : Int) < 2 ^ qs.length := Int.pow_pos (by omega)
          have := Int.mul_le_mul_of_nonneg_right c4 (Int.le_of_lt p2)
          have e5 : cur * (2 ^ qs.length * 2) = cur * 2 * 2 ^ qs.length := by grind
          show cur * 2 ^ (qs.length + 1) ≤ n
          rw [e, e5]
          omega
        · intro x hx
          rcases List.mem_append.mp hx with hx | hx
          · exact hq x hx
          · have e : x = r := by simpa using hx
            subst e
            exact ⟨r2, by omega, emod_trans l1 hr.dv⟩
        · intro d d2 ed
          rcases hd d d2 ed with ⟨x, hx, ex⟩ | y
          · exact .inl ⟨x, List.mem_append_left _ hx, ex⟩
          · rcases c3 d d2 y with y | y
            · exact .inl ⟨r, List.mem_append_right _ (List.mem_singleton.mpr rfl), y⟩
            · exact .inr y
    · have c : ¬ 1 < left := fun z => c (decide_eq_true z)
      have e : left = 1 := by omega
      subst e
      refine ⟨_, rfl, q l qs H2 s2 hp_l e2 ⟨hq, fun d d2 ed => ?_⟩ (by omega)⟩
      rcases hd d d2 ed with y | y
      · exact y
      · rw [Int.emod_eq_of_lt (by omega) (by omega)] at y
        omega
end

end Eqr
namespace Eqr
open PySem PySem.Spec L2
/-- the look that tells a full order, by parts -/
def fullB (p a : Int) (qs : List Int) : Bool := decide (a ^ (p - 1).toNat % p = 1 % p) && qs.all fun q => !decide (a ^ ((p - 1) / q).toNat % p = 1)
theorem fullB_iff {p a : Int} {qs : List Int} (p2 : 2 ≤ p) (hq : Parts (p - 1) qs) : fullB p a qs = true ↔ Ord p a (p - 1).toNat := by
  have e1 : (1 : Int) % p = 1 := Int.emod_eq_of_lt (by omega) (by omega)
  have one : ∀ k : Nat, Cg p (a ^ k) 1 ↔ a ^ k % p = 1 := fun k => ⟨fun z => by rw [z.emod, e1], fun z => Cg.of (by rw [z, e1])⟩
  unfold fullB
  simp only [Bool.and_eq_true, decide_eq_true_eq, List.all_eq_true, Bool.not_eq_true', decide_eq_false_iff_not]
  constructor
  · rintro ⟨h1, h2⟩
    refine Ord.by_parts hq (by omega) Int.emod_self ((one _).mpr (h1.trans e1)) fun q hm _ z => h2 q hm ((one _).mp z)
  · intro o
    refine ⟨((one _).mp o.one).trans e1.symm, fun q hm z => ?_⟩
    obtain ⟨q2, qn, qd⟩ := hq.1 q hm
    have d := div_of qd
    have d0 := div_pos' qd (by omega) (by omega)
    have d1 : 2 * ((p - 1) / q) ≤ q * ((p - 1) / q) := Int.mul_le_mul_of_nonneg_right q2 (by omega)
    exact o.no ((p - 1) / q).toNat (by omega) (by omega) ((one _).mpr z)
section
variable {P : Program} {w : World} {K : PySem.W.Frag} {mg : Str → Option Value} {base : Heap}
theorem nm_eq {p r x : Int} (hr : Nm p r) (hc : Cg p r x) (hp : 0 < p) : r = x % p := by
  rw [← hc.emod, Int.emod_eq_of_lt hr.1 hr.2]
theorem bool_iff {a b : Bool} (h : a = true ↔ b = true) : a = b := by cases a <;> cases b <;> simp_all
def sp_is_full : Sp := fun vs H Q _ => ∃ p a l qs, vs = [.int p, .int a, .ref l] ∧ 2 ≤ p ∧ p ≤ 9973 ∧ 0 < a ∧ a < p ∧ H l = some (.lst (List.map V.int qs)) ∧ (∀ q ∈ qs, 2 ≤ q ∧ q < 100000) ∧ qs.length < 1000 ∧ ∀ H', Same H H' → Q (.bl (fullB p a qs)) H'
theorem D_is_full (T : Tx K mg) : Ow.Df P w K mg base CX0 2 "is_full" s_is_full ["count", "one", "parts"] (sp_is_full) := by
  refine Ow.df_of T.f_is_full sc_is_full bd_is_full (fun vs H Q E h => ?_) (fun cdv A outer s H vs Q E f hG hR h => ?_)
  · obtain ⟨_, _, _, _, rfl, _⟩ := h
    rfl
  · obtain ⟨p, a, l, qs, rfl, p2, p3, a0, a1, hl, hq, hn, q⟩ := h
    have hu := hR.units
    have hu1 := hu_of hR
    refine ⟨_, (pss_cons (ps_if (pt_cmpR op_ne (Ow.pe_d (D_powered T) hR (by decide) hG pass0 (by rfl) (pa_cons (pv 0) (pa_cons (pv 1) (pa_cons (pe_op op_sub (pv 0) pe_int) pa_nil)))) (pe_op op_mod pe_int (pv 0)) (nomark _))
      (pss_one (ps_ret pe_bl))
      pss_nil)
      (pss_one (ps_ret (pe_callB (cr_all rfl) (by rfl) T.b_all (by decide +kernel) (pa_cons (pe_lc (own := [("part", 3)]) (g := gName 3) rfl sc_is_full.nd (pi_list (pv 2)) (blkOk_by (N := ["count", "one", "parts", "part"]) (sc := defScope s_is_full) (by decide +kernel)) (fun _ _ _ _ _ => pg_name (i := 3) sc_is_full.nd rfl (Or.inl rfl)) (fun _ _ _ _ _ => pts_nil) (fun _ _ _ _ _ => (pe_cmpR op_ne (Ow.pe_d (D_powered T) hR (by decide) hG pass0 (by rfl) (pa_cons (pv 0) (pa_cons (pv 1) (pa_cons (pe_op Ow.op_div (pe_op op_sub (pv 0) pe_int) (pv 3)) pa_nil)))) pe_int (nomark _)))) pa_nil))))), ?_⟩
    refine ⟨_, rfl, _, rfl, _, rfl, _, _, rfl, rfl, p, a, p - 1, rfl, by omega, by omega, ⟨by omega, a1⟩, by omega, fun r H1 s1 hr hc => ?_⟩
    refine ⟨_, rfl, _, _, rfl, rfl, (by show (0 : Int) < _; omega), rfl, _, rfl, ?_⟩
    have er := nm_eq hr hc (by omega)
    have ef : fullB p a qs = (decide (a ^ (p - 1).toNat % p = 1 % p) && qs.all fun q => !decide (a ^ ((p - 1) / q).toNat % p = 1)) := rfl
    rw [← er] at ef
    have ed : decide (V.int r = V.int (1 % p)) = decide (r = 1 % p) := dec_v
    refine ite2 (fun z => ?_) (fun z => ?_)
    · have z : ¬ r = 1 % p := fun y => by
        have z : (!decide (V.int r = V.int (1 % p))) = true := z
        rw [ed, decide_eq_true y] at z
        exact absurd z (by decide)
      rw [decide_eq_false z] at ef
      have := q H1 s1
      rw [ef] at this
      exact this
    · have z : r = 1 % p := by
        by_cases y : r = 1 % p
        · exact y
        · refine absurd ?_ z
          show (!decide (V.int r = V.int (1 % p))) = true
          rw [ed, decide_eq_false y]
          rfl
      rw [decide_eq_true z, Bool.true_and] at ef
      refine ⟨_, rfl, l, rfl, ⟨_, .of (s1 _ _ hl)⟩, fun D hD => ?_⟩
      refine comp_list (S := Same) (xs := qs.map V.int) (fun i v => ∀ q, qs[i]? = some q → v = .bl (!decide (a ^ ((p - 1) / q).toNat % p = 1))) (Fair.same hD) (by rw [List.length_map]; exact hn) (fun x => rfl) (fun H' s => s.seq (s1.seq (.of hl))) ?_ ?_
      · intro i x H' hx s Q' k
        rw [List.getElem?_map] at hx
        cases e : qs[i]? with
        | none => rw [e] at hx; cases hx
        | some y =>
          rw [e] at hx
          obtain rfl : V.int y = x := Option.some.inj hx
          obtain ⟨y2, y3⟩ := hq y (List.mem_of_getElem? e)
          refine ⟨_, rfl, _, rfl, _, rfl, _, _, rfl, rfl, _, rfl, _, _, rfl, rfl, ⟨by omega, by omega⟩, p, a, _, rfl, by omega, by omega, ⟨by omega, a1⟩, Int.ediv_nonneg (by omega) (by omega), fun r2 H2 s2 hr2 hc2 => ⟨rfl, ?_⟩⟩
          have er2 := nm_eq hr2 hc2 (by omega)
          refine k _ H2 s2 fun z2 e2 => ?_
          have e3 : y = z2 := by
            rw [e] at e2
            exact Option.some.inj e2
          subst e3
          rw [er2, dec_v]
      · intro ys H' h1 h2 s e
        rw [List.length_map] at h1
        have ey := list_map_of (f := fun q => V.bl (!decide (a ^ ((p - 1) / q).toNat % p = 1))) h1 fun k v z a b => h2 k v a z b
        refine ⟨D, qs.map fun q => !decide (a ^ ((p - 1) / q).toNat % p = 1), rfl, .of ?_, ?_⟩
        · rw [e, ey, List.map_map]
          rfl
        · rw [List.all_map]
          have := q H' (s1.trans s)
          rw [ef] at this
          exact this
def sp_least_full : Sp := fun vs H Q _ => ∃ p l qs, vs = [.int p, .ref l] ∧ Pr p ∧ H l = some (.lst (List.map V.int qs)) ∧ Parts (p - 1) qs ∧ qs.length < 1000 ∧ ∀ g H', Same H H' → Root p g → (∀ h, 0 < h → h < g → ¬ Root p h) → Q (.int g) H'
theorem D_least_full (T : Tx K mg) : Ow.Df P w K mg base CX0 3 "least_full" s_least_full ["count", "parts"] (sp_least_full) := by
  refine Ow.df_of T.f_least_full sc_least_full bd_least_full (fun vs H Q E h => ?_) (fun cdv A outer s H vs Q E f hG hR h => ?_)
  · obtain ⟨_, _, _, rfl, _⟩ := h
    rfl
  · obtain ⟨p, l, qs, rfl, hp, hl, hq, hn, q⟩ := h
    have hu := hR.units
    have hu1 := hu_of hR
    refine ⟨_, (pss_cons (ps_for PassesOwn.never rfl (pi_range2 (by rfl) T.b_range (pa_cons pe_int (pa_cons (pv 0) pa_nil))) (pg_name (i := 2) sc_least_full.nd rfl (Or.inl rfl))
      (pss_one (ps_if (pt_val (Ow.pe_d (D_is_full T) hR (by decide) hG pass0 (by rfl) (pa_cons (pv 0) (pa_cons (pv 2) (pa_cons (pv 1) pa_nil)))))
        (pss_one (ps_ret (pv 2)))
        pss_nil)))
      (pss_one (ps_ret pe_non))), ?_⟩
    have lo := hp.lo
    have hi := hp.hi
    have hq2 : ∀ q ∈ qs, 2 ≤ q ∧ q < 100000 := fun q hm => ⟨(hq.1 q hm).1, by have := (hq.1 q hm).2.1; omega⟩
    refine ⟨_, rfl, 1, p, rfl, ⟨by omega, by omega, by omega, by omega⟩, for_range (lo := 1) (n := (p - 1).toNat) (fun i σ H' => Same H H' ∧ (∃ o, σ = [some (.int p), some (.ref l), o]) ∧ ∀ h : Int, 0 < h → h < 1 + (i : Int) → ¬ Root p h)
      ⟨Same.refl H, ⟨_, rfl⟩, fun h h0 h1 => by omega⟩ ?_ ?_⟩
    · rintro i σ H1 hi1 ⟨s1, ⟨o, rfl⟩, hno⟩
      refine ⟨_, rfl, _, rfl, _, rfl, p, 1 + (i : Int), l, qs, rfl, by omega, by omega, by omega, by omega, s1 _ _ hl, hq2, hn, fun H2 s2 => ⟨_, rfl, ?_⟩⟩
      cases hb : fullB p (1 + (i : Int)) qs with
      | true =>
        refine iteT ⟨_, rfl, q _ H2 (s1.trans s2) ⟨by omega, by omega, (fullB_iff (by omega) hq).mp hb⟩ fun h h0 h1 => hno h h0 h1⟩
      | false =>
        refine iteF ⟨s1.trans s2, ⟨_, rfl⟩, fun h h0 h1 => ?_⟩
        rcases Int.lt_or_le h (1 + (i : Int)) with z | z
        · exact hno h h0 z
        · have e : h = 1 + (i : Int) := by omega
          subst e
          intro r
          have := (fullB_iff (by omega) hq).mpr r.2.2
          rw [hb] at this
          cases this
    · rintro σ H1 ⟨s1, ⟨o, rfl⟩, hno⟩
      obtain ⟨g, hg⟩ := root_ex hp
      exact absurd hg (hno g hg.1 (by have := hg.2.1; omega))
def sp_is_root_of : Sp := fun vs H Q _ => ∃ p v b, vs = [.int p, v] ∧ Pr p ∧ IsV H v b ∧ ∀ c H', Same H H' → (c = true ↔ ∃ g, v = .int g ∧ Root p g) → Q (.bl c) H'
theorem D_is_root_of (T : Tx K mg) : Ow.Df P w K mg base CX0 3 "is_root_of" s_is_root_of ["prime", "value"] (sp_is_root_of) := by
  refine Ow.df_of T.f_is_root_of sc_is_root_of bd_is_root_of (fun vs H Q E h => ?_) (fun cdv A outer s H vs Q E f hG hR h => ?_)
  · obtain ⟨_, _, _, rfl, _⟩ := h
    rfl
  · obtain ⟨p, v, b, rfl, hp, hv, q⟩ := h
    have hu := hR.units
    have hu1 := hu_of hR
    refine ⟨_, (pss_one (ps_ret (pe_and (Ow.pe_d (D_is_within T) hR (by decide) hG pass0 (by rfl) (pa_cons (pv 1) (pa_cons pe_int (pa_cons (pe_op op_sub (pv 0) pe_int) pa_nil)))) (pe_one (Ow.pe_d (D_is_full T) hR (by decide) hG pass0 (by rfl) (pa_cons (pv 0) (pa_cons (pv 1) (pa_cons (Ow.pe_d (D_primes_of T) hR (by decide) hG pass0 (by rfl) (pa_cons (pe_op op_sub (pv 0) pe_int) pa_nil)) pa_nil)))))))), ?_⟩
    have lo := hp.lo
    have hi := hp.hi
    refine ⟨_, rfl, _, rfl, _, _, rfl, rfl, v, b, 1, p - 1, rfl, hv, _, rfl, ?_⟩
    cases hv with
    | int g =>
      have e : within (.int g) 1 (p - 1) = (decide (1 ≤ g) && decide (g ≤ p - 1)) := rfl
      rw [e]
      cases hw : (decide (1 ≤ g) && decide (g ≤ p - 1)) with
      | true =>
        simp only [Bool.and_eq_true, decide_eq_true_eq] at hw
        refine iteT ⟨_, rfl, _, rfl, _, rfl, _, _, rfl, rfl, p - 1, rfl, by omega, by omega, fun l qs H1 s1 hl el hq hn => ?_⟩
        refine ⟨p, g, l, qs, rfl, by omega, by omega, by omega, by omega, el, fun q hm => ⟨(hq.1 q hm).1, by have := (hq.1 q hm).2.1; omega⟩, by omega, fun H2 s2 => ?_⟩
        refine q _ H2 (s1.trans s2) ⟨fun z => ⟨g, rfl, by omega, by omega, (fullB_iff (by omega) hq).mp z⟩, fun ⟨g2, e2, r⟩ => ?_⟩
        cases e2
        exact (fullB_iff (by omega) hq).mpr r.2.2
      | false =>
        refine iteF (q false H (Same.refl H) ⟨fun z => (nomatch z), fun ⟨g2, e2, r⟩ => ?_⟩)
        cases e2
        have r0 := r.1
        have r1 := r.2.1
        rw [decide_eq_true (show 1 ≤ g by omega), decide_eq_true (show g ≤ p - 1 by omega)] at hw
        cases hw
    | non => exact iteF (q false H (Same.refl H) ⟨fun z => (nomatch z), fun ⟨g, e, _⟩ => (nomatch e)⟩)
    | bl b => exact iteF (q false H (Same.refl H) ⟨fun z => (nomatch z), fun ⟨g, e, _⟩ => (nomatch e)⟩)
    | str b => exact iteF (q false H (Same.refl H) ⟨fun z => (nomatch z), fun ⟨g, e, _⟩ => (nomatch e)⟩)
    | lst b => exact iteF (q false H (Same.refl H) ⟨fun z => (nomatch z), fun ⟨g, e, _⟩ => (nomatch e)⟩)
    | tup b => exact iteF (q false H (Same.refl H) ⟨fun z => (nomatch z), fun ⟨g, e, _⟩ => (nomatch e)⟩)
def sp_order_of : Sp := fun vs H Q _ => ∃ p a, vs = [.int p, .int a] ∧ Pr p ∧ 0 < a ∧ a < p ∧ ∀ d : Nat, ∀ H', Same H H' → Ord p a d → Q (.int (d : Int)) H'
theorem keeps_no {p a f g q : Int} (h : f % q = 0 → ¬ Cg p (a ^ (f / q).toNat) 1) (hg : f % g = 0) (f0 : 0 < f) (g0 : 0 < g) (q2 : 2 ≤ q) (e : g % q = 0) : ¬ Cg p (a ^ (g / q).toNat) 1 := by
  intro z
  have e1 := emod_trans hg e
  refine h e1 ?_
  have d1 := div_of hg
  have d2 := div_of e
  have d3 : f / q = (g / q) * (f / g) := by
    refine Int.ediv_eq_of_eq_mul_right (by omega) ?_
    rw [← Int.mul_assoc, ← d2]
    exact d1
  have p1 := div_pos' hg f0 g0
  have p2 := div_pos' e g0 (by omega)
  rw [d3, Int.toNat_mul (by omega) (by omega), Int.pow_mul]
  have r := z.pow (f / g).toNat
  rw [Int.one_pow] at r
  exact r
theorem D_order_by (T : Tx K mg) : Ow.Df P w K mg base CX0 3 "order_by" s_order_by ["prime", "one"] (sp_order_of) := by
  refine Ow.df_of T.f_order_by sc_order_by bd_order_by (fun vs H Q E h => ?_) (fun cdv A outer s H vs Q E f hG hR h => ?_)
  · obtain ⟨_, _, rfl, _⟩ := h
    rfl
  · obtain ⟨p, a, rfl, hp, a0, a1, q⟩ := h
    have hu := hR.units
    have hu1 := hu_of hR
    refine ⟨_, (pss_cons (ps_set (i := 2) sc_order_by.nd rfl (Or.inl rfl) (pe_op op_sub (pv 0) pe_int))
      (pss_cons (ps_for PassesOwn.never rfl (pi_list (Ow.pe_d (D_primes_of T) hR (by decide) hG pass0 (by rfl) (pa_cons (pe_op op_sub (pv 0) pe_int) pa_nil))) (pg_name (i := 3) sc_order_by.nd rfl (Or.inl rfl))
      (pss_one (ps_while PassesOwn.never (PW.pt (pw_and (pt_cmpR op_eq (pe_op op_mod (pv 2) (pv 3)) pe_int (nomark _)) (pw_and1 (pt_cmpR op_eq (Ow.pe_d (D_powered T) hR (by decide) hG pass0 (by rfl) (pa_cons (pv 0) (pa_cons (pv 1) (pa_cons (pe_op Ow.op_div (pv 2) (pv 3)) pa_nil)))) pe_int (nomark _)))))
        (pss_one (ps_set (i := 2) sc_order_by.nd rfl (Or.inl rfl) (pe_op Ow.op_div (pv 2) (pv 3)))))))
      (pss_one (ps_ret (pv 2))))), ?_⟩
    have lo := hp.lo
    have hi := hp.hi
    refine ⟨_, rfl, _, _, rfl, rfl, ?_⟩
    refine ⟨_, rfl, _, _, rfl, rfl, p - 1, rfl, by omega, by omega, fun l qs H1 s1 hl el hq hn => ⟨l, rfl, ⟨_, .of el⟩, ?_⟩⟩
    refine for_list (K := K) (a := l) (xs := List.map V.int qs) (fun i σ H' => Same H1 H' ∧ ∃ f o, σ = [some (.int p), some (.int a), some (.int f), o] ∧ 0 < f ∧ (p - 1) % f = 0 ∧ Cg p (a ^ f.toNat) 1 ∧ ∀ (j : Nat) q, j < i → qs[j]? = some q → f % q = 0 → ¬ Cg p (a ^ (f / q).toNat) 1)
      ⟨Same.refl _, p - 1, none, rfl, by omega, Int.emod_self, fermat hp a0 a1, fun j q hj => by omega⟩ (fun i σ H' _ h => h.1.seq (.of el)) ?_ ?_
    · rintro i v σ H2 hv ⟨s2, f, o, rfl, f0, f1, f2, f3⟩
      rw [List.getElem?_map] at hv
      cases e : qs[i]? with
      | none => rw [e] at hv; cases hv
      | some r =>
        rw [e] at hv
        obtain rfl : V.int r = v := Option.some.inj hv
        obtain ⟨r2, r3, _⟩ := hq.1 r (List.mem_of_getElem? e)
        refine ⟨fun m σ H' => Same H1 H' ∧ ∃ f, σ = [some (.int p), some (.int a), some (.int f), some (.int r)] ∧ m = f.toNat ∧ 0 < f ∧ (p - 1) % f = 0 ∧ Cg p (a ^ f.toNat) 1 ∧ ∀ (j : Nat) q, j < i → qs[j]? = some q → f % q = 0 → ¬ Cg p (a ^ (f / q).toNat) 1,
          ⟨_, s2, f, rfl, rfl, f0, f1, f2, f3⟩, ?_⟩
        rintro m σ H3 ⟨s3, f, rfl, rfl, f0, f1, f2, f3⟩
        have fp : f ≤ p - 1 := Int.le_of_dvd (by omega) (Int.dvd_of_emod_eq_zero f1)
        refine ⟨_, rfl, _, rfl, _, _, rfl, rfl, (by show (0 : Int) < _; omega), rfl, _, rfl, ite2 (fun z => ?_) (fun z => ?_)⟩
        · have z : f % r = 0 := V.int.inj (of_decide_eq_true z)
          refine ⟨_, rfl, _, rfl, _, rfl, _, rfl, _, _, rfl, rfl, ⟨by omega, by omega⟩, p, a, f / r, rfl, by omega, by omega, ⟨by omega, a1⟩, Int.ediv_nonneg (by omega) (by omega), fun k H4 s4 hk ck => ⟨rfl, _, rfl, ite2 (fun y => ⟨fun σ' H' => ∃ m', m' < _ ∧ _, fun _ _ h => h, ?_⟩) (fun y => ?_)⟩⟩
          · have y : k = 1 := V.int.inj (of_decide_eq_true y)
            subst y
            have d := div_of z
            have d0 := div_pos' z f0 (by omega)
            have d1 : 2 * (f / r) ≤ r * (f / r) := Int.mul_le_mul_of_nonneg_right r2 (by omega)
            refine ⟨_, rfl, _, rfl, _, _, rfl, rfl, ⟨by omega, by omega⟩, (f / r).toNat, by omega, s3.trans s4, f / r, rfl, rfl, d0, emod_trans f1 (emod_quot z), ck.symm, fun j q hj ej => keeps_no (f3 j q hj ej) (emod_quot z) f0 d0 (hq.1 q (List.mem_of_getElem? ej)).1⟩
          · have y : k ≠ 1 := fun e => y (decide_eq_true (congrArg V.int e))
            refine ⟨s3.trans s4, f, _, rfl, f0, f1, f2, fun j q hj ej => ?_⟩
            rcases Nat.lt_or_ge j i with x | x
            · exact f3 j q x ej
            · have e2 : j = i := by omega
              subst e2
              rw [e] at ej
              have e3 : r = q := Option.some.inj ej
              subst e3
              intro _ cc
              exact y (Cg.uniq (ck.trans cc) hk.1 hk.2 (by omega) (by omega))
        · have z : f % r ≠ 0 := fun e => z (decide_eq_true (congrArg V.int e))
          refine iteF ⟨s3, f, _, rfl, f0, f1, f2, fun j q hj ej => ?_⟩
          rcases Nat.lt_or_ge j i with x | x
          · exact f3 j q x ej
          · have e2 : j = i := by omega
            subst e2
            rw [e] at ej
            have e3 : r = q := Option.some.inj ej
            subst e3
            exact fun y => absurd y z
    · rintro σ H2 ⟨s2, f, o, rfl, f0, f1, f2, f3⟩
      have ef : ((f.toNat : Nat) : Int) = f := by omega
      refine ⟨_, rfl, ?_⟩
      have := q f.toNat H2 (s1.trans s2) (Ord.by_parts hq f0 f1 f2 fun x hx => ?_)
      · rw [ef] at this
        exact this
      · obtain ⟨j, h1, h2⟩ := List.mem_iff_getElem.mp hx
        exact f3 j x (by rw [List.length_map]; exact h1) (by rw [List.getElem?_eq_getElem h1, h2])
def sp_check_one : Sp := fun vs H Q _ => ∃ p a, vs = [.int p, .int a] ∧ Pr p ∧ Nm p a ∧ Q .non H
theorem D_check_one (T : Tx K mg) : Ow.Df P w K mg base CX0 5 "check_one" s_check_one ["prime", "one"] (sp_check_one) := by
  refine Ow.df_of T.f_check_one sc_check_one bd_check_one (fun vs H Q E h => ?_) (fun cdv A outer s H vs Q E f hG hR h => ?_)
  · obtain ⟨_, _, rfl, _⟩ := h
    rfl
  · obtain ⟨p, a, rfl, hp, ha, q⟩ := h
    have hu := hR.units
    have hu1 := hu_of hR
    refine ⟨_, (pss_cons (ps_expr (Ow.pe_d (D_check_prime T) hR (by decide) hG pass0 (by rfl) (pa_cons (pv 0) pa_nil)))
      (pss_one (ps_expr (Ow.pe_d (D_check_number T) hR (by decide) hG pass0 (by rfl) (pa_cons (pv 0) (pa_cons (pv 1) pa_nil)))))), ?_⟩
    exact ⟨_, rfl, p, rfl, hp, _, rfl, _, rfl, p, a, rfl, ha, q⟩
theorem D_order_of (T : Tx K mg) : Ow.Df P w K mg base CX0 6 "order_of" s_order_of ["prime", "one"] (sp_order_of) := by
  refine Ow.df_of T.f_order_of sc_order_of bd_order_of (fun vs H Q E h => ?_) (fun cdv A outer s H vs Q E f hG hR h => ?_)
  · obtain ⟨_, _, rfl, _⟩ := h
    rfl
  · obtain ⟨p, a, rfl, hp, a0, a1, q⟩ := h
    have hu := hR.units
    have hu1 := hu_of hR
    refine ⟨_, (pss_cons (ps_expr (Ow.pe_d (D_check_one T) hR (by decide) hG pass0 (by rfl) (pa_cons (pv 0) (pa_cons (pv 1) pa_nil))))
      (pss_cons (ps_if (pt_cmpR op_eq (pv 1) pe_int (nomark _))
      (pss_one ps_never)
      pss_nil)
      (pss_one (ps_ret (Ow.pe_d (D_order_by T) hR (by decide) hG pass0 (by rfl) (pa_cons (pv 0) (pa_cons (pv 1) pa_nil))))))), ?_⟩
    refine ⟨_, rfl, _, rfl, p, a, rfl, hp, ⟨by omega, a1⟩, _, rfl, rfl, _, rfl, ite2 (fun z => ?_) (fun z => ?_)⟩
    · have z : a = 0 := V.int.inj (of_decide_eq_true z)
      omega
    · exact ⟨_, rfl, _, rfl, p, a, rfl, hp, a0, a1, q⟩
theorem D_is_root (T : Tx K mg) : Ow.Df P w K mg base CX0 5 "is_root" s_is_root ["prime", "value"] (sp_is_root_of) := by
  refine Ow.df_of T.f_is_root sc_is_root bd_is_root (fun vs H Q E h => ?_) (fun cdv A outer s H vs Q E f hG hR h => ?_)
  · obtain ⟨_, _, _, rfl, _⟩ := h
    rfl
  · obtain ⟨p, v, b, rfl, hp, hv, q⟩ := h
    have hu := hR.units
    have hu1 := hu_of hR
    refine ⟨_, (pss_cons (ps_expr (Ow.pe_d (D_check_prime T) hR (by decide) hG pass0 (by rfl) (pa_cons (pv 0) pa_nil)))
      (pss_one (ps_ret (Ow.pe_d (D_is_root_of T) hR (by decide) hG pass0 (by rfl) (pa_cons (pv 0) (pa_cons (pv 1) pa_nil)))))), ?_⟩
    exact ⟨_, rfl, p, rfl, hp, _, rfl, _, rfl, p, v, b, rfl, hp, hv, q⟩
def sp_least_root : Sp := fun vs H Q _ => ∃ p, vs = [.int p] ∧ Pr p ∧ ∀ g H', Same H H' → Root p g → (∀ h, 0 < h → h < g → ¬ Root p h) → Q (.int g) H'
theorem D_least_root (T : Tx K mg) : Ow.Df P w K mg base CX0 5 "least_root" s_least_root ["prime"] (sp_least_root) := by
  refine Ow.df_of T.f_least_root sc_least_root bd_least_root (fun vs H Q E h => ?_) (fun cdv A outer s H vs Q E f hG hR h => ?_)
  · obtain ⟨_, rfl, _⟩ := h
    rfl
  · obtain ⟨p, rfl, hp, q⟩ := h
    have hu := hR.units
    have hu1 := hu_of hR
    refine ⟨_, (pss_cons (ps_expr (Ow.pe_d (D_check_prime T) hR (by decide) hG pass0 (by rfl) (pa_cons (pv 0) pa_nil)))
      (pss_one (ps_ret (Ow.pe_d (D_least_full T) hR (by decide) hG pass0 (by rfl) (pa_cons (pv 0) (pa_cons (Ow.pe_d (D_primes_of T) hR (by decide) hG pass0 (by rfl) (pa_cons (pe_op op_sub (pv 0) pe_int) pa_nil)) pa_nil)))))), ?_⟩
    have lo := hp.lo
    have hi := hp.hi
    refine ⟨_, rfl, p, rfl, hp, _, rfl, _, rfl, _, _, rfl, rfl, p - 1, rfl, by omega, by omega, fun l qs H1 s1 hl el hq hn => ?_⟩
    exact ⟨p, l, qs, rfl, hp, el, hq, by omega, fun g H2 s2 hg hm => q g H2 (s1.trans s2) hg hm⟩
def sp_log_of : Sp := fun vs H Q _ => ∃ p g a, vs = [.int p, .int g, .int a] ∧ Pr p ∧ Root p g ∧ 0 < a ∧ a < p ∧ ∀ e : Nat, ∀ H', Same H H' → e < (p - 1).toNat → g ^ e % p = a → Q (.int (e : Int)) H'
theorem D_log_of (T : Tx K mg) : Ow.Df P w K mg base CX0 5 "log_of" s_log_of ["prime", "root", "one"] (sp_log_of) := by
  refine Ow.df_of T.f_log_of sc_log_of bd_log_of (fun vs H Q E h => ?_) (fun cdv A outer s H vs Q E f hG hR h => ?_)
  · obtain ⟨_, _, _, rfl, _⟩ := h
    rfl
  · obtain ⟨p, g, a, rfl, hp, hg, a0, a1, q⟩ := h
    have hu := hR.units
    have hu1 := hu_of hR
    refine ⟨_, (pss_cons (ps_expr (Ow.pe_d (D_check_prime T) hR (by decide) hG pass0 (by rfl) (pa_cons (pv 0) pa_nil)))
      (pss_cons (ps_if (pt_not (pt_val (Ow.pe_d (D_is_root_of T) hR (by decide) hG pass0 (by rfl) (pa_cons (pv 0) (pa_cons (pv 1) pa_nil)))))
      (pss_one ps_never)
      pss_nil)
      (pss_cons (ps_expr (Ow.pe_d (D_check_number T) hR (by decide) hG pass0 (by rfl) (pa_cons (pv 0) (pa_cons (pv 2) pa_nil))))
      (pss_cons (ps_if (pt_cmpR op_eq (pv 2) pe_int (nomark _))
      (pss_one ps_never)
      pss_nil)
      (pss_cons (ps_asg (pe_tup (pa_cons pe_int (pa_cons pe_int pa_nil))) (pg_tup rfl (pgs_cons (pg_name (i := 3) sc_log_of.nd rfl (Or.inl rfl)) (pgs_cons (pg_name (i := 4) sc_log_of.nd rfl (Or.inl rfl)) pgs_nil))))
      (pss_cons (ps_while PassesOwn.never (pt_cmpR op_ne (pv 4) (pv 2) (nomark _))
      (pss_one (ps_par (i := 3) (j := 4) rfl sc_log_of.nd rfl rfl (by decide) rfl rfl (pa_cons (pe_op op_add (pv 3) pe_int) (pa_cons (pe_op op_mod (pe_op op_mul (pv 4) (pv 1)) (pv 0)) pa_nil)) (by rfl))))
      (pss_one (ps_ret (pv 3))))))))), ?_⟩
    have lo := hp.lo
    have hi := hp.hi
    obtain ⟨g0, g1, go⟩ := id hg
    refine ⟨_, rfl, p, rfl, hp, _, rfl, _, rfl, p, .int g, true, rfl, hp, .int g, fun c H1 s1 hc => ⟨_, rfl, ?_⟩⟩
    have ec : c = true := hc.mpr ⟨g, rfl, hg⟩
    subst ec
    refine iteF ⟨_, rfl, _, rfl, p, a, rfl, ⟨by omega, a1⟩, _, rfl, rfl, _, rfl, ite2 (fun z => ?_) (fun z => ?_)⟩
    · have z : a = 0 := V.int.inj (of_decide_eq_true z)
      omega
    · obtain ⟨e, he, ea⟩ := hg.all hp a0 a1
      refine ⟨(by show 2 ≤ sizeLine; decide), ?_⟩
      intro tp hp_tp
      generalize hx_tp : upd _ tp _ = H0
      obtain ⟨s0, e0⟩ := fresh_of hp_tp hx_tp
      clear hx_tp
      refine ⟨tp, _, rfl, .inl (.inl e0), rfl, _, _, rfl, _, _, rfl, rfl, ?_⟩
      refine ⟨fun m σ H' => H' = H0 ∧ ∃ i : Nat, σ = [some (.int p), some (.int g), some (.int a), some (.int (i : Int)), some (.int (g ^ i % p))] ∧ m = e - i ∧ i ≤ e ∧ ∀ j : Nat, j < i → g ^ j % p ≠ a,
        ⟨_, rfl, 0, ?_, rfl, Nat.zero_le _, fun j hj => by omega⟩, ?_⟩
      · rw [Int.pow_zero, Int.emod_eq_of_lt (by omega) (by omega)]
        rfl
      rintro m σ H2 ⟨rfl, i, rfl, rfl, i1, i2⟩
      have n0 := Int.emod_nonneg (g ^ i) (show p ≠ 0 by omega)
      have n1 := Int.emod_lt_of_pos (g ^ i) (show 0 < p by omega)
      refine ⟨_, rfl, _, rfl, rfl, _, rfl, ?_⟩
      have ed : decide (V.int (g ^ i % p) = V.int a) = decide (g ^ i % p = a) := dec_v
      by_cases z : g ^ i % p = a
      · refine iteNS (congrArg V.int z) ?_
        exact ⟨_, rfl, q i H2 (s1.trans s0) (by omega) z⟩
      · have e2 : (!decide (V.int (g ^ i % p) = V.int a)) = true := by rw [ed, decide_eq_false z]; rfl
        rw [e2]
        refine iteT ⟨fun σ' H' => ∃ m', m' < _ ∧ _, fun _ _ h => h, ?_⟩
        have ilt : i < e := by
          rcases Nat.lt_or_ge i e with y | y
          · exact y
          · have : i = e := by omega
            rw [this] at z
            exact absurd ea z
        refine ⟨_, rfl, _, _, rfl, rfl, _, rfl, _, rfl, _, _, rfl, rfl, .inl ⟨by omega, by omega⟩, _, rfl, _, _, rfl, rfl, (by show (0 : Int) < _; omega), _, _, rfl, ?_⟩
        refine ⟨e - (i + 1), by omega, rfl, i + 1, ?_, rfl, by omega, fun j hj => ?_⟩
        · have e3 : g ^ (i + 1) % p = g ^ i % p * g % p := by
            rw [Int.pow_succ]
            exact ((Cg.rest p (g ^ i)).mul (Cg.refl p g)).emod.symm
          rw [e3]
          rfl
        · rcases Nat.lt_or_ge j i with y | y
          · exact i2 j y
          · have : j = i := by omega
            rw [this]
            exact z
end

end Eqr
namespace Eqr
open PySem PySem.Spec L2
/-! ### a walk over a list by places -/
theorem for_enum {K : PySem.W.Frag} {a : Addr} {xs : List V} {g : TG} {tb : TS} {D : Ends} {σ : L2.St} {H : Hp} (Pv : Nat → L2.St → Hp → Prop) (h0 : Pv 0 σ H) (hl : ∀ i σ H, i ≤ xs.length → Pv i σ H → SqL K H a xs)
    (hs : ∀ i x σ H T H', xs[i]? = some x → Pv i σ H → H T = none → Same H H' → H' T = some (.tup [.int ((i : Nat) : Int), x]) → g (.ref T) σ H' fun σ2 H2 => tb { D with nx := Pv (i + 1), ct := Pv (i + 1), bk := D.nx } σ2 H2) (hd : ∀ σ H, Pv xs.length σ H → D.nx σ H) :
    ∃ W : Nat → Nat → L2.St → Hp → Prop, (∃ m, W 0 m σ H) ∧ ∀ i m σ H, W i m σ H →
      ((Ite K a).stop i H ∧ D.nx σ H) ∨ ((Ite K a).go i H ∧ ∃ N : L2.St → Hp → Prop, (∀ σ' H', N σ' H' → ∃ m', m' < m ∧ W (i + 1) m' σ' H') ∧ ∀ x H', (Ite K a).yld i H x H' → g x σ H' fun σ2 H2 => tb { D with nx := N, ct := N, bk := D.nx } σ2 H2) := by
  refine ⟨fun i m σ H => m = xs.length - i ∧ i ≤ xs.length ∧ Pv i σ H, ⟨xs.length, by simp, Nat.zero_le _, h0⟩, ?_⟩
  rintro i m σ H ⟨rfl, hi, p⟩
  have q := hl i σ H hi p
  by_cases hlt : i < xs.length
  · refine .inr ⟨⟨xs, xs[i], q, by simp [hlt]⟩, Pv (i + 1), fun σ' H' p' => ⟨xs.length - (i + 1), by omega, rfl, hlt, p'⟩, ?_⟩
    rintro v H' ⟨T, x, rfl, hT, rfl, hx⟩
    exact hs i x σ H T _ (hx xs q) p hT (same_new hT) upd_same
  · have e : i = xs.length := by omega
    subst e
    exact .inl ⟨⟨xs, q, Nat.le_refl _⟩, hd σ H p⟩
section
variable {P : Program} {w : World} {K : PySem.W.Frag} {mg : Str → Option Value} {base : Heap}
def sp_law_divisor : Sp := fun vs H Q _ => ∃ x y, vs = [.int x, .int y] ∧ 0 < x ∧ x ≤ 100000 ∧ 0 ≤ y ∧ y ≤ 100000 ∧ Q (.int ((Nat.gcd x.toNat y.toNat : Nat) : Int)) H
theorem gcd_turn {u v : Int} (u0 : 0 < u) (v0 : 0 < v) : Nat.gcd v.toNat (u % v).toNat = Nat.gcd u.toNat v.toNat := by
  have e : (u % v).toNat = u.toNat % v.toNat := by
    have := Int.emod_nonneg u (show v ≠ 0 by omega)
    have e2 : ((u.toNat % v.toNat : Nat) : Int) = u % v := by
      rw [Int.natCast_emod]
      congr 1 <;> omega
    omega
  rw [e, Nat.gcd_comm u.toNat, Nat.gcd_rec v.toNat u.toNat, Nat.gcd_comm]
theorem D_law_divisor (T : Tx K mg) : Ow.Df P w K mg base CX0 1 "_law_divisor" s_law_divisor ["one", "late"] (sp_law_divisor) := by
  refine Ow.df_of T.f_law_divisor sc_law_divisor bd_law_divisor (fun vs H Q E h => ?_) (fun cdv A outer s H vs Q E f hG hR h => ?_)
  · obtain ⟨_, _, rfl, _⟩ := h
    rfl
  · obtain ⟨x, y, rfl, x0, x1, y0, y1, q⟩ := h
    have hu := hR.units
    have hu1 := hu_of hR
    refine ⟨_, (pss_cons (ps_for PassesOwn.never rfl (pi_range1 (by rfl) T.b_range (pa_cons pe_int pa_nil)) (pg_name (i := 2) sc_law_divisor.nd rfl (Or.inl rfl))
      (pss_one (ps_if (pt_cmpR op_gt (pv 1) pe_int (nomark _))
        (pss_one (ps_par (i := 0) (j := 1) rfl sc_law_divisor.nd rfl rfl (by decide) rfl rfl (pa_cons (pv 1) (pa_cons (pe_op op_mod (pe_callTy Ow.call_int (by rfl) T.b_int (by decide +kernel) (pa_cons (pv 0) pa_nil)) (pv 1)) pa_nil)) (by rfl)))
        pss_nil)))
      (pss_one (ps_ret (pv 0)))), ?_⟩
    refine ⟨60, rfl, by decide, by decide, for_range (lo := 0) (n := 60) (fun i σ H' => H' = H ∧ ∃ (u v : Int) (o : Option V), σ = [some (.int u), some (.int v), o] ∧ 0 < u ∧ 0 ≤ v ∧ Nat.gcd u.toNat v.toNat = Nat.gcd x.toNat y.toNat ∧ ((i = 0 ∧ u = x ∧ v = y) ∨ (v < u ∧ u * v * 2 ^ i ≤ 1099511627776)))
      ⟨rfl, x, y, none, rfl, x0, y0, rfl, .inl ⟨rfl, rfl, rfl⟩⟩ ?_ ?_⟩
    · rintro i σ H' hi ⟨rfl, u, v, o, rfl, u0, v0, hg, hb⟩
      have e2 : (2 : Int) ^ (i + 1) = 2 ^ i * 2 := Int.pow_succ 2 i
      have p2 : (0 : Int) < 2 ^ i := Int.pow_pos (by omega)
      refine ⟨_, rfl, _, _, rfl, rfl, _, rfl, ite2 (fun c => ?_) (fun c => ?_)⟩
      · have c : 0 < v := of_decide_eq_true c
        have n0 := Int.emod_nonneg u (show v ≠ 0 by omega)
        have n1 := Int.emod_lt_of_pos u c
        refine ⟨_, rfl, _, rfl, _, rfl, _, rfl, _, _, rfl, rfl, c, _, _, rfl, rfl, _, _, _, rfl, c, n0, (gcd_turn u0 c).trans hg, .inr ⟨n1, ?_⟩⟩
        rcases hb with ⟨rfl, rfl, rfl⟩ | ⟨b1, b2⟩
        · have : v * (u % v) ≤ 100000 * 100000 := Int.mul_le_mul (by omega) (by omega) (by omega) (by omega)
          show v * (u % v) * 2 ^ (0 + 1) ≤ 1099511627776
          omega
        · have e := Int.mul_ediv_add_emod u v
          have q1 : 1 ≤ u / v := by
            rw [Int.le_ediv_iff_mul_le c]
            omega
          have q2 : v * 1 ≤ v * (u / v) := Int.mul_le_mul_of_nonneg_left q1 (by omega)
          have q3 : u % v * 2 ≤ u := by omega
          have q4 : v * (u % v * 2) ≤ v * u := Int.mul_le_mul_of_nonneg_left q3 (by omega)
          have q5 : v * (u % v * 2) * 2 ^ i ≤ v * u * 2 ^ i := Int.mul_le_mul_of_nonneg_right q4 (by omega)
          rw [e2]
          have e3 : v * (u % v) * (2 ^ i * 2) = v * (u % v * 2) * 2 ^ i := by grind
          rw [e3]
          rw [Int.mul_comm v u] at q5
          omega
      · have c : ¬ 0 < v := fun z => c (decide_eq_true z)
        have e : v = 0 := by omega
        subst e
        exact ⟨rfl, _, _, _, rfl, u0, by omega, hg, .inr ⟨u0, by rw [Int.mul_zero, Int.zero_mul]; omega⟩⟩
    · rintro σ H' ⟨rfl, u, v, o, rfl, u0, v0, hg, hb⟩
      rcases hb with ⟨z, _⟩ | ⟨b1, b2⟩
      · omega
      · have e : v = 0 := by
          rcases Int.lt_or_le 0 v with z | z
          · have : 1 * 1 ≤ u * v := Int.mul_le_mul (by omega) z (by omega) (by omega)
            have : 1 * 2 ^ 60 ≤ u * v * 2 ^ 60 := Int.mul_le_mul_of_nonneg_right (by omega) (by omega)
            omega
          · omega
        subst e
        refine ⟨_, rfl, ?_⟩
        have e2 : ((Nat.gcd x.toNat y.toNat : Nat) : Int) = u := by
          rw [← hg]
          show ((Nat.gcd u.toNat 0 : Nat) : Int) = u
          rw [Nat.gcd_zero_right]
          omega
        rw [e2] at q
        exact q
def powsV (p a : Int) (d : Nat) : List V := (List.range d).map fun e => V.int (a ^ e % p)
theorem powsV_len (p a : Int) (d : Nat) : (powsV p a d).length = d := by unfold powsV; rw [List.length_map, List.length_range]
theorem powsV_at {p a : Int} {d e : Nat} (h : e < d) : (powsV p a d)[e]? = some (.int (a ^ e % p)) := by
  unfold powsV
  rw [List.getElem?_map, List.getElem?_range h]
  rfl
theorem powsV_succ (p a : Int) (d : Nat) : powsV p a (d + 1) = powsV p a d ++ [.int (a ^ d % p)] := by
  unfold powsV
  rw [List.range_succ, List.map_append]
  rfl
def sp_law_powers : Sp := fun vs H Q _ => ∃ p a, vs = [.int p, .int a] ∧ Pr p ∧ 0 < a ∧ a < p ∧ ∀ d l H', Ord p a d → Same H H' → H l = none → H' l = some (.lst (powsV p a d)) → Q (.ref l) H'
theorem D_law_powers (T : Tx K mg) : Ow.Df P w K mg base CX0 1 "_law_powers" s_law_powers ["prime", "one"] (sp_law_powers) := by
  refine Ow.df_of T.f_law_powers sc_law_powers bd_law_powers (fun vs H Q E h => ?_) (fun cdv A outer s H vs Q E f hG hR h => ?_)
  · obtain ⟨_, _, rfl, _⟩ := h
    rfl
  · obtain ⟨p, a, rfl, hp, a0, a1, q⟩ := h
    have hu := hR.units
    have hu1 := hu_of hR
    refine ⟨_, (pss_cons (ps_par (i := 2) (j := 3) rfl sc_law_powers.nd rfl rfl (by decide) rfl rfl (pa_cons (pe_lst (pa_cons pe_int pa_nil)) (pa_cons (pv 1) pa_nil)) (by rfl))
      (pss_cons (ps_for PassesOwn.never rfl (pi_range1 (by rfl) T.b_range (pa_cons (pv 0) pa_nil)) (pg_name (i := 4) sc_law_powers.nd rfl (Or.inl rfl))
      (pss_cons (ps_if (pt_cmpR op_eq (pv 3) pe_int (nomark _))
        (pss_one (ps_ret (pv 2)))
        pss_nil)
        (pss_cons (ps_expr (pe_bm PySem.F.plainAttrs_list PySem.F.slot_list_append PySem.F.type_list_append mt_append (pv 2) (pa_cons (pv 3) pa_nil)))
        (pss_one (ps_set (i := 3) sc_law_powers.nd rfl (Or.inl rfl) (pe_op op_mod (pe_callTy Ow.call_int (by rfl) T.b_int (by decide +kernel) (pa_cons (pe_op op_mul (pv 3) (pv 1)) pa_nil)) (pv 0)))))))
      (pss_one (ps_ret (pv 2))))), ?_⟩
    have lo := hp.lo
    have hi := hp.hi
    have e1 : (1 : Int) % p = 1 := Int.emod_eq_of_lt (by omega) (by omega)
    refine ⟨(by show 1 ≤ sizeLine; decide), ?_⟩
    intro l hp_l
    generalize hx_l : upd _ l _ = H1
    obtain ⟨s1, el⟩ := fresh_of hp_l hx_l
    clear hx_l
    refine ⟨_, rfl, _, _, rfl, ?_⟩
    refine ⟨_, rfl, p, rfl, by omega, by omega, for_range (lo := 0) (n := p.toNat) (fun i σ H' => Same H H' ∧ (∃ o, σ = [some (.int p), some (.int a), some (.ref l), some (.int (a ^ (i + 1) % p)), o]) ∧ H' l = some (.lst (powsV p a (i + 1))) ∧ ∀ e : Nat, 0 < e → e ≤ i → ¬ Cg p (a ^ e) 1)
      ⟨s1, ⟨none, ?_⟩, ?_, fun e e0 e1 => by omega⟩ ?_ ?_⟩
    · have e2 : a ^ (0 + 1) % p = a := by
        rw [Int.pow_succ, Int.pow_zero, Int.one_mul, Int.emod_eq_of_lt (by omega) a1]
      rw [e2]
      rfl
    · rw [el]
      show some (HO.lst [V.int 1]) = some (.lst [V.int (a ^ 0 % p)])
      rw [Int.pow_zero, e1]
    · rintro i σ H2 hi2 ⟨s2, ⟨o, rfl⟩, e2, hno⟩
      have n0 := Int.emod_nonneg (a ^ (i + 1)) (show p ≠ 0 by omega)
      have n1 := Int.emod_lt_of_pos (a ^ (i + 1)) (show 0 < p by omega)
      refine ⟨_, rfl, rfl, _, rfl, ite2 (fun z => ?_) (fun z => ?_)⟩
      · have z : a ^ (i + 1) % p = 1 := V.int.inj (of_decide_eq_true z)
        exact ⟨_, rfl, q (i + 1) l H2 ⟨by omega, Cg.of (by rw [z, e1]), fun e e0 e1 => hno e e0 (by omega)⟩ s2 hp_l e2⟩
      · have z : a ^ (i + 1) % p ≠ 1 := fun e => z (decide_eq_true (congrArg V.int e))
        refine ⟨_, rfl, .inl ⟨rfl, _, .of e2⟩, _, rfl, l, _, _, rfl, rfl, e2, by rw [powsV_len]; exact Evl.sz_lt (by omega), ?_⟩
        refine ⟨_, rfl, _, rfl, _, _, rfl, rfl, .inl ⟨by omega, by omega⟩, _, rfl, _, rfl, _, _, rfl, rfl, (by show (0 : Int) < _; omega), ?_⟩
        refine ⟨fun b u y => by rw [upd_ne (ne_of_none y hp_l)]; exact s2 b u y, ⟨some (.int ((0 : Int) + (i : Int))), ?_⟩, ?_, fun e e0 e1' => ?_⟩
        · have e3 : a ^ (i + 1 + 1) % p = a ^ (i + 1) % p * a % p := by
            rw [Int.pow_succ]
            exact ((Cg.rest p (a ^ (i + 1))).mul (Cg.refl p a)).emod.symm
          rw [e3]
          rfl
        · rw [upd_same, powsV_succ p a (i + 1)]
        · rcases Nat.lt_or_ge e (i + 1) with y | y
          · exact hno e e0 (by omega)
          · have : e = i + 1 := by omega
            subst this
            intro c
            have := c.emod
            rw [e1] at this
            exact z this
    · rintro σ H2 ⟨s2, ⟨o, rfl⟩, e2, hno⟩
      obtain ⟨d, hd⟩ := ord_ex hp a0 a1
      have := hd.le hp a0 a1
      exact absurd hd.one (hno d hd.pos (by omega))
theorem D_law_least_root (T : Tx K mg) : Ow.Df P w K mg base CX0 2 "_law_least_root" s_law_least_root ["prime"] (sp_least_root) := by
  refine Ow.df_of T.f_law_least_root sc_law_least_root bd_law_least_root (fun vs H Q E h => ?_) (fun cdv A outer s H vs Q E f hG hR h => ?_)
  · obtain ⟨_, rfl, _⟩ := h
    rfl
  · obtain ⟨p, rfl, hp, q⟩ := h
    have hu := hR.units
    have hu1 := hu_of hR
    refine ⟨_, (pss_cons (ps_for PassesOwn.never rfl (pi_range2 (by rfl) T.b_range (pa_cons pe_int (pa_cons (pv 0) pa_nil))) (pg_name (i := 1) sc_law_least_root.nd rfl (Or.inl rfl))
      (pss_one (ps_if (pt_cmpR op_eq (pe_callB call_len_seq (by rfl) T.b_len (by decide +kernel) (pa_cons (Ow.pe_d (D_law_powers T) hR (by decide) hG pass0 (by rfl) (pa_cons (pv 0) (pa_cons (pv 1) pa_nil))) pa_nil)) (pe_op op_sub (pv 0) pe_int) (nomark _))
        (pss_one (ps_ret (pv 1)))
        pss_nil)))
      (pss_one (ps_ret pe_int))), ?_⟩
    have lo := hp.lo
    have hi := hp.hi
    refine ⟨_, rfl, 1, p, rfl, ⟨by omega, by omega, by omega, by omega⟩, for_range (lo := 1) (n := (p - 1).toNat) (fun i σ H' => Same H H' ∧ (∃ o, σ = [some (.int p), o]) ∧ ∀ h : Int, 0 < h → h < 1 + (i : Int) → ¬ Root p h)
      ⟨Same.refl H, ⟨_, rfl⟩, fun h h0 h1 => by omega⟩ ?_ ?_⟩
    · rintro i σ H1 hi1 ⟨s1, ⟨o, rfl⟩, hno⟩
      refine ⟨_, rfl, _, rfl, p, 1 + (i : Int), rfl, hp, by omega, by omega, fun d l H2 od s2 _ el => ?_⟩
      refine ⟨l, _, rfl, .inl (.of el), ?_⟩
      rw [powsV_len]
      refine ⟨_, rfl, _, _, rfl, rfl, rfl, _, rfl, ite2 (fun z => ?_) (fun z => ?_)⟩
      · have z : (d : Int) = p - 1 := V.int.inj (of_decide_eq_true z)
        have e : d = (p - 1).toNat := by omega
        subst e
        exact ⟨_, rfl, q _ H2 (s1.trans s2) ⟨by omega, by omega, od⟩ fun h h0 h1 => hno h h0 h1⟩
      · have z : (d : Int) ≠ p - 1 := fun e => z (decide_eq_true (congrArg V.int e))
        refine ⟨s1.trans s2, ⟨_, rfl⟩, fun h h0 h1 => ?_⟩
        rcases Int.lt_or_le h (1 + (i : Int)) with y | y
        · exact hno h h0 y
        · have e : h = 1 + (i : Int) := by omega
          subst e
          intro r
          have := r.2.2.uniq od
          omega
    · rintro σ H1 ⟨s1, ⟨o, rfl⟩, hno⟩
      obtain ⟨g, hg⟩ := root_ex hp
      exact absurd hg (hno g hg.1 (by have := hg.2.1; omega))
def sp_law_orders_right : Sp := fun vs H Q _ => ∃ a p, vs = [.ref a, .int p] ∧ PotAt H a ∧ Pr p ∧ ∀ H', Stp a H H' → Q (.bl true) H'
theorem pow_pos' {p x m r : Int} (hp : Pr p) (x0 : 0 < x) (x1 : x < p) (m0 : 0 ≤ m) (h : PowIs p x m r) : 0 < r ∧ r < p := by
  have hr := h.1
  have := pow_ne hp x0 x1 m.toNat
  rw [← (h.2.1 m0).emod, Int.emod_eq_of_lt hr.1 hr.2] at this
  omega
theorem back_pos {p x r : Int} (hp : Pr p) (hr : Nm p r) (h : Cg p (r * x) 1) : 0 < r := by
  have lo := hp.lo
  have r0 := hr.1
  rcases Int.lt_or_le 0 r with z | z
  · exact z
  · have e : r = 0 := by omega
    have := h.emod
    rw [e, Int.zero_mul, Int.zero_emod, Int.emod_eq_of_lt (by omega) (by omega)] at this
    omega
/-- what a list of drawn numbers holds -/
theorem all_app {R : V → Prop} {xs ys : List V} (h1 : ∀ v ∈ xs, R v) (h2 : ∀ (k : Nat) v, ys[k]? = some v → R v) : ∀ v ∈ xs ++ ys, R v := by
  intro v hv
  rcases List.mem_append.mp hv with hv | hv
  · exact h1 v hv
  · obtain ⟨i, a, b⟩ := List.mem_iff_getElem.mp hv
    exact h2 i v (by rw [List.getElem?_eq_getElem a, b])
theorem D_law_orders_right (T : Tx K mg) : Ow.Df P w K mg base CX0 7 "_law_orders_right" s_law_orders_right ["pot", "prime"] (sp_law_orders_right) := by
  refine Ow.df_of T.f_law_orders_right sc_law_orders_right bd_law_orders_right (fun vs H Q E h => ?_) (fun cdv A outer s H vs Q E f hG hR h => ?_)
  · obtain ⟨_, _, rfl, _⟩ := h
    rfl
  · obtain ⟨a, p, rfl, hpot, hp, q⟩ := h
    have hu := hR.units
    have hu1 := hu_of hR
    refine ⟨_, (pss_cons (ps_for PassesOwn.never rfl (pi_list (pe_op op_cat (pe_lst (pa_cons pe_int (pa_cons (pe_op op_sub (pv 1) pe_int) (pa_cons pe_int pa_nil)))) (pe_lc (own := [("turn", 3)]) (g := gName 3) rfl sc_law_orders_right.nd (pi_range1 (by rfl) T.b_range (pa_cons pe_int pa_nil)) (blkOk_by (N := ["pot", "prime", "one", "turn", "due", "many"]) (sc := defScope s_law_orders_right) (by decide +kernel)) (fun _ _ _ _ _ => pg_name (i := 3) sc_law_orders_right.nd rfl (Or.inl rfl)) (fun _ _ _ _ _ => pts_nil) (fun _ _ _ _ _ => (pe_op op_add pe_int (Ow.pe_d (D_law_draw T) hR (by decide) hG pass0 (by rfl) (pa_cons (pv 0) (pa_cons (pe_op op_sub (pv 1) pe_int) pa_nil)))))))) (pg_name (i := 2) sc_law_orders_right.nd rfl (Or.inl rfl))
      (pss_cons (ps_set (i := 4) sc_law_orders_right.nd rfl (Or.inl rfl) (pe_callB call_len_seq (by rfl) T.b_len (by decide +kernel) (pa_cons (Ow.pe_d (D_law_powers T) hR (by decide) hG pass0 (by rfl) (pa_cons (pv 1) (pa_cons (pv 2) pa_nil))) pa_nil)))
        (pss_cons (ps_if (PW.pt (pw_or (pt_not (pt_val (Ow.pe_d (D_law_are_told T) hR (by decide) hG pass0 (by rfl) (pa_cons (pe_lst (pa_cons (Ow.pe_d (D_order_of T) hR (by decide) hG pass0 (by rfl) (pa_cons (pv 1) (pa_cons (pv 2) pa_nil))) (pa_cons (Ow.pe_dk0 (D_order_of T) hR (by decide) hG pass0 w_order_of_0_one_prime (by rfl) (pk_cons (pv 2) (pk_cons (pv 1) pk_nil))) pa_nil))) (pa_cons (pv 4) pa_nil))))) (pw_or1 (pt_cmpR op_ne (pe_op op_mod (pe_callTy Ow.call_int (by rfl) T.b_int (by decide +kernel) (pa_cons (pe_op op_sub (pv 1) pe_int) pa_nil)) (pv 4)) pe_int (nomark _)))))
        (pss_one (ps_ret pe_bl))
        pss_nil)
        (pss_cons (ps_set (i := 5) sc_law_orders_right.nd rfl (Or.inl rfl) (pe_op op_add pe_int (Ow.pe_d (D_law_draw T) hR (by decide) hG pass0 (by rfl) (pa_cons (pv 0) (pa_cons (pe_op op_mul pe_int (pv 1)) pa_nil)))))
        (pss_one (ps_if (PW.pt (pw_or (pt_cmpR op_ne (Ow.pe_d (D_order_of T) hR (by decide) hG pass0 (by rfl) (pa_cons (pv 1) (pa_cons (Ow.pe_d (D_power T) hR (by decide) hG pass0 (by rfl) (pa_cons (pv 1) (pa_cons (pv 2) (pa_cons (pv 5) pa_nil)))) pa_nil))) (pe_op Ow.op_div (pv 4) (Ow.pe_d (D_law_divisor T) hR (by decide) hG pass0 (by rfl) (pa_cons (pv 4) (pa_cons (pv 5) pa_nil)))) (nomark _)) (pw_or1 (pt_cmpR op_ne (Ow.pe_d (D_order_of T) hR (by decide) hG pass0 (by rfl) (pa_cons (pv 1) (pa_cons (Ow.pe_d (D_back T) hR (by decide) hG pass0 (by rfl) (pa_cons (pv 1) (pa_cons (pv 2) pa_nil))) pa_nil))) (pv 4) (nomark _)))))
        (pss_one (ps_ret pe_bl))
        pss_nil))))))
      (pss_one (ps_ret pe_bl))), ?_⟩
    have lo := hp.lo
    have hi := hp.hi
    refine ⟨_, rfl, _, _, rfl, rfl, (by show 3 ≤ sizeLine; decide), ?_⟩
    intro l1 hp_l1
    generalize hx_l1 : upd _ l1 _ = H1
    obtain ⟨s1, e1⟩ := fresh_of hp_l1 hx_l1
    clear hx_l1
    have p1 := hpot.same s1
    refine ⟨3, rfl, by decide, by decide, fun D hD => ?_⟩
    refine comp_range (S := Stp a) (fun _ v => ∃ d, v = .int d ∧ 0 < d ∧ d < p) (Fair.pot hD p1) (by show 3 < 1000; omega) (fun x => rfl) ?_ ?_
    · intro i H' _ s Q' k
      exact ⟨_, rfl, _, rfl, _, _, rfl, rfl, a, p - 1, rfl, s.pot, by omega, by omega, fun d H3 s3 d0 d1 => ⟨_, _, rfl, rfl, k _ _ s3 ⟨_, rfl, by omega, by omega⟩⟩⟩
    intro xs H2 hlen hxs s2 eD
    refine ⟨l1, D, _, _, rfl, rfl, s2.kp _ _ (hpot.ne hp_l1) e1, eD, by show 3 + xs.length ≤ sizeLine; rw [hlen]; decide, ?_⟩
    intro n hp_n
    generalize hx_n : upd _ n _ = H3
    obtain ⟨s3, en⟩ := fresh_of hp_n hx_n
    clear hx_n
    have st3 := ((Stp.of hpot s1).trans s2).same s3
    have nn := ((Stp.of hpot s1).trans s2).pot.ne hp_n
    have hL := all_app (R := fun v => ∃ d, v = .int d ∧ 0 < d ∧ d < p) (xs := [V.int 1, V.int (p - 1), V.int 2]) (fun v hv => by
      simp only [List.mem_cons, List.not_mem_nil, or_false] at hv
      rcases hv with rfl | rfl | rfl <;> exact ⟨_, rfl, by omega, by omega⟩) hxs
    refine ⟨n, rfl, ⟨_, .of en⟩, for_list (K := K) (a := n) (fun i σ H' => Stp a H3 H' ∧ ∃ o2 o3 o4 o5, σ = [some (.ref a), some (.int p), o2, o3, o4, o5])
      ⟨Stp.refl st3.pot, _, _, _, _, rfl⟩ (fun i σ H' _ h => .of (h.1.kp _ _ nn en)) ?_ ?_⟩
    · rintro i v σ H4 hv ⟨st4, o2, o3, o4, o5, rfl⟩
      obtain ⟨x, rfl, x0, x1⟩ := hL v (List.mem_of_getElem? hv)
      refine ⟨_, rfl, _, rfl, p, x, rfl, hp, x0, x1, fun d l H5 od s5 _ el => ?_⟩
      have d0 := od.pos
      have d1 := od.le hp x0 x1
      refine ⟨l, _, rfl, .inl (.of el), ?_⟩
      rw [powsV_len]
      refine ⟨_, rfl, _, rfl, p, x, rfl, hp, x0, x1, fun d2 H6 s6 od2 => ?_⟩
      refine ⟨_, rfl, _, rfl, rfl, rfl, p, x, rfl, hp, x0, x1, fun d3 H7 s7 od3 => ⟨(by show 2 ≤ sizeLine; decide), ?_⟩⟩
      intro l2 hp_l2
      generalize hx_l2 : upd _ l2 _ = H8
      obtain ⟨s8, e8⟩ := fresh_of hp_l2 hx_l2
      clear hx_l2
      have f2 := od2.uniq od
      have f3 := od3.uniq od
      subst f2 f3
      refine ⟨_, rfl, l2, [(d3 : Int), (d3 : Int)], _, rfl, e8, by show 2 < 1000; omega, fun H9 s9 => ⟨_, rfl, ?_⟩⟩
      rw [told2 rfl rfl]
      have t1 := s5.trans (s6.trans (s7.trans (s8.trans s9)))
      refine iteF ?_
      have ed : (p - 1) % (d3 : Int) = 0 := by
        have := int_dvd (od3.div hp x0 x1)
        have e : (((p - 1).toNat : Nat) : Int) = p - 1 := by omega
        rw [e] at this
        exact this
      refine ⟨_, rfl, _, _, rfl, rfl, _, rfl, _, rfl, _, _, rfl, rfl, (by show (0 : Int) < _; omega), rfl, _, rfl, iteNS (congrArg V.int ed) ?_⟩
      have st9 := st4.same t1
      refine ⟨_, rfl, _, rfl, _, _, rfl, rfl, (by first | exact .inl ⟨by omega, by omega⟩ | exact .inr ⟨by omega, by omega⟩), a, 2 * p, rfl, st9.pot, by omega, by omega, fun m H10 s10 m0 m1 => ⟨_, _, rfl, rfl, ?_⟩⟩
      refine ⟨_, rfl, _, rfl, _, rfl, _, rfl, p, x, 1 + m, rfl, hp, ⟨by omega, x1⟩, by omega, by omega, fun z => by omega, fun r H11 s11 hr => ?_⟩
      obtain ⟨r0, r1⟩ := pow_pos' hp x0 x1 (by omega) hr
      refine ⟨p, r, rfl, hp, r0, r1, fun d4 H12 s12 od4 => ?_⟩
      have e4 := od4.uniq ((od3.pow (m := (1 + m).toNat)).cong (hr.2.1 (by omega)).symm)
      refine ⟨_, rfl, _, rfl, _, rfl, (d3 : Int), 1 + m, rfl, by omega, by omega, by omega, by omega, ?_⟩
      have g0 : 0 < Nat.gcd d3 (1 + m).toNat := Nat.gcd_pos_of_pos_left _ d0
      have g1 : Nat.gcd d3 (1 + m).toNat ≤ d3 := Nat.le_of_dvd d0 (Nat.gcd_dvd_left _ _)
      have ed3 : ((d3 : Int)).toNat = d3 := by omega
      rw [ed3]
      refine ⟨_, _, rfl, rfl, ⟨by omega, by omega⟩, rfl, _, rfl, iteNS ?_ ?_⟩
      · rw [e4, Int.natCast_ediv]
      · refine ⟨_, rfl, _, rfl, _, rfl, p, x, rfl, hp, x0, x1, fun r5 H13 s13 hr5 c5 => ?_⟩
        refine ⟨p, r5, rfl, hp, back_pos hp hr5 c5, hr5.2, fun d5 H14 s14 od5 => ⟨_, rfl, rfl, _, rfl, iteNS ?_ ?_⟩⟩
        · rw [od5.uniq (od3.back c5)]
        · exact ⟨(st9.trans s10).same (s11.trans (s12.trans (s13.trans s14))), _, _, _, _, rfl⟩
    · rintro σ H4 ⟨st4, o2, o3, o4, o5, rfl⟩
      exact q H4 (st3.trans st4)
def sp_law_roots_right : Sp := fun vs H Q _ => ∃ a p g, vs = [.ref a, .int p, .int g] ∧ PotAt H a ∧ Pr p ∧ Root p g ∧ (∀ h, 0 < h → h < g → ¬ Root p h) ∧ ∀ H', Stp a H H' → Q (.bl true) H'
theorem log2_small {i : Int} (h0 : 0 ≤ i) (h1 : i < 100000) : i.natAbs.log2 < 1920 := by
  rcases Nat.eq_zero_or_pos i.natAbs with z | z
  · rw [z]
    decide
  · have := (Nat.log2_lt (by omega : i.natAbs ≠ 0)).mpr (show i.natAbs < 2 ^ 20 by omega)
    omega
theorem least_one {p g h : Int} (hg : Root p g) (mg : ∀ h, 0 < h → h < g → ¬ Root p h) (hh : Root p h) (mh : ∀ x, 0 < x → x < h → ¬ Root p x) : h = g := by
  have a1 := hg.1
  have a2 := hh.1
  rcases Int.lt_or_le h g with z | z
  · exact absurd hh (mg h a2 z)
  · rcases Int.lt_or_le g h with y | y
    · exact absurd hg (mh g a1 y)
    · omega
theorem D_law_roots_right (T : Tx K mg) : Ow.Df P w K mg base CX0 6 "_law_roots_right" s_law_roots_right ["pot", "prime", "least"] (sp_law_roots_right) := by
  refine Ow.df_of T.f_law_roots_right sc_law_roots_right bd_law_roots_right (fun vs H Q E h => ?_) (fun cdv A outer s H vs Q E f hG hR h => ?_)
  · obtain ⟨_, _, _, rfl, _⟩ := h
    rfl
  · obtain ⟨a, p, g, rfl, hpot, hp, hg, mg, q⟩ := h
    have hu := hR.units
    have hu1 := hu_of hR
    refine ⟨_, (pss_cons (ps_if (pt_not (pt_val (Ow.pe_d (D_law_are_told T) hR (by decide) hG pass0 (by rfl) (pa_cons (pe_lst (pa_cons (Ow.pe_d (D_least_root T) hR (by decide) hG pass0 (by rfl) (pa_cons (pv 1) pa_nil)) (pa_cons (Ow.pe_dk0 (D_least_root T) hR (by decide) hG pass0 w_least_root_0_prime (by rfl) (pk_cons (pv 1) pk_nil)) pa_nil))) (pa_cons (pv 2) pa_nil)))))
      (pss_one (ps_ret pe_bl))
      pss_nil)
      (pss_cons (ps_set (i := 3) sc_law_roots_right.nd rfl (Or.inl rfl) (pe_op op_cat (pe_lst (pa_cons pe_int (pa_cons pe_int (pa_cons pe_int (pa_cons (pv 2) (pa_cons (pe_op op_sub (pv 2) pe_int) (pa_cons (pe_op op_sub (pv 1) pe_int) (pa_cons (pv 1) (pa_cons (pe_op op_add (pv 1) (pv 2)) (pa_cons (pe_op op_sub pe_int (pv 2)) pa_nil)))))))))) (pe_lc (own := [("turn", 4)]) (g := gName 4) rfl sc_law_roots_right.nd (pi_range1 (by rfl) T.b_range (pa_cons pe_int pa_nil)) (blkOk_by (N := ["pot", "prime", "least", "some", "turn", "value", "is_number", "is_so"]) (sc := defScope s_law_roots_right) (by decide +kernel)) (fun _ _ _ _ _ => pg_name (i := 4) sc_law_roots_right.nd rfl (Or.inl rfl)) (fun _ _ _ _ _ => pts_nil) (fun _ _ _ _ _ => (Ow.pe_d (D_law_draw T) hR (by decide) hG pass0 (by rfl) (pa_cons (pv 0) (pa_cons (pv 1) pa_nil)))))))
      (pss_cons (ps_for PassesOwn.never rfl (pi_list (pe_op op_cat (pv 3) (pe_lst (pa_cons pe_non (pa_cons pe_bl (pa_cons pe_str (pa_cons (pe_tup (pa_cons (pv 2) pa_nil)) (pa_cons (pe_lst pa_nil) (pa_cons (pe_op op_pow pe_int pe_int) (pa_cons (pe_callTy call_str_int (by rfl) T.b_str (by decide +kernel) (pa_cons (pv 2) pa_nil)) pa_nil)))))))))) (pg_name (i := 5) sc_law_roots_right.nd rfl (Or.inl rfl))
      (Evl.pss_cut (ps_set (i := 6) sc_law_roots_right.nd rfl (Or.inl rfl) (pe_and (pe_callB call_isi (by rfl) T.b_isinstance (by decide +kernel) (pa_cons (pv 5) (pa_cons (pe_bltn (v := .ty "int") (by rfl) T.b_int (by decide +kernel) rfl) pa_nil))) (pe_and (pe_not (pe_callB call_isi (by rfl) T.b_isinstance (by decide +kernel) (pa_cons (pv 5) (pa_cons (pe_bltn (v := .ty "bool") (by rfl) T.b_bool (by decide +kernel) rfl) pa_nil)))) (pe_one (pe_chain op_lt op_lt pe_int (pv 5) (pv 1))))))
        (Evl.pss_cut (ps_set (i := 7) sc_law_roots_right.nd rfl (Or.inl rfl) (pe_and (pv 6) (pe_one (pe_cmpR op_eq (pe_callB call_len_seq (by rfl) T.b_len (by decide +kernel) (pa_cons (Ow.pe_d (D_law_powers T) hR (by decide) hG pass0 (by rfl) (pa_cons (pv 1) (pa_cons (pv 5) pa_nil))) pa_nil)) (pe_op op_sub (pv 1) pe_int) (nomark _)))))
        (pss_one (ps_if (pt_cmpR op_ne (pe_callB (Ow.call_show hu hG) (by rfl) T.b_repr (by decide +kernel) (pa_cons (pe_lst (pa_cons (Ow.pe_d (D_is_root T) hR (by decide) hG pass0 (by rfl) (pa_cons (pv 1) (pa_cons (pv 5) pa_nil))) (pa_cons (Ow.pe_dk0 (D_is_root T) hR (by decide) hG pass0 w_is_root_0_value_prime (by rfl) (pk_cons (pv 5) (pk_cons (pv 1) pk_nil))) pa_nil))) pa_nil)) (pe_callB (Ow.call_show hu hG) (by rfl) T.b_repr (by decide +kernel) (pa_cons (pe_lst (pa_cons (pv 7) (pa_cons (pv 7) pa_nil))) pa_nil)) (nomark _))
        (pss_one (ps_ret pe_bl))
        pss_nil)))))
      (pss_one (ps_ret pe_bl))))), ?_⟩
    have lo := hp.lo
    have hi := hp.hi
    have g0 := hg.1
    have g1 := hg.2.1
    refine ⟨_, rfl, p, rfl, hp, fun x1 H1 s1 r1 m1 => ⟨_, rfl, rfl, rfl, p, rfl, hp, fun x2 H2 s2 r2 m2 => ⟨(by show 2 ≤ sizeLine; decide), ?_⟩⟩⟩
    intro l0 hp_l0
    generalize hx_l0 : upd _ l0 _ = H3
    obtain ⟨s3, e3⟩ := fresh_of hp_l0 hx_l0
    clear hx_l0
    refine ⟨_, rfl, l0, [x1, x2], _, rfl, e3, by show 2 < 1000; omega, fun H4 s4 => ⟨_, rfl, ?_⟩⟩
    rw [told2 (least_one hg mg r1 m1) (least_one hg mg r2 m2)]
    refine iteF ?_
    have st4 := Stp.of hpot (s1.trans (s2.trans (s3.trans s4)))
    refine ⟨_, rfl, _, rfl, _, _, rfl, rfl, _, rfl, _, _, rfl, rfl, _, rfl, _, rfl, _, rfl, _, _, rfl, rfl, _, rfl, _, _, rfl, rfl, (by show 9 ≤ sizeLine; decide), ?_⟩
    intro l1 hp_l1
    generalize hx_l1 : upd _ l1 _ = H5
    obtain ⟨s5, e5⟩ := fresh_of hp_l1 hx_l1
    clear hx_l1
    have st5 := st4.same s5
    have n1 := st4.pot.ne hp_l1
    refine ⟨5, rfl, by decide, by decide, fun D hD => ?_⟩
    refine comp_range (S := Stp a) (fun _ v => ∃ d, v = .int d) (Fair.pot hD st5.pot) (by show 5 < 1000; omega) (fun x => rfl) ?_ ?_
    · intro i H' _ s Q' k
      exact ⟨_, rfl, _, rfl, a, p, rfl, s.pot, by omega, by omega, fun d H3 s3 d0 d1 => k _ _ s3 ⟨d, rfl⟩⟩
    intro xs H6 hlen hxs s6 eD
    refine ⟨l1, D, _, _, rfl, rfl, s6.kp _ _ n1 e5, eD, by show 9 + xs.length ≤ sizeLine; rw [hlen]; decide, ?_⟩
    intro n hp_n
    generalize hx_n : upd _ n _ = H7
    obtain ⟨s7, en⟩ := fresh_of hp_n hx_n
    clear hx_n
    have st7 := (st5.trans s6).same s7
    have hL := all_app (R := fun v => ∃ d, v = .int d) (xs := [V.int 0, V.int 1, V.int 2, V.int g, V.int (g - 1), V.int (p - 1), V.int p, V.int (p + g), V.int (0 - g)]) (fun v hv => by
      simp only [List.mem_cons, List.not_mem_nil, or_false] at hv
      rcases hv with rfl | rfl | rfl | rfl | rfl | rfl | rfl | rfl | rfl <;> exact ⟨_, rfl⟩) hxs
    have hLn : ([V.int 0, V.int 1, V.int 2, V.int g, V.int (g - 1), V.int (p - 1), V.int p, V.int (p + g), V.int (0 - g)] ++ xs).length = 14 := by
      rw [List.length_append, hlen]
      rfl
    revert hL hLn en
    generalize [V.int 0, V.int 1, V.int 2, V.int g, V.int (g - 1), V.int (p - 1), V.int p, V.int (p + g), V.int (0 - g)] ++ xs = L
    intro en hL hLn
    refine ⟨_, rfl, _, rfl, (by show 1 ≤ sizeLine; decide), ?_⟩
    intro t hp_t
    generalize hx_t : upd _ t _ = H8
    obtain ⟨s8, et⟩ := fresh_of hp_t hx_t
    clear hx_t
    refine ⟨Nat.zero_le _, ?_⟩
    intro e hp_e
    generalize hx_e : upd _ e _ = H9
    obtain ⟨s9, ee⟩ := fresh_of hp_e hx_e
    clear hx_e
    refine ⟨_, _, rfl, rfl, ⟨by decide, by decide, by decide⟩, _, rfl, _, rfl, log2_small (by omega) (by omega), (by show 7 ≤ sizeLine; decide), ?_⟩
    intro l hp_l
    generalize hx_l : upd _ l _ = H10
    obtain ⟨s10, el⟩ := fresh_of hp_l hx_l
    clear hx_l
    refine ⟨n, l, L, _, rfl, rfl, s10 _ _ (s9 _ _ (s8 _ _ en)), el, by show L.length + 7 ≤ sizeLine; rw [hLn]; decide, ?_⟩
    intro c hp_c
    generalize hx_c : upd _ c _ = H11
    obtain ⟨s11, ec⟩ := fresh_of hp_c hx_c
    clear hx_c
    have st11 := st7.same (s8.trans (s9.trans (s10.trans s11)))
    have et := s11 _ _ (s10 _ _ (s9 _ _ et))
    have ee := s11 _ _ (s10 _ _ ee)
    refine ⟨c, rfl, ⟨_, .of ec⟩, for_list (K := K) (a := c) (fun i σ H' => Same H11 H' ∧ ∃ o5 o6 o7, σ = [some (.ref a), some (.int p), some (.int g), some (.ref n), none, o5, o6, o7])
      ⟨Same.refl _, _, _, _, rfl⟩ (fun i σ H' _ h => h.1.seq (.of ec)) ?_ ?_⟩
    · rintro i v σ H13 hv ⟨sm, o5, o6, o7, rfl⟩
      obtain ⟨b, hb⟩ : ∃ b, IsV H13 v b := by
        have hm := List.mem_of_getElem? hv
        rcases List.mem_append.mp hm with hm | hm
        · obtain ⟨d, rfl⟩ := hL v hm
          exact ⟨_, .int _⟩
        · simp only [List.mem_cons, List.not_mem_nil, or_false] at hm
          rcases hm with rfl | rfl | rfl | rfl | rfl | rfl | rfl
          · exact ⟨_, .non⟩
          · exact ⟨_, .bl _⟩
          · exact ⟨_, .str _⟩
          · exact ⟨_, .tup (sm _ _ et)⟩
          · exact ⟨_, .lst (sm _ _ ee)⟩
          · exact ⟨_, .int _⟩
          · exact ⟨_, .str _⟩
      refine ⟨fun σ H' => Same H11 H' ∧ IsV H' v b ∧ ∃ o7, ∃ c : Bool, σ = [some (.ref a), some (.int p), some (.int g), some (.ref n), none, some v, some (.bl c), o7] ∧ (c = true ↔ ∃ z, v = .int z ∧ 0 < z ∧ z < p), ?_, ?_⟩
      · refine ⟨_, rfl, v, .ty "int", ?_⟩
        cases hb with
        | int z =>
          refine ⟨_, _, _, rfl, .ty _, .base (.int z), kit_ty (by decide +kernel), _, rfl, iteT ⟨_, rfl, _, _, _, _, false, rfl, .ty _, .base (.int z), kit_ty (by decide +kernel), _, rfl, _, rfl, iteT ?_⟩⟩
          refine ⟨_, rfl, _, _, rfl, rfl, _, rfl, ite2 (fun c1 => ?_) (fun c1 => ?_)⟩
          · have c1 : 0 < z := of_decide_eq_true c1
            refine ⟨_, rfl, _, _, rfl, rfl, ?_⟩
            refine ⟨sm, .int z, o7, decide (z < p), rfl, ⟨fun y => ⟨z, rfl, c1, of_decide_eq_true y⟩, ?_⟩⟩
            rintro ⟨z2, e, y0, y1⟩
            cases e
            exact decide_eq_true y1
          · refine ⟨sm, .int z, o7, false, rfl, ⟨fun y => (nomatch y), ?_⟩⟩
            rintro ⟨z2, e, y0, y1⟩
            cases e
            exact absurd (decide_eq_true y0) c1
        | non => exact ⟨_, _, _, rfl, .ty _, .base .non, kit_ty (by decide +kernel), _, rfl, iteF ⟨sm, .non, _, false, rfl, ⟨fun y => (nomatch y), fun ⟨_, e, _⟩ => (nomatch e)⟩⟩⟩
        | bl z => exact ⟨_, _, _, rfl, .ty _, .base (.bl z), kit_ty (by decide +kernel), _, rfl, iteT ⟨_, rfl, _, _, _, _, true, rfl, .ty _, .base (.bl z), kit_ty (by decide +kernel), _, rfl, _, rfl, iteF ⟨sm, .bl z, _, false, rfl, ⟨fun y => (nomatch y), fun ⟨_, e, _⟩ => (nomatch e)⟩⟩⟩⟩
        | str z => exact ⟨_, _, _, rfl, .ty _, .base (.str z), kit_ty (by decide +kernel), _, rfl, iteF ⟨sm, .str z, _, false, rfl, ⟨fun y => (nomatch y), fun ⟨_, e, _⟩ => (nomatch e)⟩⟩⟩
        | lst h => exact ⟨_, _, _, rfl, .ty _, .base (.lst h), kit_ty (by decide +kernel), _, rfl, iteF ⟨sm, .lst h, _, false, rfl, ⟨fun y => (nomatch y), fun ⟨_, e, _⟩ => (nomatch e)⟩⟩⟩
        | tup h => exact ⟨_, _, _, rfl, .ty _, .base (.tup h), kit_ty (by decide +kernel), _, rfl, iteF ⟨sm, .tup h, _, false, rfl, ⟨fun y => (nomatch y), fun ⟨_, e, _⟩ => (nomatch e)⟩⟩⟩
      · rintro σ H14 ⟨sm2, hb2, o7, c0, rfl, hc0⟩
        refine ⟨fun σ H' => Same H11 H' ∧ IsV H' v b ∧ ∃ c c1 : Bool, σ = [some (.ref a), some (.int p), some (.int g), some (.ref n), none, some v, some (.bl c1), some (.bl c)] ∧ (c = true ↔ ∃ z, v = .int z ∧ Root p z), ?_, ?_⟩
        · refine ⟨_, rfl, _, rfl, ?_⟩
          cases c0 with
          | false =>
            refine iteF ⟨sm2, hb2, false, _, rfl, ⟨fun y => (nomatch y), ?_⟩⟩
            rintro ⟨z, e, r⟩
            have := hc0.mpr ⟨z, e, r.1, r.2.1⟩
            cases this
          | true =>
            obtain ⟨z, rfl, z0, z1⟩ := hc0.mp rfl
            refine iteT ⟨_, rfl, _, rfl, p, z, rfl, hp, z0, z1, fun d l2 H15 od s15 _ el2 => ?_⟩
            refine ⟨l2, _, rfl, .inl (.of el2), ?_⟩
            rw [powsV_len]
            refine ⟨_, rfl, _, _, rfl, rfl, rfl, sm2.trans s15, hb2.mono s15, decide (V.int (d : Int) = V.int (p - 1)), _, rfl, ⟨fun y => ?_, ?_⟩⟩
            · have y : (d : Int) = p - 1 := V.int.inj (of_decide_eq_true y)
              have e : d = (p - 1).toNat := by omega
              subst e
              exact ⟨z, rfl, z0, z1, od⟩
            · rintro ⟨z2, e, r⟩
              cases e
              have := od.uniq r.2.2
              exact decide_eq_true (congrArg V.int (by omega))
        · rintro σ H15 ⟨sm3, hb3, c, c1, rfl, hc⟩
          refine ⟨_, rfl, _, rfl, p, v, b, rfl, hp, hb3, fun d1 H16 s16 hd1 => ?_⟩
          refine ⟨_, rfl, _, rfl, rfl, rfl, p, v, b, rfl, hp, hb3.mono s16, fun d2 H17 s17 hd2 => ⟨(by show 2 ≤ sizeLine; decide), ?_⟩⟩
          have f1 := bool_iff (hd1.trans hc.symm)
          have f2 := bool_iff (hd2.trans hc.symm)
          subst f1 f2
          intro l1 hp_l1
          generalize hx_l1 : upd _ l1 _ = H18
          obtain ⟨s18, e1⟩ := fresh_of hp_l1 hx_l1
          clear hx_l1
          refine ⟨.ref l1, .list [.bool d2, .bool d2], rfl, .lst (.of e1) (.cons (.bl _) (.cons (.bl _) .nil)), two_bools _, ?_⟩
          refine ⟨_, rfl, _, rfl, (by show 2 ≤ sizeLine; decide), ?_⟩
          intro l2 hp_l2
          generalize hx_l2 : upd _ l2 _ = H19
          obtain ⟨s19, e2⟩ := fresh_of hp_l2 hx_l2
          clear hx_l2
          refine ⟨.ref l2, .list [.bool d2, .bool d2], rfl, .lst (.of e2) (.cons (.bl _) (.cons (.bl _) .nil)), two_bools _, rfl, _, rfl, iteNS rfl ?_⟩
          exact ⟨sm3.trans (s16.trans (s17.trans (s18.trans s19))), _, _, _, rfl⟩
    · rintro σ H13 ⟨sm, o5, o6, o7, rfl⟩
      exact q H13 (st11.same sm)
def sp_law_logs_right : Sp := fun vs H Q _ => ∃ a p g, vs = [.ref a, .int p, .int g] ∧ PotAt H a ∧ Pr p ∧ Root p g ∧ ∀ H', Stp a H H' → Q (.bl true) H'
/-- the logs to a root, in a dict -/
def Logs (p h : Int) (n : Nat) (kvs : List (Key × V)) : Prop := kvs.length ≤ n ∧ ∀ e : Nat, e < n → valV kvs (.inl (h ^ e % p)) = some (.int (e : Int))
theorem Logs.put {p h : Int} {n : Nat} {kvs : List (Key × V)} (L : Logs p h n kvs) (hh : ∀ e : Nat, e < n → h ^ e % p ≠ h ^ n % p) : Logs p h (n + 1) (putK kvs (.inl (h ^ n % p)) (.int (n : Int))) := by
  refine ⟨?_, fun e he => ?_⟩
  · have := length_putK kvs (.inl (h ^ n % p)) (V.int (n : Int))
    have := L.1
    omega
  · rw [valV_put]
    rcases Nat.lt_or_ge e n with z | z
    · rw [if_neg (fun y => hh e z (Sum.inl.inj y))]
      exact L.2 e z
    · have : e = n := by omega
      subst this
      rw [if_pos rfl]
theorem Root.turn {p g : Int} (h : Root p g) (hp : Pr p) {m : Nat} (hm : Nat.gcd (p - 1).toNat m = 1) : Root p (g ^ m % p) := by
  have lo := hp.lo
  have o := (h.2.2.pow (m := m))
  rw [hm, Nat.div_one] at o
  have c : Cg p (g ^ m) (g ^ m % p) := (Cg.rest p (g ^ m)).symm
  have n0 := Int.emod_nonneg (g ^ m) (show p ≠ 0 by omega)
  have n1 := Int.emod_lt_of_pos (g ^ m) (show 0 < p by omega)
  have := pow_ne hp h.1 h.2.1 m
  exact ⟨by omega, n1, o.cong c⟩
theorem Root.log {p h : Int} (r : Root p h) (hp : Pr p) {e f : Nat} (he : e < (p - 1).toNat) (x : h ^ e % p = h ^ f % p) : (e : Int) = (f : Int) % (p - 1) := by
  have lo := hp.lo
  have l2 : 0 < (p - 1).toNat := by omega
  have c := pow_mod_one (n := f) r.2.2.one
  have e1 := r.2.2.inj hp r.1 r.2.1 he (Nat.mod_lt f l2) (Cg.trans (Cg.of x) c)
  rw [e1, Int.natCast_emod]
  congr 1
  omega
theorem Logs.get {p h : Int} {n : Nat} {kvs : List (Key × V)} (L : Logs p h n kvs) {e : Nat} {x : Int} (he : e < n) (hx : h ^ e % p = x) {H : Hp} {a : Addr} (hH : H a = some (.dK kvs)) : DGet H a (.int x) (some (.int (e : Int))) := by
  have := L.2 e he
  rw [hx] at this
  rw [← this]
  exact DGet.k (k := .inl x) hH
theorem log_back {p h : Int} (r : Root p h) (hp : Pr p) {e f : Nat} (he : e < (p - 1).toNat) (hf : f < (p - 1).toNat) (x : Cg p (h ^ (e + f)) 1) : (e : Int) = (0 - (f : Int)) % (p - 1) := by
  have lo := hp.lo
  obtain ⟨k, hk⟩ := r.2.2.dvd.mp x
  have e1 : ((e + f : Nat) : Int) = (p - 1) * (k : Int) := by
    rw [hk, Int.natCast_mul]
    congr 1
    omega
  have e2 : (0 - (f : Int)) = (e : Int) + (p - 1) * (-(k : Int)) := by
    rw [Int.mul_neg, ← e1]
    omega
  rw [e2, Int.add_mul_emod_self_left, Int.emod_eq_of_lt (by omega) (by omega)]
theorem D_law_logs_right (T : Tx K mg) : Ow.Df P w K mg base CX0 7 "_law_logs_right" s_law_logs_right ["pot", "prime", "least"] (sp_law_logs_right) := by
  refine Ow.df_of T.f_law_logs_right sc_law_logs_right bd_law_logs_right (fun vs H Q E h => ?_) (fun cdv A outer s H vs Q E f hG hR h => ?_)
  · obtain ⟨_, _, _, rfl, _⟩ := h
    rfl
  · obtain ⟨a, p, g, rfl, hpot, hp, hg, q⟩ := h
    have hu := hR.units
    have hu1 := hu_of hR
    refine ⟨_, (pss_cons (ps_set (i := 3) sc_law_logs_right.nd rfl (Or.inl rfl) (pe_op op_add pe_int (Ow.pe_d (D_law_draw T) hR (by decide) hG pass0 (by rfl) (pa_cons (pv 0) (pa_cons (pe_op op_sub (pv 1) pe_int) pa_nil)))))
      (Evl.pss_cut (ps_set (i := 3) sc_law_logs_right.nd rfl (Or.inl rfl) (pe_ifExp (pt_cmpR op_eq (Ow.pe_d (D_law_divisor T) hR (by decide) hG pass0 (by rfl) (pa_cons (pe_op op_sub (pv 1) pe_int) (pa_cons (pv 3) pa_nil))) pe_int (nomark _)) (pv 3) pe_int))
      (pss_cons (ps_set (i := 4) sc_law_logs_right.nd rfl (Or.inl rfl) (Ow.pe_d (D_law_powers T) hR (by decide) hG pass0 (by rfl) (pa_cons (pv 1) (pa_cons (pv 2) pa_nil))))
      (pss_cons (ps_set (i := 5) sc_law_logs_right.nd rfl (Or.inl rfl) (pe_ix ix_list (pv 4) (pe_op op_mod (pe_callTy Ow.call_int (by rfl) T.b_int (by decide +kernel) (pa_cons (pv 3) pa_nil)) (pe_op op_sub (pv 1) pe_int)) (fun _ _ => rfl)))
      (pss_cons (ps_par (i := 6) (j := 7) rfl sc_law_logs_right.nd rfl rfl (by decide) rfl rfl (pa_cons pe_dnewK (pa_cons (Ow.pe_d (D_law_powers T) hR (by decide) hG pass0 (by rfl) (pa_cons (pv 1) (pa_cons (pv 5) pa_nil))) pa_nil)) (by rfl))
      (pss_cons (ps_for PassesOwn.never rfl (pi_enum (by rfl) T.b_enumerate (pa_cons (pv 7) pa_nil)) (pg_tup rfl (pgs_cons (pg_name (i := 8) sc_law_logs_right.nd rfl (Or.inl rfl)) (pgs_cons (pg_name (i := 9) sc_law_logs_right.nd rfl (Or.inl rfl)) pgs_nil)))
      (pss_one (ps_dput hu1 (pv 6) (pv 9) (pv 8) rfl)))
      (pss_cons (ps_if (PW.pt (pw_or (pt_cmpR op_ne (pe_callB call_len_seq (by rfl) T.b_len (by decide +kernel) (pa_cons (pv 7) pa_nil)) (pe_op op_sub (pv 1) pe_int) (nomark _)) (pw_or1 (pt_cmpR op_notBl (Ow.pe_d (D_is_root T) hR (by decide) hG pass0 (by rfl) (pa_cons (pv 1) (pa_cons (pv 5) pa_nil))) pe_bl (nomark _)))))
      (pss_one (ps_ret pe_bl))
      pss_nil)
      (pss_cons (ps_set (i := 10) sc_law_logs_right.nd rfl (Or.inl rfl) (pe_op op_cat (pe_lst (pa_cons pe_int (pa_cons (pv 5) (pa_cons (pe_op op_sub (pv 1) pe_int) pa_nil)))) (pe_lc (own := [("turn", 11)]) (g := gName 11) rfl sc_law_logs_right.nd (pi_range1 (by rfl) T.b_range (pa_cons pe_int pa_nil)) (blkOk_by (N := ["pot", "prime", "least", "many", "powers", "root", "logs", "row", "at", "one", "some", "turn", "other"]) (sc := defScope s_law_logs_right) (by decide +kernel)) (fun _ _ _ _ _ => pg_name (i := 11) sc_law_logs_right.nd rfl (Or.inl rfl)) (fun _ _ _ _ _ => pts_nil) (fun _ _ _ _ _ => (pe_op op_add pe_int (Ow.pe_d (D_law_draw T) hR (by decide) hG pass0 (by rfl) (pa_cons (pv 0) (pa_cons (pe_op op_sub (pv 1) pe_int) pa_nil))))))))
      (pss_cons (ps_for PassesOwn.never rfl (pi_list (pv 10)) (pg_name (i := 9) sc_law_logs_right.nd rfl (Or.inl rfl))
      (pss_cons (ps_if (pt_not (pt_val (Ow.pe_d (D_law_are_told T) hR (by decide) hG pass0 (by rfl) (pa_cons (pe_lst (pa_cons (Ow.pe_d (D_log_of T) hR (by decide) hG pass0 (by rfl) (pa_cons (pv 1) (pa_cons (pv 5) (pa_cons (pv 9) pa_nil)))) (pa_cons (Ow.pe_dk0 (D_log_of T) hR (by decide) hG pass0 w_log_of_0_one_root_prime (by rfl) (pk_cons (pv 9) (pk_cons (pv 5) (pk_cons (pv 1) pk_nil)))) pa_nil))) (pa_cons (pe_dget hu1 (pv 6) (pv 9) (fun _ _ => rfl)) pa_nil)))))
        (pss_one (ps_ret pe_bl))
        pss_nil)
        (pss_cons (ps_set (i := 12) sc_law_logs_right.nd rfl (Or.inl rfl) (Ow.pe_d (D_law_pick T) hR (by decide) hG pass0 (by rfl) (pa_cons (pv 0) (pa_cons (pv 10) pa_nil))))
        (pss_cons (ps_if (pt_cmpR op_ne (Ow.pe_d (D_log_of T) hR (by decide) hG pass0 (by rfl) (pa_cons (pv 1) (pa_cons (pv 5) (pa_cons (Ow.pe_d (D_times T) hR (by decide) hG pass0 (by rfl) (pa_cons (pv 1) (pa_cons (pv 9) (pa_cons (pv 12) pa_nil)))) pa_nil)))) (pe_op op_mod (pe_callTy Ow.call_int (by rfl) T.b_int (by decide +kernel) (pa_cons (pe_op op_add (pe_dget hu1 (pv 6) (pv 9) (fun _ _ => rfl)) (pe_dget hu1 (pv 6) (pv 12) (fun _ _ => rfl))) pa_nil)) (pe_op op_sub (pv 1) pe_int)) (nomark _))
        (pss_one (ps_ret pe_bl))
        pss_nil)
        (pss_one (ps_if (PW.pt (pw_or (pt_cmpR op_ne (Ow.pe_d (D_log_of T) hR (by decide) hG pass0 (by rfl) (pa_cons (pv 1) (pa_cons (pv 5) (pa_cons (Ow.pe_d (D_back T) hR (by decide) hG pass0 (by rfl) (pa_cons (pv 1) (pa_cons (pv 9) pa_nil))) pa_nil)))) (pe_op op_mod (pe_callTy Ow.call_int (by rfl) T.b_int (by decide +kernel) (pa_cons (pe_op op_sub pe_int (pe_dget hu1 (pv 6) (pv 9) (fun _ _ => rfl))) pa_nil)) (pe_op op_sub (pv 1) pe_int)) (nomark _)) (pw_or1 (pt_cmpR op_ne (Ow.pe_d (D_power T) hR (by decide) hG pass0 (by rfl) (pa_cons (pv 1) (pa_cons (pv 5) (pa_cons (pe_dget hu1 (pv 6) (pv 9) (fun _ _ => rfl)) pa_nil)))) (pv 9) (nomark _)))))
        (pss_one (ps_ret pe_bl))
        pss_nil))))))
      (pss_one (ps_ret pe_bl))))))))))), ?_⟩
    have lo := hp.lo
    have hi := hp.hi
    have g0 := hg.1
    have g1 := hg.2.1
    refine ⟨_, rfl, _, rfl, _, _, rfl, rfl, a, p - 1, rfl, hpot, by omega, by omega, fun d H1 s1 d0 d1 => ⟨_, _, rfl, rfl, ?_⟩⟩
    refine ⟨fun σ H' => Stp a H H' ∧ ∃ m : Int, σ = [some (.ref a), some (.int p), some (.int g), some (.int m), none, none, none, none, none, none, none, none, none] ∧ 0 < m ∧ m < p ∧ Nat.gcd (p - 1).toNat m.toNat = 1, ?_, ?_⟩
    · refine ⟨_, rfl, _, _, rfl, rfl, _, rfl, p - 1, 1 + d, rfl, by omega, by omega, by omega, by omega, rfl, _, rfl, ite2 (fun z => ?_) (fun z => ?_)⟩
      · have z := V.int.inj (of_decide_eq_true z)
        exact ⟨_, rfl, s1, 1 + d, rfl, by omega, by omega, by omega⟩
      · exact ⟨s1, 1, rfl, by omega, by omega, Nat.gcd_one_right _⟩
    rintro σ H2 ⟨st2, m, rfl, m0, m1, hm⟩
    refine ⟨_, rfl, _, rfl, p, g, rfl, hp, g0, g1, fun d1 l1 H3 od1 s3 _ e3 => ?_⟩
    have ed := od1.uniq hg.2.2
    subst ed
    have mlt : m % (p - 1) = m := by
      refine Int.emod_eq_of_lt (by omega) ?_
      rcases Int.lt_or_le m (p - 1) with z | z
      · exact z
      · have e : m.toNat = (p - 1).toNat := by omega
        rw [e, Nat.gcd_self] at hm
        omega
    have m2 : m < p - 1 ∨ p = 3 ∧ m = 1 := by
      have := Int.emod_lt_of_pos m (show 0 < p - 1 by omega)
      omega
    have rt := hg.turn hp hm
    have g5 : atI (powsV p g (p - 1).toNat) (m % (p - 1)) = some (.int (g ^ m.toNat % p)) := at_of (j := m.toNat) (by omega) (powsV_at (by omega))
    refine ⟨_, rfl, _, rfl, _, rfl, _, rfl, _, _, rfl, rfl, _, _, rfl, rfl, (by show (0 : Int) < _; omega), l1, _, _, _, rfl, rfl, .of e3, g5, ?_⟩
    clear g5
    generalize hr : g ^ m.toNat % p = r at rt
    have r0 := rt.1
    have r1 := rt.2.1
    intro L hp_L
    generalize hx_L : upd _ L _ = H4
    obtain ⟨s4, eL⟩ := fresh_of hp_L hx_L
    clear hx_L
    refine ⟨_, rfl, _, rfl, p, r, rfl, hp, r0, r1, fun d2 l2 H5 od2 s5 nl e5 => ⟨_, _, rfl, ?_⟩⟩
    have ed2 := od2.uniq rt.2.2
    subst ed2
    have st5 := st2.same (s3.trans (s4.trans s5))
    have eL5 := s5 _ _ eL
    have nLa : L ≠ a := (st2.same s3).pot.ne hp_L
    have nl2 : l2 ≠ L := fun e => by
      rw [e, eL] at nl
      cases nl
    refine ⟨_, rfl, l2, _, rfl, .of e5, for_enum (K := K) (a := l2) (xs := powsV p r (p - 1).toNat) (fun i σ H' => (∀ b o, b ≠ L → H5 b = some o → H' b = some o) ∧ ∃ kvs o8 o9, σ = [some (.ref a), some (.int p), some (.int g), some (.int m), some (.ref l1), some (.int r), some (.ref L), some (.ref l2), o8, o9, none, none, none] ∧ H' L = some (.dK kvs) ∧ Logs p r i kvs)
      ⟨fun b o _ e => e, [], _, _, rfl, eL5, Nat.le_refl _, fun e he => by omega⟩ (fun i σ H' _ h => .of (h.1 _ _ nl2 e5)) ?_ ?_⟩
    · rintro i v σ H6 T H7 hv ⟨kp, kvs, o8, o9, rfl, eK, hK⟩ hT s7 eT
      have hi2 : i < (p - 1).toNat := by
        have := (List.getElem?_eq_some_iff.mp hv).1
        rw [powsV_len] at this
        exact this
      rw [powsV_at hi2] at hv
      cases hv
      refine ⟨T, _, rfl, .inl (.inl eT), rfl, ?_⟩
      refine ⟨_, _, rfl, _, _, rfl, rfl, ?_⟩
      have e7 := s7 _ _ eK
      refine ⟨_, rfl, _, rfl, _, rfl, L, _, rfl, DPut.k (k := .inl (r ^ i % p)) e7 (by have := hK.1; exact Evl.sz_lt (by omega)), fun b o nb e => ?_, _, _, _, rfl, upd_same, ?_⟩
      · rw [upd_ne nb]
        exact s7 _ _ (kp b o nb e)
      · refine hK.put fun e he z => ?_
        have := od2.inj hp r0 r1 (by omega) hi2 (Cg.of z)
        omega
    · rintro σ H6 ⟨kp, kvs, o8, o9, rfl, eK, hK⟩
      rw [powsV_len] at hK
      have st6 : Stp a H H6 := by
        refine ⟨fun b o nb e => ?_, ?_⟩
        · have e3' := (st2.same s3).kp b o nb e
          exact kp b o (ne_of_none e3' hp_L) (s5 _ _ (s4 _ _ e3'))
        · obtain ⟨x, y, e, z⟩ := st5.pot
          exact ⟨x, y, kp a _ nLa.symm e, z⟩
      have e56 := kp l2 _ nl2 e5
      refine ⟨_, rfl, l2, _, rfl, .inl (.of e56), ?_⟩
      rw [powsV_len]
      refine ⟨_, rfl, _, _, rfl, rfl, rfl, _, rfl, iteNS (congrArg V.int (by omega)) ?_⟩
      refine ⟨_, rfl, _, rfl, p, .int r, true, rfl, hp, .int r, fun c H7 s7 hc => ?_⟩
      obtain rfl : c = true := hc.mpr ⟨r, rfl, rt⟩
      refine ⟨_, _, rfl, rfl, _, rfl, iteF ?_⟩
      have st7 := st6.same s7
      have eK7 := s7 _ _ eK
      refine ⟨_, rfl, _, rfl, _, _, rfl, rfl, (by show 3 ≤ sizeLine; decide), ?_⟩
      intro l3 hp_l3
      generalize hx_l3 : upd _ l3 _ = H8
      obtain ⟨s8, e8⟩ := fresh_of hp_l3 hx_l3
      clear hx_l3
      have p8 := st7.pot.same s8
      refine ⟨3, rfl, by decide, by decide, fun D hD => ?_⟩
      refine comp_range (S := Stp a) (fun _ v => ∃ d, v = .int d ∧ 0 < d ∧ d < p) (Fair.pot hD p8) (by show 3 < 1000; omega) (fun x => rfl) ?_ ?_
      · intro i H' _ s Q' k
        exact ⟨_, rfl, _, rfl, _, _, rfl, rfl, a, p - 1, rfl, s.pot, by omega, by omega, fun d H3 s3 d0 d1 => ⟨_, _, rfl, rfl, k _ _ s3 ⟨_, rfl, by omega, by omega⟩⟩⟩
      intro xs H9 hlen hxs s9 eD
      refine ⟨l3, D, _, _, rfl, rfl, s9.kp _ _ (st7.pot.ne hp_l3) e8, eD, by show 3 + xs.length ≤ sizeLine; rw [hlen]; decide, ?_⟩
      intro n hp_n
      generalize hx_n : upd _ n _ = H10
      obtain ⟨s10, en⟩ := fresh_of hp_n hx_n
      clear hx_n
      have st10 := ((st7.same s8).trans s9).same s10
      have nn := ((st7.same s8).trans s9).pot.ne hp_n
      have eK10 := s10 _ _ (s9.kp _ _ nLa (s8 _ _ eK7))
      have hL := all_app (R := fun v => ∃ d, v = .int d ∧ 0 < d ∧ d < p) (xs := [V.int 1, V.int r, V.int (p - 1)]) (fun v hv => by
        simp only [List.mem_cons, List.not_mem_nil, or_false] at hv
        rcases hv with rfl | rfl | rfl <;> exact ⟨_, rfl, by omega, by omega⟩) hxs
      have hLn : ([V.int 1, V.int r, V.int (p - 1)] ++ xs).length = 6 := by
        rw [List.length_append, hlen]
        rfl
      revert hL hLn en
      generalize [V.int 1, V.int r, V.int (p - 1)] ++ xs = W
      intro en hL hLn
      refine ⟨_, rfl, n, rfl, ⟨_, .of en⟩, for_list (K := K) (a := n) (fun i σ H' => Stp a H10 H' ∧ ∃ o8 o9 o12, σ = [some (.ref a), some (.int p), some (.int g), some (.int m), some (.ref l1), some (.int r), some (.ref L), some (.ref l2), o8, o9, some (.ref n), none, o12])
        ⟨Stp.refl st10.pot, _, _, _, rfl⟩ (fun i σ H' _ h => .of (h.1.kp _ _ nn en)) ?_ ?_⟩
      · rintro i v σ H11 hv ⟨st11, o8, o9, o12, rfl⟩
        obtain ⟨x, rfl, x0, x1⟩ := hL v (List.mem_of_getElem? hv)
        refine ⟨_, rfl, _, rfl, _, rfl, p, r, x, rfl, hp, rt, x0, x1, fun e1 H12 s12 f1 g1 => ?_⟩
        refine ⟨_, rfl, _, rfl, _, rfl, rfl, rfl, p, r, x, rfl, hp, rt, x0, x1, fun e2 H13 s13 f2 g2 => ⟨(by show 2 ≤ sizeLine; decide), ?_⟩⟩
        intro l5 hp_l5
        generalize hx_l5 : upd _ l5 _ = H14
        obtain ⟨s14, e14⟩ := fresh_of hp_l5 hx_l5
        clear hx_l5
        have st14 := st11.same (s12.trans (s13.trans s14))
        have eK14 := st14.kp _ _ nLa eK10
        refine ⟨_, rfl, _, rfl, L, _, rfl, hK.get f1 g1 eK14, ?_⟩
        refine ⟨l5, [(e1 : Int), (e2 : Int)], _, rfl, e14, by show 2 < 1000; omega, fun H15 s15 => ⟨_, rfl, ?_⟩⟩
        have u2 := rt.log hp f2 (g2.trans g1.symm)
        rw [told2 rfl (by rw [u2]; exact Int.emod_eq_of_lt (by omega) (by omega))]
        refine iteF ?_
        have st15 := st14.same s15
        refine ⟨_, rfl, _, rfl, a, n, W, rfl, st15.pot, st15.kp _ _ nn en, nn, by omega, by omega, fun v H16 s16 hv2 => ?_⟩
        obtain ⟨y, rfl, y0, y1⟩ := hL v hv2
        obtain ⟨e3, f3, g3⟩ := rt.all hp y0 y1
        have st16 := st15.trans s16
        have eK16 := st16.kp _ _ nLa eK10
        have c3 : r ^ (e1 + e3) % p = x * y % p := by
          rw [Int.pow_add]
          exact ((Cg.of (g1.trans (Int.emod_eq_of_lt (by omega) x1).symm)).mul (Cg.of (g3.trans (Int.emod_eq_of_lt (by omega) y1).symm))).emod
        have z0 : 0 < x * y % p := by
          rw [← c3]
          have := pow_ne hp r0 r1 (e1 + e3)
          have := Int.emod_nonneg (r ^ (e1 + e3)) (show p ≠ 0 by omega)
          omega
        have z1 := Int.emod_lt_of_pos (x * y) (show 0 < p by omega)
        refine ⟨_, rfl, _, rfl, _, rfl, _, rfl, _, rfl, p, x, y, rfl, hp, ⟨by omega, x1⟩, ⟨by omega, y1⟩, ?_⟩
        refine ⟨p, r, _, rfl, hp, rt, z0, z1, fun e4 H17 s17 f4 g4 => ?_⟩
        have eK17 := s17 _ _ eK16
        refine ⟨_, rfl, _, rfl, L, _, rfl, hK.get f1 g1 eK17, _, rfl, _, rfl, L, _, rfl, hK.get f3 g3 eK17, _, _, rfl, rfl, _, rfl, _, rfl, _, _, rfl, rfl, _, _, rfl, rfl, (by show (0 : Int) < _; omega), rfl, _, rfl, iteNS ?_ ?_⟩
        · have := rt.log hp f4 (g4.trans c3.symm)
          exact congrArg V.int (this.trans (by rw [Int.natCast_add]))
        refine ⟨_, rfl, _, rfl, _, rfl, _, rfl, p, x, rfl, hp, x0, x1, fun x5 H18 s18 hx5 c5 => ?_⟩
        refine ⟨p, r, x5, rfl, hp, rt, back_pos hp hx5 c5, hx5.2, fun e5 H19 s19 f5 g5 => ?_⟩
        have eK19 := s19 _ _ (s18 _ _ eK17)
        refine ⟨_, rfl, _, rfl, L, _, rfl, hK.get f1 g1 eK19, _, _, rfl, rfl, _, rfl, _, rfl, _, _, rfl, rfl, _, _, rfl, rfl, (by show (0 : Int) < _; omega), rfl, _, rfl, iteNS ?_ ?_⟩
        · refine congrArg V.int (log_back rt hp f5 f1 ?_)
          rw [Int.pow_add]
          exact ((Cg.of (g5.trans (Int.emod_eq_of_lt hx5.1 hx5.2).symm)).mul (Cg.of (g1.trans (Int.emod_eq_of_lt (by omega) x1).symm))).trans c5
        refine ⟨_, rfl, _, rfl, _, rfl, _, rfl, L, _, rfl, hK.get f1 g1 eK19, p, r, (e1 : Int), rfl, hp, ⟨by omega, r1⟩, by omega, by omega, fun z => by omega, fun w H20 s20 hw => ?_⟩
        have ew : w = x := by
          have c := (hw.2.1 (by omega)).emod
          rw [Int.emod_eq_of_lt hw.1.1 hw.1.2, Int.toNat_natCast, g1] at c
          exact c
        refine ⟨_, rfl, rfl, _, rfl, iteNS (congrArg V.int ew) ?_⟩
        exact ⟨st16.same (s17.trans (s18.trans (s19.trans s20))), _, _, _, rfl⟩
      · rintro σ H11 ⟨st11, o8, o9, o12, rfl⟩
        exact q H11 (st10.trans st11)
def sp_law_right : Sp := fun vs H Q _ => ∃ a, vs = [.ref a] ∧ PotAt H a ∧ ∀ H', Stp a H H' → Q (.bl true) H'
theorem D_law_right (T : Tx K mg) : Ow.Df P w K mg base CX0 8 "_law_right" s_law_right ["pot"] (sp_law_right) := by
  refine Ow.df_of T.f_law_right sc_law_right bd_law_right (fun vs H Q E h => ?_) (fun cdv A outer s H vs Q E f hG hR h => ?_)
  · obtain ⟨_, rfl, _⟩ := h
    rfl
  · obtain ⟨a, rfl, hpot, q⟩ := h
    have hu := hR.units
    have hu1 := hu_of hR
    refine ⟨_, (pss_cons (ps_set (i := 1) sc_law_right.nd rfl (Or.inl rfl) (Ow.pe_d (D_law_prime T) hR (by decide) hG pass0 (by rfl) (pa_cons (pv 0) pa_nil)))
      (pss_cons (ps_set (i := 2) sc_law_right.nd rfl (Or.inl rfl) (Ow.pe_d (D_law_least_root T) hR (by decide) hG pass0 (by rfl) (pa_cons (pv 1) pa_nil)))
      (pss_one (ps_ret (pe_and (Ow.pe_d (D_law_orders_right T) hR (by decide) hG pass0 (by rfl) (pa_cons (pv 0) (pa_cons (pv 1) pa_nil))) (pe_and (Ow.pe_d (D_law_roots_right T) hR (by decide) hG pass0 (by rfl) (pa_cons (pv 0) (pa_cons (pv 1) (pa_cons (pv 2) pa_nil)))) (pe_one (Ow.pe_d (D_law_logs_right T) hR (by decide) hG pass0 (by rfl) (pa_cons (pv 0) (pa_cons (pv 1) (pa_cons (pv 2) pa_nil))))))))))), ?_⟩
    refine ⟨_, rfl, a, rfl, hpot, fun p H1 s1 hp => ?_⟩
    refine ⟨_, rfl, p, rfl, hp, fun g H2 s2 hg mg => ?_⟩
    have st2 := s1.same s2
    refine ⟨_, rfl, _, rfl, a, p, rfl, st2.pot, hp, fun H3 s3 => ⟨_, rfl, iteT ?_⟩⟩
    refine ⟨_, rfl, _, rfl, _, rfl, a, p, g, rfl, s3.pot, hp, hg, mg, fun H4 s4 => ⟨_, rfl, iteT ?_⟩⟩
    exact ⟨_, rfl, _, rfl, _, rfl, a, p, g, rfl, s4.pot, hp, hg, fun H5 s5 => q H5 (st2.trans (s3.trans (s4.trans s5)))⟩
def sp_law (K : PySem.W.Frag) : Sp := fun vs H Q _ => ∃ a ns, vs = [.ref a] ∧ SqL K H a (List.map V.int ns) ∧ ns.length ≤ 63 ∧ ∀ H', Q (.bl true) H'
theorem D_law (T : Tx K mg) : Ow.Df P w K mg base CX0 9 "law" s_law ["script"] (sp_law K) := by
  refine Ow.df_of T.f_law sc_law bd_law (fun vs H Q E h => ?_) (fun cdv A outer s H vs Q E f hG hR h => ?_)
  · obtain ⟨_, _, rfl, _⟩ := h
    rfl
  · obtain ⟨a, ns, rfl, hS, hl, q⟩ := h
    have hu := hR.units
    have hu1 := hu_of hR
    refine ⟨_, (pss_one (ps_ret (pe_callB (cr_all rfl) (by rfl) T.b_all (by decide +kernel) (pa_cons (pe_lc (own := [("k", 1)]) (g := gName 1) rfl sc_law.nd (pi_range1 (by rfl) T.b_range (pa_cons (pe_callB (call_max2 rfl) (by rfl) T.b_max (by decide +kernel) (pa_cons pe_int (pa_cons (pe_callB (call_min2 rfl) (by rfl) T.b_min (by decide +kernel) (pa_cons pe_int (pa_cons (pe_callB call_len_seq (by rfl) T.b_len (by decide +kernel) (pa_cons (pv 0) pa_nil)) pa_nil))) pa_nil))) pa_nil)) (blkOk_by (N := ["script", "k"]) (sc := defScope s_law) (by decide +kernel)) (fun _ _ _ _ _ => pg_name (i := 1) sc_law.nd rfl (Or.inl rfl)) (fun _ _ _ _ _ => pts_nil) (fun _ _ _ _ _ => (Ow.pe_d (D_law_right T) hR (by decide) hG pass0 (by rfl) (pa_cons (Ow.pe_d (D_law_pot T) hR (by decide) hG pass0 (by rfl) (pa_cons (pv 0) (pa_cons (pv 1) pa_nil))) pa_nil)))) pa_nil)))), ?_⟩
    refine ⟨_, rfl, a, _, rfl, .inl hS, _, _, rfl, _, _, rfl, ?_⟩
    rw [List.length_map]
    generalize hn : (if (if (ns.length : Int) < 2 then (ns.length : Int) else 2) > 1 then (if (ns.length : Int) < 2 then (ns.length : Int) else 2) else 1) = n
    have n0 : 0 ≤ n ∧ n ≤ 3 := by
      rw [← hn]
      constructor <;> split <;> split <;> omega
    refine ⟨n, rfl, by omega, by omega, fun D hD => ?_⟩
    refine comp_range (S := Same) (fun _ v => v = .bl true) (Fair.same hD) (by omega) (fun x => rfl) ?_ ?_
    · intro i H' hi s Q' k
      refine ⟨_, rfl, _, rfl, a, _, ns, rfl, s.seq hS, by omega, fun H2 p s2 hp pot => ?_⟩
      refine ⟨p, rfl, pot, fun H3 s3 => k _ _ (fun b o e => ?_) rfl⟩
      exact s3.kp _ _ (ne_of_none e hp) (s2 _ _ e)
    · intro xs H' hlen hx s e
      refine ⟨D, xs.map fun _ => true, rfl, .of ?_, ?_⟩
      · rw [e]
        congr 2
        rw [List.map_map]
        refine list_map_of rfl fun k v z h1 h2 => ?_
        rw [h1] at h2
        cases h2
        exact hx k v h1
      · have e2 : (xs.map fun _ => true).all id = true := by simp
        rw [e2]
        exact q H'
end
theorem law_asks (K : PySem.W.Frag) (H : Hp) (a : Addr) (ns : List Int) (hl : ns.length ≤ 63) (hS : SqL K H a (ns.map V.int)) : sp_law K [.ref a] H (fun v _ => v = .bl true) E0 := ⟨a, ns, rfl, hS, hl, fun _ => rfl⟩
theorem law_made {P : Program} {w : World} {K : PySem.W.Frag} {mg : Str → Option Value} {fa : Addr} (T : Tx K mg) (hmg : mg "law" = some (.ref fa)) :
    ∃ fd : FuncData, (∀ u : Value, bindArgs fd ⟨[u], []⟩ = pure [(("script" : Str), u)]) ∧ ∀ base : Heap, K.In base → base.Ns mainGlobals mg → Ow.Prm P w K mg base CX0 9 fa fd ["script"] (sp_law K) :=
  Ow.made_of T.f_law hmg bd_law fun _ => D_law T

end Eqr
section
open PySem PySem.W PyProof.Rows
set_option maxRecDepth 100000 in
set_option maxHeartbeats 0 in
open_top head for PySem.Challenge.rw_equalruns_k12_whole_orders_roots_logs
end
open PySem PySem.W PyProof.Rows
set_option maxRecDepth 100000 in
set_option maxHeartbeats 0 in
theorem PySem.Challenge.cw_equalruns_k12_whole_orders_roots_logs_holds : PySem.Challenge.rw_equalruns_k12_whole_orders_roots_logs.Holds :=
  head (by
    k_fill
    refine Ow.law_end (l := PySem.Challenge.rw_equalruns_k12_whole_orders_roots_logs) (n := 63) (k := 9) (x := "script") (sp := Eqr.sp_law) rfl (by decide) rfl ⟨rfl, by decide, by decide⟩ (fun w h Y => PySem.W.kIn_of Y) ?F Eqr.law_asks
    case F =>
      intro w mg fa h KX G hmg
      refine' Eqr.law_made ⟨?b_abs, ?b_all, ?b_any, ?b_bool, ?b_divmod, ?b_enumerate, ?b_int, ?b_isinstance, ?b_len, ?b_max, ?b_min, ?b_range, ?b_repr, ?b_str, ?c_LEAST_PRIME, ?c_MOST_EXPONENT, ?c_MOST_PRIME, ?f_is_integer, ?f_is_within, ?f_least_divisor, ?f_is_prime_of, ?f_check_prime, ?f_is_number_of, ?f_check_number, ?f_powered, ?f_back_of, ?f_check_pair, ?f_times, ?f_back, ?f_power, ?f_primes_of, ?f_is_full, ?f_least_full, ?f_is_root_of, ?f_order_by, ?f_check_one, ?f_order_of, ?f_is_root, ?f_least_root, ?f_log_of, ?f_law_pot, ?f_law_draw, ?f_law_pick, ?f_law_is_prime, ?f_law_prime, ?f_law_divisor, ?f_law_powers, ?f_law_least_root, ?f_law_is_told, ?f_law_are_told, ?f_law_orders_right, ?f_law_roots_right, ?f_law_logs_right, ?f_law_right, ?f_law⟩ hmg
      (case b_abs => exact Ow.none_of KX G (by k_is))
      (case b_all => exact Ow.none_of KX G (by k_is))
      (case b_any => exact Ow.none_of KX G (by k_is))
      (case b_bool => exact Ow.none_of KX G (by k_is))
      (case b_divmod => exact Ow.none_of KX G (by k_is))
      (case b_enumerate => exact Ow.none_of KX G (by k_is))
      (case b_int => exact Ow.none_of KX G (by k_is))
      (case b_isinstance => exact Ow.none_of KX G (by k_is))
      (case b_len => exact Ow.none_of KX G (by k_is))
      (case b_max => exact Ow.none_of KX G (by k_is))
      (case b_min => exact Ow.none_of KX G (by k_is))
      (case b_range => exact Ow.none_of KX G (by k_is))
      (case b_repr => exact Ow.none_of KX G (by k_is))
      (case b_str => exact Ow.none_of KX G (by k_is))
      (case c_LEAST_PRIME => refine' Ow.int_of KX G ?a; (case a => k_is))
      (case c_MOST_EXPONENT => refine' Ow.int_of KX G ?a; (case a => k_is))
      (case c_MOST_PRIME => refine' Ow.int_of KX G ?a; (case a => k_is))
      (case f_is_integer => refine' Ow.stands_of KX G ?a ?l ?c ?k; (case a => k_is); (case l => k_is); (case c => k_is); (case k => k_is))
      (case f_is_within => refine' Ow.stands_of KX G ?a ?l ?c ?k; (case a => k_is); (case l => k_is); (case c => k_is); (case k => k_is))
      (case f_least_divisor => refine' Ow.stands_of KX G ?a ?l ?c ?k; (case a => k_is); (case l => k_is); (case c => k_is); (case k => k_is))
      (case f_is_prime_of => refine' Ow.stands_of KX G ?a ?l ?c ?k; (case a => k_is); (case l => k_is); (case c => k_is); (case k => k_is))
      (case f_check_prime => refine' Ow.stands_of KX G ?a ?l ?c ?k; (case a => k_is); (case l => k_is); (case c => k_is); (case k => k_is))
      (case f_is_number_of => refine' Ow.stands_of KX G ?a ?l ?c ?k; (case a => k_is); (case l => k_is); (case c => k_is); (case k => k_is))
      (case f_check_number => refine' Ow.stands_of KX G ?a ?l ?c ?k; (case a => k_is); (case l => k_is); (case c => k_is); (case k => k_is))
      (case f_powered => refine' Ow.stands_of KX G ?a ?l ?c ?k; (case a => k_is); (case l => k_is); (case c => k_is); (case k => k_is))
      (case f_back_of => refine' Ow.stands_of KX G ?a ?l ?c ?k; (case a => k_is); (case l => k_is); (case c => k_is); (case k => k_is))
      (case f_check_pair => refine' Ow.stands_of KX G ?a ?l ?c ?k; (case a => k_is); (case l => k_is); (case c => k_is); (case k => k_is))
      (case f_times => refine' Ow.stands_of KX G ?a ?l ?c ?k; (case a => k_is); (case l => k_is); (case c => k_is); (case k => k_is))
      (case f_back => refine' Ow.stands_of KX G ?a ?l ?c ?k; (case a => k_is); (case l => k_is); (case c => k_is); (case k => k_is))
      (case f_power => refine' Ow.stands_of KX G ?a ?l ?c ?k; (case a => k_is); (case l => k_is); (case c => k_is); (case k => k_is))
      (case f_primes_of => refine' Ow.stands_of KX G ?a ?l ?c ?k; (case a => k_is); (case l => k_is); (case c => k_is); (case k => k_is))
      (case f_is_full => refine' Ow.stands_of KX G ?a ?l ?c ?k; (case a => k_is); (case l => k_is); (case c => k_is); (case k => k_is))
      (case f_least_full => refine' Ow.stands_of KX G ?a ?l ?c ?k; (case a => k_is); (case l => k_is); (case c => k_is); (case k => k_is))
      (case f_is_root_of => refine' Ow.stands_of KX G ?a ?l ?c ?k; (case a => k_is); (case l => k_is); (case c => k_is); (case k => k_is))
      (case f_order_by => refine' Ow.stands_of KX G ?a ?l ?c ?k; (case a => k_is); (case l => k_is); (case c => k_is); (case k => k_is))
      (case f_check_one => refine' Ow.stands_of KX G ?a ?l ?c ?k; (case a => k_is); (case l => k_is); (case c => k_is); (case k => k_is))
      (case f_order_of => refine' Ow.stands_of KX G ?a ?l ?c ?k; (case a => k_is); (case l => k_is); (case c => k_is); (case k => k_is))
      (case f_is_root => refine' Ow.stands_of KX G ?a ?l ?c ?k; (case a => k_is); (case l => k_is); (case c => k_is); (case k => k_is))
      (case f_least_root => refine' Ow.stands_of KX G ?a ?l ?c ?k; (case a => k_is); (case l => k_is); (case c => k_is); (case k => k_is))
      (case f_log_of => refine' Ow.stands_of KX G ?a ?l ?c ?k; (case a => k_is); (case l => k_is); (case c => k_is); (case k => k_is))
      (case f_law_pot => refine' Ow.stands_of KX G ?a ?l ?c ?k; (case a => k_is); (case l => k_is); (case c => k_is); (case k => k_is))
      (case f_law_draw => refine' Ow.stands_of KX G ?a ?l ?c ?k; (case a => k_is); (case l => k_is); (case c => k_is); (case k => k_is))
      (case f_law_pick => refine' Ow.stands_of KX G ?a ?l ?c ?k; (case a => k_is); (case l => k_is); (case c => k_is); (case k => k_is))
      (case f_law_is_prime => refine' Ow.stands_of KX G ?a ?l ?c ?k; (case a => k_is); (case l => k_is); (case c => k_is); (case k => k_is))
      (case f_law_prime => refine' Ow.stands_of KX G ?a ?l ?c ?k; (case a => k_is); (case l => k_is); (case c => k_is); (case k => k_is))
      (case f_law_divisor => refine' Ow.stands_of KX G ?a ?l ?c ?k; (case a => k_is); (case l => k_is); (case c => k_is); (case k => k_is))
      (case f_law_powers => refine' Ow.stands_of KX G ?a ?l ?c ?k; (case a => k_is); (case l => k_is); (case c => k_is); (case k => k_is))
      (case f_law_least_root => refine' Ow.stands_of KX G ?a ?l ?c ?k; (case a => k_is); (case l => k_is); (case c => k_is); (case k => k_is))
      (case f_law_is_told => refine' Ow.stands_of KX G ?a ?l ?c ?k; (case a => k_is); (case l => k_is); (case c => k_is); (case k => k_is))
      (case f_law_are_told => refine' Ow.stands_of KX G ?a ?l ?c ?k; (case a => k_is); (case l => k_is); (case c => k_is); (case k => k_is))
      (case f_law_orders_right => refine' Ow.stands_of KX G ?a ?l ?c ?k; (case a => k_is); (case l => k_is); (case c => k_is); (case k => k_is))
      (case f_law_roots_right => refine' Ow.stands_of KX G ?a ?l ?c ?k; (case a => k_is); (case l => k_is); (case c => k_is); (case k => k_is))
      (case f_law_logs_right => refine' Ow.stands_of KX G ?a ?l ?c ?k; (case a => k_is); (case l => k_is); (case c => k_is); (case k => k_is))
      (case f_law_right => refine' Ow.stands_of KX G ?a ?l ?c ?k; (case a => k_is); (case l => k_is); (case c => k_is); (case k => k_is))
      (case f_law => refine' Ow.stands_of KX G ?a ?l ?c ?k; (case a => k_is); (case l => k_is); (case c => k_is); (case k => k_is)))
