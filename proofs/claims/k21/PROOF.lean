import PyProof.Rows.All
import Wide.All
import OpenK.AllK
import Wide.FinOn
import HandS.ForMost
import HandS.IsInst
import HandS.WideBits
import HandS.Style
import HandS.Wide
import PyProof.ReprRoads
import HandS.More
import HandS.Zip
import HandS.TupAny
import KE.KDictPairs
import HandS.Walk
import HandS.SortInts
import HandS.Dict
import PyProof.ReprBulk
import PyProof.FitsInt
import HandS.Evl
import PySem.Challenge.RW_equalruns_k21_whole_forms_reckoned
set_option Elab.async false
set_option linter.all false
set_option maxRecDepth 100000
set_option maxHeartbeats 4000000
/-! Own layer: promises that know that nothing is being shown (for repr), calls with keywords, repr of data. -/
namespace Ow
open PySem PySem.Spec PyProof.Rows L2
section
variable {P : Program} {w : World} {K : PySem.W.Frag} {mg : Str → Option Value} {base : Heap} {CX : CXT}
/-- a def keeps a promise, wherever no repr is under way -/
structure Prm (P : Program) (w : World) (K : PySem.W.Frag) (mg : Str → Option Value) (base : Heap) (CX : CXT) (k : Nat) (f : Addr) (fd : FuncData) (ps : List Str) (sp : Sp) : Prop where
  len : ∀ vs H Q E, sp vs H Q E → vs.length = ps.length
  go : ∀ (A : Around) (outer : List Env) (s : Shared) (H : Hp) (args : Args) (us : List Value) (vs : List V) (Q : VK) (E : XK), A.guards = some [] → Room k A → Env0 P w K mg base A outer s H →
    BindsTo s fd args (ps.zip us) → Vals vs us → sp vs H Q E → codeAny (model P w) A (.call (.ref f) args) (CR CX outer P w H s Q E) s
theorem Prm.mono {j k : Nat} {f : Addr} {fd : FuncData} {ps : List Str} {sp : Sp} (F : Prm P w K mg base CX j f fd ps sp) (h : j ≤ k) : Prm P w K mg base CX k f fd ps sp :=
  ⟨F.len, fun A outer s H args us vs Q E hg hr => F.go A outer s H args us vs Q E hg (hr.mono h)⟩
/-- a def of the text by its body -/
theorem prm_of {x qual : Str} {st : Stmt} {f : Addr} {fd : FuncData} {N ps : List Str} {k : Nat} {sp : Sp} (F : Fun K x qual st f fd) (S : FnScope N ps (defScope st))
    (len : ∀ vs H Q E, sp vs H Q E → vs.length = ps.length)
    (hbody : ∀ (cdv : Value) (A : Around) (outer : List Env) (s : Shared) (H : Hp) (vs : List V) (Q : VK) (E : XK), A.guards = some [] →
      Room k (A.deeper (envOfC qual (defScope st) s.heap.objs.size f cdv)) → sp vs H Q E →
      ∃ t, PSs (cxOf CX P w K mg base N qual (defScope st) f cdv A outer s H E) (defBody st) t ∧ t { nx := fun _ H' => Q .non H', rt := Q } (start N vs) H) :
    Prm P w K mg base CX (k + 1) f fd ps sp := by
  obtain ⟨oc, od, kV, doc, pm, an, cdv, ct, osl, rfl, lk, hcd⟩ := F.ex
  constructor
  · exact len
  intro A outer s H args us vs Q E hgd hr e0 hb r hsp
  have e1 : ∀ b o, base.get? b = some o → s.heap.get? b = some o := fun b o e => (e0.bs b o e).1
  have inH : K.In s.heap := e0.mod.kin.keeps e1
  refine codeAny_call_function hr.depth (inH _ _ lk) rfl S.co S.gen rfl (PySem.W.codeRec_of inH hcd) (hb _ _ _ _ ?_)
  refine wpAny_newFunctionEnv_cells S.kind ?_ ?_
  · rintro ⟨n, v⟩ hy
    rcases S.par n (List.of_mem_zip hy).1 with q | q
    · exact .inl q
    · exact .inr ⟨q, PySem.W.cellsFrom_some _ _ _ (.inl q)⟩
  · intro env he s1 x
    subst he
    refine ⟨(e0.mod.nolimit.keeps e1).keeps x.toInCall.keep, codeAny_func ?_⟩
    obtain ⟨t, ht, hq⟩ := hbody cdv A outer s H vs Q E hgd (hr.deeper _) hsp
    have I := inv_start (CX := CX) (cd := cdv) (f := f) (E := E) S hr.hd e0 (len _ _ _ _ hsp) r x
    refine wpAny_mono (ht.run [] s1 (start N vs) H _ I hq) ?_ (fun e s' hs => hs)
    intro fl s' hs
    cases fl with
    | brk => obtain ⟨_, _, _, q⟩ := hs; exact q.elim
    | cont => obtain ⟨_, _, _, q⟩ := hs; exact q.elim
    | next => obtain ⟨σ', H', J, q⟩ := hs; exact ⟨.non, H', J.os, J.bare, J.base, J.hok, rfl, q⟩
    | ret u => obtain ⟨v, σ', H', J, rv, q⟩ := hs; exact ⟨v, H', J.os, J.bare, J.base, J.hok, rv, q⟩
/-- how plain arguments bind -/
def Bind (x : Str) (st : Stmt) (ps : List Str) : Prop := ∀ (kV doc pm : Value) (an : Option Addr) (cdv ct : Value) (us : List Value), us.length = ps.length →
  bindArgs (PySem.W.fnOf x x (defArgs st) (defBody st) (defScope st) .none kV doc pm an cdv ct) ⟨us, []⟩ = pure (ps.zip us)
/-- a def stands at the top under its name -/
def Stands (K : PySem.W.Frag) (mg : Str → Option Value) (x : Str) (st : Stmt) : Prop := ∃ (f : Addr) (fd : FuncData), mg x = some (.ref f) ∧ Fun K x x st f fd
/-- a def that stands at the top under its name, with its promise -/
structure Df (P : Program) (w : World) (K : PySem.W.Frag) (mg : Str → Option Value) (base : Heap) (CX : CXT) (k : Nat) (x : Str) (st : Stmt) (ps : List Str) (sp : Sp) : Prop where
  ex : ∃ (f : Addr) (fd : FuncData), mg x = some (.ref f) ∧ Fun K x x st f fd ∧ Prm P w K mg base CX k f fd ps sp
  bd : Bind x st ps
/-- a def that lets no exception out, by its body -/
theorem df_of {x : Str} {st : Stmt} {N ps : List Str} {k : Nat} {sp : Sp} (F : Stands K mg x st) (S : FnScope N ps (defScope st)) (bd : Bind x st ps)
    (len : ∀ vs H Q E, sp vs H Q E → vs.length = ps.length)
    (hbody : ∀ (cdv : Value) (A : Around) (outer : List Env) (s : Shared) (H : Hp) (vs : List V) (Q : VK) (E : XK) (f : Addr), A.guards = some [] →
      Room k (A.deeper (envOfC x (defScope st) s.heap.objs.size f cdv)) → sp vs H Q E →
      ∃ t, PSs (cxOf CX0 P w K mg base N x (defScope st) f cdv A outer s H E).nox (defBody st) t ∧ t { nx := fun _ H' => Q .non H', rt := Q } (start N vs) H) :
    Df P w K mg base CX0 (k + 1) x st ps sp := by
  obtain ⟨f, fd, hm, F⟩ := F
  refine ⟨⟨f, fd, hm, F, prm_of F S len ?_⟩, bd⟩
  intro cdv A outer s H vs Q E hg hr h
  obtain ⟨t, h1, h2⟩ := hbody cdv A outer s H vs Q E f hg hr h
  exact ⟨t, h1.nox, h2⟩
end
section
variable {X : Cx} {CX : CXT} {k j : Nat} {ps ks : List Str} {sp : Sp} {E : XK} {x : Str} {st : Stmt} {p pos : Pos} {e : Expr} {es : List Expr} {kws : List Keyword} {t tk : TA}
/-- what a call brings back -/
theorem Prm.called {pins : List (Addr × Obj)} {σ : L2.St} {H : Hp} {s : Shared} {Q : VK} {us : List Value} {vs : List V} {f : Addr} {fd : FuncData} {pairs : List (Str × Value)} {first : List Value}
    (F : Prm X.prog X.w X.K X.mg X.base CX k f fd ps sp) (hr : Room k X.A) (hg : X.A.guards = some []) (hx : Passes CX X E) (I : Inv X pins σ H s) (r : Vals vs us)
    (hb : bindArgs fd ⟨first, pairs⟩ = pure (ps.zip us)) (h : sp vs H Q E) : wpAny (model X.prog X.w) X.A (call (.ref f) first pairs) (EP X pins σ Q) X.xe s := by
  refine wpAny_call (codeAny_mono (F.go X.A X.stack s H ⟨first, pairs⟩ us vs Q E hg hr I.env0 (.of_eq hb) r h) ?_)
  intro res s' hq
  cases res with
  | error er => exact hx pins σ H s er s' I hq
  | ok fl =>
    cases fl with
    | ret u => exact I.after hq
    | next => exact hq.elim
    | brk => exact hq.elim
    | cont => exact hq.elim
/-- f(a, b, ..) -/
theorem pe_d (D : Df X.prog X.w X.K X.mg X.base CX k x st ps sp) (hr : Room j X.A) (hk : k ≤ j) (hg : X.A.guards = some []) (hx : Passes CX X E)
    (gl : Gl X x) (ha : PA X (e :: es) t) (hdb : (x == ("__debug__" : Str)) = false := by decide) (he : starEach (e :: es) X.env = (false, eval e X.env) :: starEach es X.env := by rfl)
    (hpl : (backTo pos (starEach es X.env)).any (·.1) = false := by rfl) : PE X (.Call (.Name x p) (e :: es) [] pos) (tCall sp [] E t) := by
  obtain ⟨f, fd, hm, F, G⟩ := D.ex
  refine ⟨fun pins s σ H Q I h => ?_⟩
  refine wpAny_Call_Name_kw (ld_glob I gl hm ?_ hdb)
  refine PySem.W.callWith_K (h₀ := X.base) I.ok.mod.kin F.kp ?_ he hpl
  refine thn (ha.run pos pins s σ H _ I h) ?_
  rintro us s1 ⟨vs, H1, I1, r, q⟩
  refine ⟨I1.kIn, ?_⟩
  rw [List.append_nil] at q
  refine G.called (pairs := []) (first := us) (hr.mono hk) hg hx I1 r ?_ q
  obtain ⟨oc, od, kV, doc, pm, an, cdv, ct, osl, rfl, _, _⟩ := F.ex
  exact D.bd kV doc pm an cdv ct us (by rw [← r.length]; exact G.len _ _ _ _ q)
/-- f() -/
theorem pe_d0 (D : Df X.prog X.w X.K X.mg X.base CX k x st ps sp) (hr : Room j X.A) (hk : k ≤ j) (hg : X.A.guards = some []) (hx : Passes CX X E)
    (gl : Gl X x) (hdb : (x == ("__debug__" : Str)) = false := by decide) : PE X (.Call (.Name x p) [] [] pos) (tCall sp [] E tNil) := by
  obtain ⟨f, fd, hm, F, G⟩ := D.ex
  refine ⟨fun pins s σ H Q I h => ?_⟩
  refine wpAny_Call_Name_kw (ld_glob I gl hm ?_ hdb)
  refine PySem.W.callWith_K0 I.kIn F.kp ?_
  refine G.called (pairs := []) (first := []) (vs := []) (us := []) (hr.mono hk) hg hx I .nil ?_ h
  obtain ⟨oc, od, kV, doc, pm, an, cdv, ct, osl, rfl, _, _⟩ := F.ex
  exact D.bd kV doc pm an cdv ct [] (G.len _ _ _ _ h)
/-- the values in the parameters' order: ix tells for each parameter its place among the written values -/
def putIn {α : Type} (d : α) (ix : List Nat) (us ws : List α) : List α := ix.map fun i => (us ++ ws).getD i d
theorem vals_at {vs : List V} {us : List Value} (r : Vals vs us) (i : Nat) : RelV (vs.getD i .non) (us.getD i .none) := by
  rw [List.getD_eq_getElem?_getD, List.getD_eq_getElem?_getD]
  cases e : vs[i]? with
  | none => rw [r.none_of e]; exact rfl
  | some v =>
    obtain ⟨u, h1, h2⟩ := r.get e
    rw [h1]
    exact h2
theorem vals_put {vs zs : List V} {us ws : List Value} (r : Vals vs us) (q : Vals zs ws) : ∀ ix : List Nat, Vals (putIn .non ix vs zs) (putIn .none ix us ws)
  | [] => .nil
  | i :: ix => .cons (vals_at (r.append q) i) (vals_put r q ix)
def tCallKw (n m : Nat) (sp : Sp) (ix : List Nat) (E : XK) (t tk : TA) : TE := fun σ H Q => t σ H fun vs H1 => tk σ H1 fun zs H2 => vs.length = n ∧ zs.length = m ∧ sp (putIn .non ix vs zs) H2 Q E
/-- how such a call binds -/
def Way (x : Str) (st : Stmt) (ps : List Str) (n : Nat) (ks : List Str) (ix : List Nat) : Prop :=
  ∀ (kV doc pm : Value) (an : Option Addr) (cdv ct : Value) (us ws : List Value), us.length = n → ws.length = ks.length →
    bindArgs (PySem.W.fnOf x x (defArgs st) (defBody st) (defScope st) .none kV doc pm an cdv ct) ⟨us, ks.zip ws⟩ = pure (ps.zip (putIn .none ix us ws))
/-- f(a, .., k = b, ..) -/
theorem pe_dk {n : Nat} {ix : List Nat} (D : Df X.prog X.w X.K X.mg X.base CX k x st ps sp) (hr : Room j X.A) (hk : k ≤ j) (hg : X.A.guards = some []) (hx : Passes CX X E) (wy : Way x st ps n ks ix)
    (gl : Gl X x) (ha : PA X (e :: es) t) (hkw : PK X kws tk) (hall : (backToKw pos (keywordEach kws X.env)).all (·.1.isSome) = true := by rfl) (hks : (backToKw pos (keywordEach kws X.env)).filterMap (·.1) = ks := by rfl)
    (hdb : (x == ("__debug__" : Str)) = false := by decide) (he : starEach (e :: es) X.env = (false, eval e X.env) :: starEach es X.env := by rfl)
    (hpl : ((backTo pos (starEach (e :: es) X.env)).any (·.1) || (backToKw pos (keywordEach kws X.env)).any (·.1.isNone)) = false := by rfl) :
    PE X (.Call (.Name x p) (e :: es) kws pos) (tCallKw n ks.length sp ix E t tk) := by
  obtain ⟨f, fd, hm, F, G⟩ := D.ex
  refine ⟨fun pins s σ H Q I h => ?_⟩
  refine wpAny_Call_Name_kw (ld_glob I gl hm ?_ hdb)
  refine PySem.W.callWith_KW (h₀ := X.base) I.ok.mod.kin F.kp hall ?_ hpl he
  refine thn (ha.run pos pins s σ H _ I h) ?_
  rintro us s1 ⟨vs, H1, I1, r, q⟩
  refine thn (hkw.run pos pins s1 σ H1 _ I1 q) ?_
  rintro ws s2 ⟨zs, H2, I2, rz, l1, l2, q2⟩
  refine ⟨I2.kIn, ?_⟩
  rw [hks]
  refine G.called (pairs := ks.zip ws) (first := us) (hr.mono hk) hg hx I2 (vals_put r rz ix) ?_ q2
  obtain ⟨oc, od, kV, doc, pm, an, cdv, ct, osl, rfl, _, _⟩ := F.ex
  exact wy kV doc pm an cdv ct us ws (r.length.symm.trans l1) (rz.length.symm.trans l2)
/-- f(k = b, ..) -/
theorem pe_dk0 {ix : List Nat} (D : Df X.prog X.w X.K X.mg X.base CX k x st ps sp) (hr : Room j X.A) (hk : k ≤ j) (hg : X.A.guards = some []) (hx : Passes CX X E) (wy : Way x st ps 0 ks ix)
    (gl : Gl X x) (hkw : PK X kws tk) (hall : (backToKw pos (keywordEach kws X.env)).all (·.1.isSome) = true := by rfl) (hks : (backToKw pos (keywordEach kws X.env)).filterMap (·.1) = ks := by rfl)
    (hdb : (x == ("__debug__" : Str)) = false := by decide)
    (hpl : ((backTo pos (starEach [] X.env)).any (·.1) || (backToKw pos (keywordEach kws X.env)).any (·.1.isNone)) = false := by rfl) :
    PE X (.Call (.Name x p) [] kws pos) (tCallKw 0 ks.length sp ix E tNil tk) := by
  obtain ⟨f, fd, hm, F, G⟩ := D.ex
  refine ⟨fun pins s σ H Q I h => ?_⟩
  refine wpAny_Call_Name_kw (ld_glob I gl hm ?_ hdb)
  refine PySem.W.callWith_KW0 (h₀ := X.base) I.ok.mod.kin F.kp hall ?_ hpl
  refine thn (hkw.run pos pins s σ H _ I h) ?_
  rintro ws s2 ⟨zs, H2, I2, rz, l1, l2, q2⟩
  refine ⟨I2.kIn, ?_⟩
  rw [hks]
  refine G.called (pairs := ks.zip ws) (first := []) (hr.mono hk) hg hx I2 (vals_put .nil rz ix) ?_ q2
  obtain ⟨oc, od, kV, doc, pm, an, cdv, ct, osl, rfl, _, _⟩ := F.ex
  exact wy kV doc pm an cdv ct [] ws rfl (rz.length.symm.trans l2)
end
section
variable {X : Cx}
/-- a module's whole number -/
theorem pe_gi {x : Str} {i : Int} {pos : Pos} (hg : Gl X x) (hm : ∃ t, X.mg x = some (.int i t)) (hd : (x == ("__debug__" : Str)) = false := by decide) : PE X (.Name x pos) (tC (.int i)) := by
  obtain ⟨t, hm⟩ := hm
  exact pe_glob hg hm ⟨t, rfl⟩ hd
theorem op_div : OpR X (binaryOp .FloorDiv) (rI CDiv fun i j => .int (i / j)) := op_fdiv
end
end Ow
namespace Ow
open PySem PySem.Spec PyProof.Rows L2
section
variable {X : Cx}
/-- int(n) of a whole number -/
theorem call_int : CallR X (.type "int") (fun xs H Q => ∃ i, xs = [.int i] ∧ Q (.int i) H) := by
  intro pins s σ H xs us Q I r h
  obtain ⟨i, e, q⟩ := h
  exact call_int1 pins s σ H xs us Q I r (.inl ⟨i, e, q⟩)
end
end Ow
/-! Own layer, the end: a law's def under a promise Prm. -/
namespace Ow
open PySem PySem.Spec PyProof.Rows L2
theorem ints_vals : ∀ {us : List Value} {ns : List Int}, IntsAre us ns → Vals (ns.map V.int) us
  | _, _, .nil => .nil
  | _, _, .cons n t h => .cons ⟨t, rfl⟩ (ints_vals h)
section
variable {P : Program} {w : World} {K : PySem.W.Frag} {mg mb : Str → Option Value} {k : Nat} {fa a : Addr} {fd : FuncData} {x : Str} {sp : Sp} {s₁ : Shared} {us : List Value} {ns : List Int}
/-- from an abstract heap H that knows at most the script -/
theorem law_core (KX : K.In s₁.heap) (hns : s₁.heap.Ns mainGlobals mg) (hb : s₁.heap.Ns builtinsNs mb) (hbb : ∀ x : Str, x ≠ "__name__" → mb x = bootBuiltins x) (hlim : s₁.heap.NoLimit) (hg : s₁.gens = #[])
    (ha : s₁.heap.get? a = some { cls := .type "list", data := .seq us.toArray }) (hr : Room k callerA)
    (F : ∀ base : Heap, K.In base → base.Ns mainGlobals mg → Prm P w K mg base CX0 k fa fd [x] sp) (hbind : ∀ u : Value, bindArgs fd ⟨[u], []⟩ = pure [(x, u)])
    (H : Hp) (hH : ∀ b u, H b = some u → b = a ∧ K.lookup a = none ∧ ∃ xs, u = .frz { cls := .type "list", data := .seq us.toArray } (.lst xs)) (hok : HOk P w H s₁.heap)
    (hsp : sp [.ref a] H (fun v _ => v = .bl true) E0) :
    codeAny (model P w) callerA (.call (.ref fa) ⟨[.ref a], []⟩) (fun r s' => r = .ok (.ret (.bool true)) ∧ OldK s₁.heap s'.heap ∧ s'.os = s₁.os ∧ AllBare s'.gens) s₁ := by
  have isN : ∀ {b : Addr} {o : Obj}, s₁.heap.get? b = some o → (∀ its n, o.data ≠ .seq its n) → H b = none := by
    intro b o e d
    cases q : H b with
    | none => rfl
    | some u =>
      obtain ⟨rfl, _, _⟩ := hH b u q
      rw [ha] at e
      cases e
      exact absurd rfl (d us.toArray _)
  have below : ∀ {b : Addr} {m : Str → Option Value}, s₁.heap.Ns b m → (hidT s₁.heap H).Ns b m := by
    rintro b m ⟨o, es, ep, e, d, r⟩
    exact ⟨o, es, ep, hidT_get e (isN e (by intro its n z; rw [d] at z; cases z)), d, r⟩
  have inB : K.In (hidT s₁.heap H) := by
    intro b o e
    refine hidT_get (KX b o e) ?_
    cases q : H b with
    | none => rfl
    | some u =>
      obtain ⟨rfl, z, _⟩ := hH b u q
      rw [z] at e
      cases e
  obtain ⟨mc, n1, n2⟩ := hlim
  have md : Mod K mg (hidT s₁.heap H) := ⟨inB, below hns, ⟨mb, below hb, hbb⟩, ⟨mc, below n1, n2⟩⟩
  have e0 : Env0 P w K mg (hidT s₁.heap H) callerA [] s₁ H :=
    ⟨rfl, md, fun b o e => of_hidT e, Nat.le_of_eq (hidT_size _ _), trivial, (by intro b hb; cases hb), hok, .of_eq hg⟩
  have run := (F _ inB (below hns)).go callerA [] s₁ H ⟨[.ref a], []⟩ [.ref a] [.ref a] _ _ rfl hr e0 (.of_eq (hbind (.ref a))) (.cons rfl .nil) hsp
  refine codeAny_mono run ?_
  intro r s' h
  cases r with
  | error e => exact h.elim
  | ok fl =>
    cases fl with
    | next => exact h.elim
    | brk => exact h.elim
    | cont => exact h.elim
    | ret u =>
      obtain ⟨v, H', os, bare, un, hok', rv, q⟩ := h
      obtain rfl : v = .bl true := q
      obtain rfl : u = Value.bool true := rv
      refine ⟨rfl, OldK.of_keep ?_, os, bare⟩
      intro b o e
      cases q : H b with
      | none => exact un.keep b o e q (by intro z; cases z) (by intro z; cases z)
      | some u =>
        obtain ⟨rfl, _, xs, rfl⟩ := hH b u q
        obtain ⟨f1, _⟩ := hok' b _ (un.frzs b _ _ q)
        rw [ha] at e
        cases e
        exact f1
theorem law_run (KX : K.In s₁.heap) (hns : s₁.heap.Ns mainGlobals mg) (hb : s₁.heap.Ns builtinsNs mb) (hbb : ∀ x : Str, x ≠ "__name__" → mb x = bootBuiltins x) (hlim : s₁.heap.NoLimit) (hg : s₁.gens = #[])
    (ha : s₁.heap.get? a = some { cls := .type "list", data := .seq us.toArray }) (hi : IntsAre us ns) (hl : ns.length ≤ sizeLine) (hr : Room k callerA)
    (F : ∀ base : Heap, K.In base → base.Ns mainGlobals mg → Prm P w K mg base CX0 k fa fd [x] sp) (hbind : ∀ u : Value, bindArgs fd ⟨[u], []⟩ = pure [(x, u)])
    (hsp : ∀ H : Hp, SqL K H a (ns.map V.int) → sp [.ref a] H (fun v _ => v = .bl true) E0) :
    codeAny (model P w) callerA (.call (.ref fa) ⟨[.ref a], []⟩) (fun r s' => r = .ok (.ret (.bool true)) ∧ OldK s₁.heap s'.heap ∧ s'.os = s₁.os ∧ AllBare s'.gens) s₁ := by
  have rv := ints_vals hi
  cases hk : K.lookup a with
  | some o =>
    have e := KX a o hk
    rw [ha] at e
    cases e
    refine law_core KX hns hb hbb hlim hg ha hr F hbind (fun _ => none) (fun b u z => nomatch z) (fun b u z => nomatch z) (hsp _ (.inr ⟨_, us.toArray, _, hk, rfl, rfl, rfl, ?_, ?_⟩))
    · rw [List.size_toArray, hi.length]
      exact hl
    · simpa using rv
  | none =>
    refine law_core KX hns hb hbb hlim hg ha hr F hbind (fun b => if b = a then some (.frz { cls := .type "list", data := .seq us.toArray } (.lst (ns.map V.int))) else none) ?_ ?_ (hsp _ (.inl (.inr ⟨_, if_pos rfl⟩)))
    · intro b u z
      by_cases q : b = a
      · rw [if_pos q] at z
        cases z
        exact ⟨q, hk, _, rfl⟩
      · rw [if_neg q] at z
        cases z
    · intro b u z
      have z : (if b = a then some (HO.frz { cls := .type "list", data := .seq us.toArray } (.lst (ns.map V.int))) else none) = some u := z
      by_cases q : b = a
      · rw [if_pos q] at z
        cases z
        subst q
        exact ⟨ha, (by rw [List.length_map]; exact hl), us, _, rv, ha⟩
      · rw [if_neg q] at z
        cases z
/-- the goal that the head leaves, by the promise of the law's def -/
theorem law_end {l : PySem.W.OpenLaw} {n : Nat} {q : Program} {loose : List Str} {XP : (Str → Option Value) → Heap → Prop} {YP : World → Heap → Prop} {d : DefRec} {K : Params → PySem.W.Frag} {sp : PySem.W.Frag → Sp}
    (hn : l.most = some n) (hn2 : n ≤ sizeLine) (hdf : d.params.defaults = []) (hr : Room k callerA) (hY : ∀ (w : World) (h : Heap), YP w h → (K w.params).In h)
    (F : ∀ (w : World) (mg : Str → Option Value) (fa : Addr) (h : Heap), (K w.params).In h → h.Ns mainGlobals mg → mg d.name = some (.ref fa) →
      ∃ fd : FuncData, (∀ u : Value, bindArgs fd ⟨[u], []⟩ = pure [(x, u)]) ∧ ∀ base : Heap, (K w.params).In base → base.Ns mainGlobals mg → Prm l.prog w (K w.params) mg base CX0 k fa fd [x] (sp (K w.params)))
    (hsp : ∀ (K : PySem.W.Frag) (H : Hp) (a : Addr) (ns : List Int), ns.length ≤ n → SqL K H a (ns.map V.int) → sp K [.ref a] H (fun v _ => v = .bl true) E0) :
    PySem.W.WalkO q loose XP YP l.row.toRowW d [] (fun f vs => PySem.call f vs) := by
  refine Att.attach_call hn hdf ?_
  intro w s₀ s₁ mg mb fa o pm cd doc a vs ns G Y ho hd hcd hmg hobj hints hlen hg
  obtain ⟨fd, hb, hF⟩ := F w mg fa _ (hY w _ Y) G.T.g hmg
  exact law_run (hY w _ Y) G.T.g G.T.b G.T.builtins G.T.nolimit hg hobj hints (Nat.le_trans hlen hn2) hr hF hb fun H hS => hsp _ H a ns hlen hS
end
end Ow
namespace Ow
open PySem PySem.Spec PyProof.Rows L2
/-- what the head tells of a def -/
theorem stands_of {K : PySem.W.Frag} {h : Heap} {mg : Str → Option Value} {x : Str} {st : Stmt} {f : Addr} {od an : Option Addr} {sl : Array (Option Value)} {oc kV doc pm cdv ct : Value} (X : K.In h) (G : h.Ns mainGlobals mg)
    (a : PySem.W.nsIn K mainGlobals x = some (some (.ref f))) (l : K.lookup f = some ⟨oc, od, .func (PySem.W.fnOf x x (defArgs st) (defBody st) (defScope st) .none kV doc pm an cdv ct), sl⟩)
    (c : PySem.W.codeIn K cdv x = true) (k : PySem.W.keepIn K (.ref f) = true) : Stands K mg x st := ⟨f, _, PySem.W.mg_of X G a, fun_mk l c k⟩
theorem none_of {K : PySem.W.Frag} {h : Heap} {mg : Str → Option Value} {x : Str} (X : K.In h) (G : h.Ns mainGlobals mg) (a : PySem.W.nsIn K mainGlobals x = some none) : mg x = none := PySem.W.mg_none_of X G a
theorem int_of {K : PySem.W.Frag} {h : Heap} {mg : Str → Option Value} {x : Str} {i : Int} {t : Tok} (X : K.In h) (G : h.Ns mainGlobals mg) (a : PySem.W.nsIn K mainGlobals x = some (some (.int i t))) : ∃ t, mg x = some (.int i t) := ⟨t, PySem.W.mg_of X G a⟩
end Ow
namespace Ow
open PySem PySem.Spec PyProof.Rows L2
section
variable {P : Program} {w : World} {K : PySem.W.Frag} {mg : Str → Option Value} {base : Heap} {CX : CXT} {k : Nat} {x : Str} {st : Stmt} {ps : List Str} {sp : Sp} {f : Addr} {fd : FuncData}
/-- the promise, of the very def that stands there -/
theorem Df.prm (D : Df P w K mg base CX k x st ps sp) (hm : mg x = some (.ref f)) (F : Fun K x x st f fd) : Prm P w K mg base CX k f fd ps sp := by
  obtain ⟨g, gd, gm, G, R⟩ := D.ex
  rw [hm] at gm
  cases gm
  obtain ⟨o1, d1, _, _, _, _, _, _, l1, _, e1, _⟩ := F.ex
  obtain ⟨o2, d2, _, _, _, _, _, _, l2, _, e2, _⟩ := G.ex
  rw [e1] at e2
  cases e2
  exact R
/-- the law's def: what law_end asks -/
theorem made_of {s : PySem.W.Frag → Sp} (S : Stands K mg x st) (hm : mg x = some (.ref f)) (bd : Bind x st ["script"]) (D : ∀ base : Heap, Df P w K mg base CX k x st ["script"] (s K)) :
    ∃ fd : FuncData, (∀ u : Value, bindArgs fd ⟨[u], []⟩ = pure [(("script" : Str), u)]) ∧ ∀ base : Heap, K.In base → base.Ns mainGlobals mg → Prm P w K mg base CX k f fd ["script"] (s K) := by
  obtain ⟨g, fd, gm, G⟩ := S
  rw [hm] at gm
  cases gm
  refine ⟨fd, fun u => ?_, fun base _ _ => (D base).prm hm G⟩
  obtain ⟨_, _, kV, doc, pm, an, cdv, ct, _, rfl, _, _⟩ := G.ex
  exact bd kV doc pm an cdv ct [u] rfl
end
end Ow
/-! Own layer: repr of data. -/
namespace Ow
open PySem PySem.Spec PyProof.Rows L2
section
variable {X : Cx}
/-- repr(x), x data that holds no dict -/
def rShow (K : PySem.W.Frag) : List V → Hp → VK → Prop := fun xs H Q => ∃ (v : V) (d : PyData), xs = [v] ∧ Dp K H v d ∧ (d.hasDict = false ∧ d.showable = true ∧ d.depth ≤ 60 ∧ d.shown.length ≤ sizeLine) ∧ Q (.str d.shown) H
theorem call_show (hu : X.A.units + 64 < cLine) (hg : X.A.guards = some []) : CallR X (.builtin "repr") (rShow X.K) := by
  intro pins s σ H xs us Q I r h
  obtain ⟨v, d, rfl, hd, ⟨h1, h2, h3, h4⟩, q⟩ := h
  obtain ⟨u, rfl, ru⟩ := vals1 r
  have fin : ∀ (t : Tok) (tk : Nat) (h' : Heap), (∀ b o, s.heap.get? b = some o → h'.get? b = some o) → EP X pins σ Q (.str d.shown t) { s with heap := h', toks := tk } :=
    fun t tk h' hk => ⟨.str d.shown, H, I.kept hk, ⟨t, rfl⟩, q⟩
  have big : ∀ {a : Addr}, u = .ref a → wpAny (model X.prog X.w) X.A (call (.builtin "repr") [u]) (EP X pins σ Q) X.xe s := by
    intro a e
    subst e
    obtain ⟨as, rd⟩ := Dp.reads I d v _ hd ru
    exact repr_of_reads' rd h2 (fun z => by rw [h1] at z; cases z) hg (by omega) (fun _ _ e => e) (fun h' t tk hk => fin t tk h' hk) h4
  cases hd with
  | non => cases ru; exact PySem.P.repr_of_none (fin _ _ _ fun _ _ e => e)
  | bl b => cases ru; exact PySem.P.repr_of_bool (fin _ _ _ fun _ _ e => e)
  | int i => obtain ⟨t, rfl⟩ := ru; exact PySem.P.repr_of_int (by simpa [PyData.showable] using h2) (fin _ _ _ fun _ _ e => e)
  | str x => obtain ⟨t, rfl⟩ := ru; exact PySem.P.repr_of_str (fin _ _ _ fun _ _ e => e) (by simpa [PyData.shown] using h4)
  | @lst a xs ds hs ha => exact big ru
  | @tup a xs ds hs ha => exact big ru
end
end Ow
/-! Own layer: data of any kind, isinstance of data, tuples whose one object is known (they have no dict), dict of such a tuple of pairs. -/
namespace Ow
open PySem PySem.Spec PyProof.Rows L2
/-! ### tuples whose object is known -/
def SqF (H : Hp) (a : Addr) (xs : List V) : Prop := ∃ ob : Obj, ob.dict = none ∧ H a = some (.frz ob (.tup xs))
theorem SqF.t {K : PySem.W.Frag} {H : Hp} {a : Addr} {xs : List V} (h : SqF H a xs) : SqT K H a xs := by
  obtain ⟨ob, _, e⟩ := h
  exact .inl (.inr ⟨ob, e⟩)
/-- a new tuple whose object is known -/
def rNewF (xs : List V) (H : Hp) (Q : VK) : Prop := ∀ (p : Addr) (ob : Obj), ob.dict = none → H p = none → Q (.ref p) (upd H p (.frz ob (.tup xs)))
def tTupF (t : TA) : TE := fun σ H Q => t σ H fun xs H1 => xs.length ≤ sizeLine ∧ rNewF xs H1 Q
section
variable {X : Cx} {es : List Expr} {t : TA} {pos : Pos}
theorem pe_tupF {x1} (h : PA X es t) : PE X (.Tuple es x1 pos) (tTupF t) := by
  refine ⟨fun pins s σ H Q I hq => ?_⟩
  refine wpAny_Tuple_spliced (thn (h.run pos pins s σ H _ I hq) fun us s1 ⟨xs, H1, I1, r, z, q⟩ => ⟨by rw [← r.length]; exact z, ?_⟩)
  have hf : H1 s1.heap.objs.size = none := I1.hok.fresh (Nat.le_refl _)
  refine ⟨.ref s1.heap.objs.size, upd H1 s1.heap.objs.size (.frz { cls := .type "tuple", data := .seq us.toArray } (.tup xs)), I1.laid (t' := s1.toks) (fun b u e => Heap.get?_push_of_some _ e) (Nat.le_refl _) ?_, rfl, q _ _ rfl hf⟩
  have e : (s1.heap.push { cls := .type "tuple", data := .seq us.toArray }).get? s1.heap.objs.size = some { cls := .type "tuple", data := .seq us.toArray } := Heap.get?_push_size _ rfl
  exact ⟨e, z, us, r, ⟨_, e, rfl, _, rfl⟩⟩
/-- tuple(x) of a list: a new one; of a tuple: that one -/
theorem call_tupleF : CallR X (.type "tuple") (fun xs H Q => ∃ p ys, xs = [.ref p] ∧ ((SqL X.K H p ys ∧ rNewF ys H Q) ∨ (SqT X.K H p ys ∧ Q (.ref p) H))) := by
  intro pins s σ H xs us Q I r h
  obtain ⟨p, ys, rfl, h⟩ := h
  obtain ⟨u, rfl, rx⟩ := vals1 r
  cases rx
  rcases h with ⟨hq, q⟩ | ⟨hq, q⟩
  · obtain ⟨its, r', pl, hz⟩ := I.list hq
    have hlen := r'.length
    refine call_tuple_list pl.isList (fun h' kp => ?_) (by simp only [List.size_toArray] <;> omega)
    have I1 : Inv X pins σ H { s with heap := h' } := I.kept (t' := s.toks) kp
    have e : (h'.push { cls := .type "tuple", data := .seq its.toArray }).get? h'.objs.size = some { cls := .type "tuple", data := .seq its.toArray } := Heap.get?_push_size _ rfl
    have I2 : Inv X pins σ (upd H h'.objs.size (.frz { cls := .type "tuple", data := .seq its.toArray } (.tup ys))) { s with heap := h'.push { cls := .type "tuple", data := .seq its.toArray } } :=
      I1.laid (t' := s.toks) (fun b o e => Heap.get?_push_of_some _ e) (Nat.le_refl _) (show ObjOk X.prog X.w _ _ _ (.frz _ (.tup ys)) from ⟨e, hz, its, r', ⟨_, e, rfl, _, rfl⟩⟩)
    exact ⟨.ref h'.objs.size, _, I2, rfl, q _ _ rfl (I1.hok.fresh (Nat.le_refl _))⟩
  · obtain ⟨its, r', pl, hz⟩ := I.tuple hq
    exact call_tuple_same pl ⟨.ref p, H, I, rfl, q⟩
/-- dict(x) of a tuple of pairs -/
theorem call_dictF (hcalm : X.calm = true) : CallR X (.type "dict") (fun xs H Q => ∃ (a : Addr) (ps : List Addr) (kvs : List (Key × V)), xs = [.ref a] ∧ SqF H a (ps.map V.ref) ∧ Paired (fun p kv => SqT X.K H p [kV kv.1, kv.2]) ps kvs ∧
    ∀ p, H p = none → Q (.ref p) (upd H p (.dK (mergeK [] kvs)))) := by
  intro pins s σ H xs us Q I r q
  obtain ⟨a, ps, kvs, ex, hq, hp, q⟩ := q
  subst ex
  obtain ⟨u, eu, rx⟩ := vals1 r
  subst eu
  cases rx
  obtain ⟨ob, hd, eo⟩ := hq
  obtain ⟨eg, hz, its, rv, o, ho, hc, n, hdat⟩ := (show ObjOk X.prog X.w H s.heap a (.frz ob (.tup (ps.map V.ref))) from I.hok a _ eo)
  rw [eg] at ho
  cases ho
  have ei := refs_at rv
  subst ei
  rw [List.length_map] at hz
  obtain ⟨prs, rel, hl, hpr⟩ := pairs_of I hp
  have hps : ∀ (j : Nat) (q : Key × Value), prs[j]? = some q → ∃ b, ps[j]? = some b ∧ ∃ u, IsTup s.heap b #[u, q.2] ∧ keyIs q.1 u = true := fun j q e => by
    obtain ⟨b, u, e1, e2, e3⟩ := hpr j q e
    exact ⟨b, e1, u, e2, e3⟩
  have hall : ∃ pvs : List (Value × Value), pvs.length = prs.length ∧ ∀ (j : Nat) (q : Key × Value), prs[j]? = some q → ∃ u, pvs[j]? = some (u, q.2) ∧ keyIs q.1 u = true ∧ IsTup s.heap (ps.getD j 0) #[u, q.2] := by
    have key : ∀ m, m ≤ prs.length → ∃ pvs : List (Value × Value), pvs.length = m ∧ ∀ (j : Nat) (q : Key × Value), j < m → prs[j]? = some q → ∃ u, pvs[j]? = some (u, q.2) ∧ keyIs q.1 u = true ∧ IsTup s.heap (ps.getD j 0) #[u, q.2] := by
      intro m
      induction m with
      | zero => exact fun _ => ⟨[], rfl, fun j q h => absurd h (Nat.not_lt_zero _)⟩
      | succ m ih =>
        intro hm
        obtain ⟨pvs, e1, e2⟩ := ih (by omega)
        have hlt : m < prs.length := by omega
        obtain ⟨b, eb, u, e3, e4⟩ := hps m prs[m] (List.getElem?_eq_getElem hlt)
        refine ⟨pvs ++ [(u, prs[m].2)], by simp [e1], fun j q hj hq => ?_⟩
        rcases Nat.lt_or_ge j m with z | z
        · obtain ⟨u', x1, x2, x3⟩ := e2 j q z hq
          exact ⟨u', by rw [List.getElem?_append_left (by omega)]; exact x1, x2, x3⟩
        · have ej : j = m := by omega
          subst ej
          rw [List.getElem?_eq_getElem hlt] at hq
          have hq := Option.some.inj hq
          subst hq
          refine ⟨u, ?_, e4, ?_⟩
          · rw [List.getElem?_append_right (by omega), e1]
            simp
          · rw [List.getD_eq_getElem?_getD, eb]
            exact e3
    obtain ⟨pvs, e1, e2⟩ := key prs.length (Nat.le_refl _)
    exact ⟨pvs, e1, fun j q hq => e2 j q (List.getElem?_eq_some_iff.mp hq).1 hq⟩
  obtain ⟨pvs, el, ep⟩ := hall
  have P := PairArg.tuple (prog := X.prog) (w := X.w) a (ps.map Value.ref).toArray (fun j => ps.getD j 0) pvs
  have back : ∀ (j : Nat) (k v : Value), pvs[j]? = some (k, v) → ∃ q, prs[j]? = some q ∧ q.2 = v ∧ keyIs q.1 k = true ∧ IsTup s.heap (ps.getD j 0) #[k, v] := by
    intro j k v e
    have hj : j < prs.length := by rw [← el]; exact (List.getElem?_eq_some_iff.mp e).1
    obtain ⟨u, x1, x2, x3⟩ := ep j prs[j] (List.getElem?_eq_getElem hj)
    rw [x1] at e
    cases e
    exact ⟨_, List.getElem?_eq_getElem hj, rfl, x2, x3⟩
  refine call_dict_pairs (knd := mixKind X.prog X.w) (kvs := prs) P (I.ok.hd hcalm) ⟨⟨ob, n, eg, hc, hd, hdat⟩, ?_, fun j k v e => ?_⟩ ⟨el.symm, fun i k v e => ?_⟩ (by rw [el, hl]; exact hz) fun h' tk hd' k => ?_
  · simp [el, hl]
  · obtain ⟨q, e1, e2, e3, ⟨o, e4, e5, m, e6⟩⟩ := back j k v e
    refine ⟨?_, .inl ⟨o, e4, e5, m, e6⟩⟩
    have hj : j < ps.length := by rw [← hl]; exact (List.getElem?_eq_some_iff.mp e1).1
    simp [List.getD_eq_getElem?_getD, List.getElem?_eq_getElem hj]
  · obtain ⟨q, e1, e2, e3, _⟩ := back i k v e
    obtain ⟨q1, q2⟩ := q
    cases e2
    exact ⟨q1, e1, e3⟩
  · have hm : (s.heap.objs.size == sysModules) = false := beq_eq_false_iff_ne.mpr (Nat.ne_of_gt I.big)
    have hlen : (mergeK [] kvs).length ≤ sizeLine := by
      refine Nat.le_trans (length_mergeK kvs []) ?_
      rw [List.length_nil, Nat.zero_add, rel.length, hl]
      exact hz
    exact ⟨.ref s.heap.objs.size, upd H s.heap.objs.size (.dK (mergeK [] kvs)), I.laid (t' := tk) (fun b o e => k b o (fun z => nomatch z) e) (Nat.le_refl _) (show ObjOk X.prog X.w _ _ _ (.dK (mergeK [] kvs)) from ⟨hlen, hm, merged [] prs, KV.merge rel .nil, hd'⟩), rfl, q _ (I.hok.fresh (Nat.le_refl _))⟩
end
end Ow
/-! Own layer: data of any kind (dicts too), and what isinstance says of it. -/
namespace Ow
open PySem PySem.Spec PyProof.Rows L2
def kD : Key → PyData
  | .inl i => .int i
  | .inr x => .str x
mutual
/-- the value v is the data d -/
inductive Dq (K : PySem.W.Frag) (H : Hp) : V → PyData → Prop
  | non : Dq K H .non .none
  | bl (b : Bool) : Dq K H (.bl b) (.bool b)
  | int (i : Int) : Dq K H (.int i) (.int i)
  | str (x : Str) : Dq K H (.str x) (.str x)
  | lst {a : Addr} {xs : List V} {ds : List PyData} : SqL K H a xs → DqAll K H xs ds → Dq K H (.ref a) (.list ds)
  | tup {a : Addr} {xs : List V} {ds : List PyData} : SqT K H a xs → DqAll K H xs ds → Dq K H (.ref a) (.tuple ds)
  | dct {a : Addr} {kvs : List (Key × V)} {ds : List PyData} : Rd H a (.dK kvs) → DqAll K H (kvs.map (·.2)) ds → Dq K H (.ref a) (.dict ((kvs.map fun kv => kD kv.1).zip ds))
inductive DqAll (K : PySem.W.Frag) (H : Hp) : List V → List PyData → Prop
  | nil : DqAll K H [] []
  | cons {v : V} {vs : List V} {d : PyData} {ds : List PyData} : Dq K H v d → DqAll K H vs ds → DqAll K H (v :: vs) (d :: ds)
end
/-- what is known of one heap is known of the other -/
def Sm (H H' : Hp) : Prop := ∀ b o, H b = some o → H' b = some o
theorem Rd.sm {H H' : Hp} {a : Addr} {o : HO} (h : Rd H a o) (s : Sm H H') : Rd H' a o := h.elim (fun e => .inl (s _ _ e)) fun ⟨ob, e⟩ => .inr ⟨ob, s _ _ e⟩
theorem SqL.sm {K : PySem.W.Frag} {H H' : Hp} {a : Addr} {xs : List V} (h : SqL K H a xs) (s : Sm H H') : SqL K H' a xs := h.elim (fun e => .inl (Rd.sm e s)) .inr
theorem SqT.sm {K : PySem.W.Frag} {H H' : Hp} {a : Addr} {xs : List V} (h : SqT K H a xs) (s : Sm H H') : SqT K H' a xs := h.elim (fun e => .inl (Rd.sm e s)) .inr
theorem SqF.sm {H H' : Hp} {a : Addr} {xs : List V} (h : SqF H a xs) (s : Sm H H') : SqF H' a xs := by
  obtain ⟨ob, e, q⟩ := h
  exact ⟨ob, e, s _ _ q⟩
mutual
theorem Dq.sm {K : PySem.W.Frag} {H H' : Hp} (s : Sm H H') : ∀ {v : V} {d : PyData}, Dq K H v d → Dq K H' v d
  | _, _, .non => .non
  | _, _, .bl b => .bl b
  | _, _, .int i => .int i
  | _, _, .str x => .str x
  | _, _, .lst h t => .lst (SqL.sm h s) (DqAll.sm s t)
  | _, _, .tup h t => .tup (SqT.sm h s) (DqAll.sm s t)
  | _, _, .dct h t => .dct (Rd.sm h s) (DqAll.sm s t)
theorem DqAll.sm {K : PySem.W.Frag} {H H' : Hp} (s : Sm H H') : ∀ {vs : List V} {ds : List PyData}, DqAll K H vs ds → DqAll K H' vs ds
  | _, _, .nil => .nil
  | _, _, .cons h t => .cons (Dq.sm s h) (DqAll.sm s t)
end
mutual
theorem Dp.q {K : PySem.W.Frag} {H : Hp} : ∀ {v : V} {d : PyData}, Dp K H v d → Dq K H v d
  | _, _, .non => .non
  | _, _, .bl b => .bl b
  | _, _, .int i => .int i
  | _, _, .str x => .str x
  | _, _, .lst h t => .lst h (DpAll.q t)
  | _, _, .tup h t => .tup h (DpAll.q t)
theorem DpAll.q {K : PySem.W.Frag} {H : Hp} : ∀ {vs : List V} {ds : List PyData}, DpAll K H vs ds → DqAll K H vs ds
  | _, _, .nil => .nil
  | _, _, .cons h t => .cons (Dp.q h) (DpAll.q t)
end
mutual
theorem Dp.sm {K : PySem.W.Frag} {H H' : Hp} (s : Sm H H') : ∀ {v : V} {d : PyData}, Dp K H v d → Dp K H' v d
  | _, _, .non => .non
  | _, _, .bl b => .bl b
  | _, _, .int i => .int i
  | _, _, .str x => .str x
  | _, _, .lst h t => .lst (SqL.sm h s) (DpAll.sm s t)
  | _, _, .tup h t => .tup (SqT.sm h s) (DpAll.sm s t)
theorem DpAll.sm {K : PySem.W.Frag} {H H' : Hp} (s : Sm H H') : ∀ {vs : List V} {ds : List PyData}, DpAll K H vs ds → DpAll K H' vs ds
  | _, _, .nil => .nil
  | _, _, .cons h t => .cons (Dp.sm s h) (DpAll.sm s t)
end
theorem DqAll.length {K : PySem.W.Frag} {H : Hp} : ∀ {vs : List V} {ds : List PyData}, DqAll K H vs ds → vs.length = ds.length
  | _, _, .nil => rfl
  | _, _, .cons _ t => congrArg (· + 1) (DqAll.length t)
theorem DpAll.length {K : PySem.W.Frag} {H : Hp} : ∀ {vs : List V} {ds : List PyData}, DpAll K H vs ds → vs.length = ds.length
  | _, _, .nil => rfl
  | _, _, .cons _ t => congrArg (· + 1) (DpAll.length t)
theorem DqAll.at {K : PySem.W.Frag} {H : Hp} : ∀ {vs : List V} {ds : List PyData} (i : Nat) {d : PyData}, DqAll K H vs ds → ds[i]? = some d → ∃ v, vs[i]? = some v ∧ Dq K H v d
  | _, _, i, _, .nil, e => by simp at e
  | v :: _, _ :: _, 0, d, .cons h _, e => ⟨v, rfl, by
    have e : _ = d := Option.some.inj e
    rw [← e]
    exact h⟩
  | _, _ :: _, i + 1, _, .cons _ t, e => by
    obtain ⟨v, a, b⟩ := DqAll.at i t (by simpa using e)
    exact ⟨v, by simpa using a, b⟩
/-- the name of the type -/
def kindD : PyData → String
  | .none => "NoneType"
  | .bool _ => "bool"
  | .int _ => "int"
  | .str _ => "str"
  | .list _ => "list"
  | .tuple _ => "tuple"
  | .dict _ => "dict"
/-- isinstance(x, n) -/
def isK (d : PyData) (n : String) : Bool := decide (kindD d = n) || (decide (kindD d = "bool") && decide (n = "int"))
def kinds : List String := ["int", "bool", "str", "list", "tuple", "dict"]
theorem Dq.tyx {K : PySem.W.Frag} {H : Hp} {v : V} {d : PyData} (h : Dq K H v d) : TyX K H v (.type (kindD d)) := by
  cases h with
  | non => exact .base .non
  | bl b => exact .base (.bl b)
  | int i => exact .base (.int i)
  | str x => exact .base (.str x)
  | lst h t =>
    rcases h with (h | ⟨ob, h⟩) | ⟨o, its, n, h, c, _⟩
    · exact .base (.lst h)
    · exact .base (.frz h)
    · exact .kList h c
  | tup h t =>
    rcases h with (h | ⟨ob, h⟩) | ⟨o, its, n, h, c, _⟩
    · exact .base (.tup h)
    · exact .fTuple h
    · exact .kTuple h c
  | dct h t =>
    rcases h with h | ⟨ob, h⟩
    · exact .base (.dK h)
    · exact .fDict h
theorem kit_all : (["NoneType", "bool", "int", "str", "list", "tuple", "dict"].all fun k => kinds.all fun n => kitB k n == some (decide (k = n) || (decide (k = "bool") && decide (n = "int")))) = true := by decide +kernel
theorem kind_in (d : PyData) : kindD d ∈ ["NoneType", "bool", "int", "str", "list", "tuple", "dict"] := by cases d <;> simp [kindD]
theorem kit_one {K : PySem.W.Frag} (d : PyData) {n : String} (hn : n ∈ kinds) : PySem.W.kitOne K (.type (kindD d)) (.type n) = some (isK d n) := by
  refine kit_ty ?_
  have h1 := List.all_eq_true.mp kit_all _ (kind_in d)
  have h2 := List.all_eq_true.mp h1 n hn
  exact eq_of_beq h2
section
variable {X : Cx}
/-- isinstance(x, n), x data -/
theorem call_isiD : CallR X (.builtin "isinstance") (fun xs H Q => ∃ v d n, xs = [v, .ty n] ∧ n ∈ kinds ∧ Dq X.K H v d ∧ Q (.bl (isK d n)) H) := by
  intro pins s σ H xs us Q I r h
  obtain ⟨v, d, n, rfl, hn, hd, q⟩ := h
  exact call_isi pins s σ H _ us Q I r ⟨v, .ty n, _, _, isK d n, rfl, .ty n, hd.tyx, kit_one d hn, q⟩
/-- isinstance(x, (m, n)) -/
theorem call_isiD2 : CallR X (.builtin "isinstance") (fun xs H Q => ∃ v d tp m n, xs = [v, .ref tp] ∧ H tp = some (.tup [.ty m, .ty n]) ∧ m ∈ kinds ∧ n ∈ kinds ∧ Dq X.K H v d ∧ Q (.bl (isK d m || isK d n)) H) := by
  intro pins s σ H xs us Q I r h
  obtain ⟨v, d, tp, m, n, rfl, ht, hm, hn, hd, q⟩ := h
  refine call_isiT pins s σ H _ us Q I r ⟨v, tp, _, _, [.type m, .type n], isK d m || isK d n, rfl, ht, .cons (.ty m) (.cons (.ty n) .nil), hd.tyx, ?_, q⟩
  have a := kit_one (K := X.K) d hm
  have b := kit_one (K := X.K) d hn
  simp only [PySem.W.kitAny, a, b]
  cases isK d m <;> cases isK d n <;> rfl
/-- t[lo:hi] -/
def rSlQ (K : PySem.W.Frag) : V → Option Int → Option Int → Hp → VK → Prop := fun x lo hi H Q => ∃ a xs, x = .ref a ∧ SqT K H a xs ∧ ∀ p H', Sm H H' → SqT K H' p (cutV xs lo hi) → Q (.ref p) H'
theorem sm_new {H : Hp} {p : Addr} {o : HO} (h : H p = none) : Sm H (upd H p o) := fun b u e => by
  rw [upd_ne (ne_of_none e h)]
  exact e
theorem sl_tupQ : SlR X (rSlQ X.K) := by
  intro pins s σ H x v vl vu lo hi sl Q I rx hs pl pu h
  obtain ⟨a, xs, rfl, hx, q⟩ := h
  refine sl_tupA pins s σ H _ v vl vu lo hi sl Q I rx hs pl pu ⟨a, xs, rfl, hx, fun hw => q a H (fun _ _ e => e) ?_, fun hw p hp => q p _ (sm_new hp) (.inl (.inl upd_same))⟩
  have e : cutV xs lo hi = xs := by
    unfold cutV
    rw [hw.1, hw.2, List.drop_zero, Nat.sub_zero, List.take_length]
  rw [e]
  exact hx
/-- t + u -/
def rCatQ (K : PySem.W.Frag) : R2 := fun x y H Q => ∃ a b xs ys, x = .ref a ∧ y = .ref b ∧ SqT K H a xs ∧ SqT K H b ys ∧ xs.length + ys.length ≤ sizeLine ∧ ∀ p H', Sm H H' → SqT K H' p (xs ++ ys) → Q (.ref p) H'
theorem op_catQ : OpR X (binaryOp .Add) (rCatQ X.K) := by
  intro pins s σ H x y v u Q I rx ry h
  obtain ⟨a, b, xs, ys, rfl, rfl, ha, hb, hz, q⟩ := h
  refine op_catA pins s σ H _ _ v u Q I rx ry ⟨a, b, xs, ys, rfl, rfl, ha, hb, hz, fun e => q b H (fun _ _ e => e) ?_, fun _ e => q a H (fun _ _ e => e) ?_, fun _ _ p hp => q p _ (sm_new hp) (.inl (.inl upd_same))⟩
  · rw [e]
    exact hb
  · rw [e, List.append_nil]
    exact ha
/-- a walk of the one kind or of the other -/
theorem pi_or {tg l : Expr} {w1 w2 : TI} (h1 : PI X tg l w1) (h2 : PI X tg l w2) : PI X tg l (fun σ H R => w1 σ H R ∨ w2 σ H R) :=
  ⟨fun pins s σ H R I h => h.elim (h1.run pins s σ H R I) (h2.run pins s σ H R I)⟩
end
theorem walk_zipT {K : PySem.W.Frag} {a b : Addr} {xs ys : List V} {n : Nat} (hn : n = min xs.length ys.length) : Walk (RZ.ItzT K a b) n (fun H => SqT K H a xs ∧ SqT K H b ys) (YPair (fun i => xs[i]?) (fun i => ys[i]?)) := by
  subst hn
  refine ⟨fun i _ hi q => ?_, fun _ q => ⟨xs, ys, q.1, q.2, by omega⟩, fun i H v H' _ q y => ?_⟩
  · have h1 : i < xs.length := by omega
    have h2 : i < ys.length := by omega
    exact ⟨xs, ys, xs[i], ys[i], q.1, q.2, by simp [h1], by simp [h2]⟩
  · obtain ⟨T, x, z, h1, h2, h3, h4, h5⟩ := y
    exact ⟨T, x, z, h1, h2, h3, h4 xs q.1, h5 ys q.2⟩
end Ow
/-! Own layer: rules whose terms speak of K itself, for the insides of comprehensions. -/
namespace Ow
open PySem PySem.Spec PyProof.Rows L2
section
variable (K : PySem.W.Frag) {X : Cx}
theorem ixLK (h : X.K = K) : IxR X (rIxL K) := h ▸ ix_list
theorem ixTK (h : X.K = K) : IxR X (rIxT K) := h ▸ ix_tup
theorem ixSK (h : X.K = K) : IxR X (rIx K) := h ▸ ix_seq
theorem slTK (h : X.K = K) : SlR X (rSlQ K) := h ▸ sl_tupQ
theorem slLK (h : X.K = K) : SlR X (rSlL K) := h ▸ sl_list
theorem catQK (h : X.K = K) : OpR X (binaryOp .Add) (rCatQ K) := h ▸ op_catQ
theorem lenK (h : X.K = K) : CallR X (.builtin "len") (fun xs H Q => ∃ p ys, xs = [.ref p] ∧ (SqL K H p ys ∨ SqT K H p ys) ∧ Q (.int ys.length) H) := h ▸ call_len_seq
theorem allK (h : X.K = K) (hc : X.calm = true) : CallR X (.builtin "all") (rAll K) := h ▸ cr_all hc
theorem anyK (h : X.K = K) (hc : X.calm = true) : CallR X (.builtin "any") (rAny K) := h ▸ cr_any hc
theorem sumK (h : X.K = K) (hc : X.calm = true) : CallR X (.builtin "sum") (rSum K) := h ▸ cr_sum hc
theorem isiK (h : X.K = K) : CallR X (.builtin "isinstance") (fun xs H Q => ∃ v d n, xs = [v, .ty n] ∧ n ∈ kinds ∧ Dq K H v d ∧ Q (.bl (isK d n)) H) := h ▸ call_isiD
theorem isi2K (h : X.K = K) : CallR X (.builtin "isinstance") (fun xs H Q => ∃ v d tp m n, xs = [v, .ref tp] ∧ H tp = some (.tup [.ty m, .ty n]) ∧ m ∈ kinds ∧ n ∈ kinds ∧ Dq K H v d ∧ Q (.bl (isK d m || isK d n)) H) := h ▸ call_isiD2
theorem tupleK (h : X.K = K) : CallR X (.type "tuple") (fun xs H Q => ∃ p ys, xs = [.ref p] ∧ ((SqL K H p ys ∧ rNewF ys H Q) ∨ (SqT K H p ys ∧ Q (.ref p) H))) := h ▸ call_tupleF
theorem sortedIK (h : X.K = K) : CallR X (.builtin "sorted") (rSortedI K) := h ▸ cr_sortedI
theorem eqDK (h : X.K = K) (hu : X.A.units + 64 < cLine) : OpR X (compareOp .Eq) (rEqD K) := h ▸ op_eqD hu
theorem neDK (h : X.K = K) (hu : X.A.units + 64 < cLine) : OpR X (compareOp .NotEq) (rNeD K) := h ▸ op_neD hu
theorem showK (h : X.K = K) (hu : X.A.units + 64 < cLine) (hg : X.A.guards = some []) : CallR X (.builtin "repr") (rShow K) := h ▸ call_show hu hg
theorem piLK {tg l : Expr} {tl : TE} (h : X.K = K) (hl : PE X l tl) : PI X tg l (iList K tl) := h ▸ pi_list hl
theorem piTK {tg l : Expr} {tl : TE} (h : X.K = K) (hl : PE X l tl) : PI X tg l (iTup K tl) := h ▸ pi_tup hl
end
end Ow
/-! Own layer: data that can be shown and compared: depth at most k, at most n signs and items. -/
namespace Ow
open PySem PySem.Spec PyProof.Rows L2
structure Shows (k n : Nat) (d : PyData) : Prop where
  lay : d.canLay0 = true
  shw : d.showable = true
  leaf : d.leavesShort 40 = true
  dep : d.depth ≤ k
  blk : d.bulk ≤ n
structure ShowsAll (k n : Nat) (ds : List PyData) : Prop where
  lay : PyData.canLayAll0 ds = true
  shw : PyData.showableAll ds = true
  leaf : PyData.leavesShortAll 40 ds = true
  dep : PyData.depthAll ds ≤ k
  blk : PyData.bulkAll ds ≤ n
theorem Shows.ok {k n : Nat} {d : PyData} (h : Shows k n d) (hk : k ≤ 60) (hn : n ≤ 300000) : d.hasDict = false ∧ d.showable = true ∧ d.depth ≤ 60 ∧ d.shown.length ≤ sizeLine := by
  refine ⟨PyData.hasDict_of_canLay d h.lay, h.shw, Nat.le_trans h.dep hk, ?_⟩
  have := PyData.shown_le_bulk 40 (by decide) d h.leaf
  have := h.blk
  rw [sizeLine_eq]
  omega
theorem Shows.shaped {k n : Nat} {d : PyData} (h : Shows k n d) (hk : k ≤ 60) : SeqAt.shaped d = true := by
  unfold SeqAt.shaped
  rw [h.lay, decide_eq_true (Nat.le_trans h.dep (by omega))]
  rfl
theorem Shows.mono {k n k' n' : Nat} {d : PyData} (h : Shows k n d) (hk : k ≤ k') (hn : n ≤ n') : Shows k' n' d := ⟨h.lay, h.shw, h.leaf, Nat.le_trans h.dep hk, Nat.le_trans h.blk hn⟩
theorem Shows.none : Shows 0 0 .none := ⟨rfl, rfl, rfl, Nat.le_refl _, Nat.le_refl _⟩
theorem Shows.bool (b : Bool) : Shows 0 0 (.bool b) := ⟨rfl, rfl, rfl, Nat.le_refl _, Nat.le_refl _⟩
theorem Shows.int {i : Int} (h0 : -(10 ^ 38) < i) (h1 : i < 10 ^ 38) : Shows 0 0 (.int i) := by
  have hb : i.natAbs < 10 ^ 38 := by omega
  refine ⟨rfl, ?_, ?_, Nat.le_refl _, Nat.le_refl _⟩
  · show decide (i.natAbs.log2 < 1920) = true
    rw [decide_eq_true_eq]
    rcases Nat.eq_zero_or_pos i.natAbs with z | z
    · rw [z]
      decide
    · have := (Nat.log2_lt (by omega : i.natAbs ≠ 0)).mpr (show i.natAbs < 2 ^ 200 by omega)
      omega
  · show decide ((toString i : Str).length ≤ 40) = true
    rw [decide_eq_true_eq]
    have := int_text_length_le10 (a := i) (k := 38) (by decide) hb
    show (Str.ofString (toString i)).length ≤ 40
    rw [PySem.ofString_length]
    omega
theorem ShowsAll.nil : ShowsAll 0 0 [] := ⟨rfl, rfl, rfl, Nat.le_refl _, Nat.le_refl _⟩
theorem ShowsAll.cons {k j a b : Nat} {d : PyData} {ds : List PyData} (h : Shows k a d) (t : ShowsAll j b ds) : ShowsAll (max k j) (a + 1 + b) (d :: ds) := by
  refine ⟨?_, ?_, ?_, ?_, ?_⟩
  · simp only [PyData.canLayAll0, h.lay, t.lay, Bool.and_self]
  · simp only [PyData.showableAll, h.shw, t.shw, Bool.and_self]
  · simp only [PyData.leavesShortAll, h.leaf, t.leaf, Bool.and_self]
  · simp only [PyData.depthAll]
    have := h.dep
    have := t.dep
    omega
  · simp only [PyData.bulkAll]
    have := h.blk
    have := t.blk
    omega
theorem ShowsAll.mono {k n k' n' : Nat} {d : List PyData} (h : ShowsAll k n d) (hk : k ≤ k') (hn : n ≤ n') : ShowsAll k' n' d := ⟨h.lay, h.shw, h.leaf, Nat.le_trans h.dep hk, Nat.le_trans h.blk hn⟩
theorem ShowsAll.of {k m : Nat} : ∀ {ds : List PyData}, (∀ d ∈ ds, Shows k m d) → ShowsAll k (ds.length * (m + 1)) ds
  | [], _ => ShowsAll.nil.mono (Nat.zero_le _) (Nat.zero_le _)
  | d :: ds, h => by
    have t := ShowsAll.of fun x hx => h x (List.mem_cons_of_mem _ hx)
    refine (ShowsAll.cons (h d List.mem_cons_self) t).mono (by omega) ?_
    rw [List.length_cons, Nat.add_mul]
    omega
theorem Shows.list {k n : Nat} {ds : List PyData} (h : ShowsAll k n ds) : Shows (k + 1) n (.list ds) := by
  refine ⟨?_, ?_, ?_, ?_, ?_⟩
  · simpa only [PyData.canLay0] using h.lay
  · simpa only [PyData.showable] using h.shw
  · simpa only [PyData.leavesShort] using h.leaf
  · simpa only [PyData.depth] using Nat.succ_le_succ h.dep
  · simpa only [PyData.bulk] using h.blk
theorem Shows.tuple {k n : Nat} {ds : List PyData} (h : ShowsAll k n ds) : Shows (k + 1) n (.tuple ds) := by
  refine ⟨?_, ?_, ?_, ?_, ?_⟩
  · simpa only [PyData.canLay0] using h.lay
  · simpa only [PyData.showable] using h.shw
  · simpa only [PyData.leavesShort] using h.leaf
  · simpa only [PyData.depth] using Nat.succ_le_succ h.dep
  · simpa only [PyData.bulk] using h.blk
/-! ### equality of data without texts, bools beside numbers -/
theorem eqv_self {d : PyData} (h : d.canLay0 = true) : PyData.eqv d d = true := by
  exact SeqAt.eqv_refl d h
/-! whole numbers and tuples of them: equal for == just if the same -/
mutual
def plainD : PyData → Bool
  | .int _ => true
  | .tuple ds => plainAllD ds
  | .list ds => plainAllD ds
  | .none => true
  | _ => false
def plainAllD : List PyData → Bool
  | [] => true
  | d :: ds => plainD d && plainAllD ds
end
mutual
theorem eqv_plain : ∀ (d e : PyData), plainD d = true → plainD e = true → PyData.eqv d e = true → d = e
  | .int i, .int j, _, _, h => by
    simp only [PyData.eqv, beq_iff_eq] at h
    rw [h]
  | .tuple xs, .tuple ys, h1, h2, h => by
    simp only [PyData.eqv] at h
    simp only [plainD] at h1 h2
    rw [eqv_plainAll xs ys h1 h2 h]
  | .list xs, .list ys, h1, h2, h => by
    simp only [PyData.eqv] at h
    simp only [plainD] at h1 h2
    rw [eqv_plainAll xs ys h1 h2 h]
  | .none, .none, _, _, _ => rfl
  | .int _, .tuple _, _, _, h => by simp [PyData.eqv] at h
  | .int _, .list _, _, _, h => by simp [PyData.eqv] at h
  | .int _, .none, _, _, h => by simp [PyData.eqv] at h
  | .tuple _, .int _, _, _, h => by simp [PyData.eqv] at h
  | .tuple _, .list _, _, _, h => by simp [PyData.eqv] at h
  | .tuple _, .none, _, _, h => by simp [PyData.eqv] at h
  | .list _, .int _, _, _, h => by simp [PyData.eqv] at h
  | .list _, .tuple _, _, _, h => by simp [PyData.eqv] at h
  | .list _, .none, _, _, h => by simp [PyData.eqv] at h
  | .none, .int _, _, _, h => by simp [PyData.eqv] at h
  | .none, .tuple _, _, _, h => by simp [PyData.eqv] at h
  | .none, .list _, _, _, h => by simp [PyData.eqv] at h
  | .bool _, _, h, _, _ => by simp [plainD] at h
  | .str _, _, h, _, _ => by simp [plainD] at h
  | .dict _, _, h, _, _ => by simp [plainD] at h
  | _, .bool _, _, h, _ => by simp [plainD] at h
  | _, .str _, _, h, _ => by simp [plainD] at h
  | _, .dict _, _, h, _ => by simp [plainD] at h
theorem eqv_plainAll : ∀ (ds es : List PyData), plainAllD ds = true → plainAllD es = true → PyData.eqvAll ds es = true → ds = es
  | [], [], _, _, _ => rfl
  | x :: xs, y :: ys, h1, h2, h => by
    simp only [PyData.eqvAll, Bool.and_eq_true] at h
    simp only [plainAllD, Bool.and_eq_true] at h1 h2
    rw [eqv_plain x y h1.1 h2.1 h.1, eqv_plainAll xs ys h1.2 h2.2 h.2]
  | [], _ :: _, _, _, h => by simp [PyData.eqvAll] at h
  | _ :: _, [], _, _, h => by simp [PyData.eqvAll] at h
end
end Ow
namespace Eqr
open PySem PySem.Spec L2
/-! ### numbers of a prime: the plain mathematics -/
/-- no part from 2 to 99 below the number divides it: the law's own look -/
def primeB (n : Int) : Bool := decide (1 < n) && !((List.range 98).any fun i => decide ((i : Int) + 2 < n) && decide (n % ((i : Int) + 2) = 0))
def within : V → Int → Int → Bool
  | .int i, l, m => decide (l ≤ i) && decide (i ≤ m)
  | _, _, _ => false
def prV : V → Bool
  | .int i => (decide (3 ≤ i) && decide (i ≤ 9973)) && primeB i
  | _ => false
/-- a prime here -/
def Pr (p : Int) : Prop := prV (.int p) = true
theorem Pr.lo {p : Int} (h : Pr p) : 3 ≤ p := by
  unfold Pr prV at h
  simp only [Bool.and_eq_true, decide_eq_true_eq] at h
  exact h.1.1
theorem Pr.hi {p : Int} (h : Pr p) : p ≤ 9973 := by
  unfold Pr prV at h
  simp only [Bool.and_eq_true, decide_eq_true_eq] at h
  exact h.1.2
theorem Pr.pr {p : Int} (h : Pr p) : primeB p = true := by
  unfold Pr prV at h
  simp only [Bool.and_eq_true, decide_eq_true_eq] at h
  exact h.2
theorem primeB_no {n : Int} (h : primeB n = true) {d : Int} (h2 : 2 ≤ d) (h3 : d < 100) (h4 : d < n) : n % d ≠ 0 := by
  intro e
  unfold primeB at h
  simp only [Bool.and_eq_true, Bool.not_eq_true', decide_eq_true_eq] at h
  have q : (List.range 98).any (fun i => decide ((i : Int) + 2 < n) && decide (n % ((i : Int) + 2) = 0)) = true := by
    rw [List.any_eq_true]
    refine ⟨(d - 2).toNat, List.mem_range.mpr (by omega), ?_⟩
    have e1 : (((d - 2).toNat : Nat) : Int) + 2 = d := by omega
    rw [e1]
    simp only [Bool.and_eq_true, decide_eq_true_eq]
    exact ⟨h4, e⟩
  rw [q] at h
  exact absurd h.2 (by decide)
theorem primeB_of {n : Int} (h1 : 1 < n) (h : ∀ d : Int, 2 ≤ d → d < 100 → d < n → n % d ≠ 0) : primeB n = true := by
  unfold primeB
  simp only [Bool.and_eq_true, Bool.not_eq_true', decide_eq_true_eq]
  refine ⟨h1, ?_⟩
  cases q : (List.range 98).any (fun i => decide ((i : Int) + 2 < n) && decide (n % ((i : Int) + 2) = 0)) with
  | false => rfl
  | true =>
    rw [List.any_eq_true] at q
    obtain ⟨i, hi, e⟩ := q
    simp only [Bool.and_eq_true, decide_eq_true_eq] at e
    have := List.mem_range.mp hi
    exact absurd e.2 (h _ (by omega) (by omega) e.1)
/-- what the trial by rising divisors finds: no divisor up to the root, no divisor at all -/
theorem no_small {n : Int} (h1 : 1 < n) (h2 : n < 10201) (h : ∀ d : Int, 2 ≤ d → d * d ≤ n → n % d ≠ 0) : primeB n = true := by
  refine primeB_of h1 fun d d1 d2 d3 e => ?_
  by_cases c : d * d ≤ n
  · exact h d d1 c e
  · obtain ⟨k, hk⟩ : ∃ k, n = d * k := ⟨n / d, by have := Int.mul_ediv_add_emod n d; omega⟩
    have k1 : 2 ≤ k := by
      rcases Int.lt_or_le k 2 with z | z
      · rcases Int.lt_or_le k 1 with y | y
        · have : d * k ≤ d * 0 := Int.mul_le_mul_of_nonneg_left (by omega) (by omega)
          omega
        · have : k = 1 := by omega
          subst this
          omega
      · exact z
    have k2 : k < d := by
      rcases Int.lt_or_le k d with z | z
      · exact z
      · have : d * d ≤ d * k := Int.mul_le_mul_of_nonneg_left z (by omega)
        omega
    refine h k k1 ?_ ?_
    · have : k * k ≤ d * k := Int.mul_le_mul_of_nonneg_right (by omega) (by omega)
      omega
    · rw [hk]
      exact Int.mul_emod_left d k
theorem has_small {n d : Int} (h2 : 2 ≤ d) (h3 : d * d ≤ n) (h4 : n % d = 0) (hn : n < 10201) : primeB n = false := by
  have d1 : d < 101 := by
    rcases Int.lt_or_le d 101 with z | z
    · exact z
    · have : 101 * 101 ≤ d * d := Int.mul_le_mul z z (by omega) (by omega)
      omega
  have d2 : d < n := by
    have : 2 * d ≤ d * d := Int.mul_le_mul_of_nonneg_right h2 (by omega)
    omega
  cases q : primeB n with
  | false => rfl
  | true =>
    rcases Int.lt_or_le d 100 with z | z
    · exact absurd h4 (primeB_no q h2 z d2)
    · have e : d = 100 := by omega
      subst e
      exact absurd (show n % 2 = 0 by omega) (primeB_no q (by omega) (by omega) (by omega))
/-! ### rests: sums of multiples -/
/-- x and y leave the same rest by p -/
def Cg (p x y : Int) : Prop := ∃ k, x = y + p * k
theorem Cg.refl (p x : Int) : Cg p x x := ⟨0, by simp⟩
theorem Cg.symm {p x y : Int} (h : Cg p x y) : Cg p y x := by
  obtain ⟨k, hk⟩ := h
  exact ⟨-k, by rw [hk, Int.mul_neg]; omega⟩
theorem Cg.trans {p x y z : Int} (h : Cg p x y) (g : Cg p y z) : Cg p x z := by
  obtain ⟨k, hk⟩ := h
  obtain ⟨l, hl⟩ := g
  exact ⟨k + l, by rw [hk, hl, Int.mul_add]; omega⟩
theorem Cg.mul {p x y u v : Int} (h : Cg p x y) (g : Cg p u v) : Cg p (x * u) (y * v) := by
  obtain ⟨k, rfl⟩ := h
  obtain ⟨l, rfl⟩ := g
  exact ⟨k * v + y * l + p * k * l, by grind⟩
theorem Cg.add {p x y u v : Int} (h : Cg p x y) (g : Cg p u v) : Cg p (x + u) (y + v) := by
  obtain ⟨k, rfl⟩ := h
  obtain ⟨l, rfl⟩ := g
  exact ⟨k + l, by grind⟩
theorem Cg.sub {p x y u v : Int} (h : Cg p x y) (g : Cg p u v) : Cg p (x - u) (y - v) := by
  obtain ⟨k, rfl⟩ := h
  obtain ⟨l, rfl⟩ := g
  exact ⟨k - l, by grind⟩
theorem Cg.pow {p x y : Int} (h : Cg p x y) : ∀ n : Nat, Cg p (x ^ n) (y ^ n)
  | 0 => by
    rw [Int.pow_zero, Int.pow_zero]
    exact Cg.refl _ _
  | n + 1 => by
    rw [Int.pow_succ, Int.pow_succ]
    exact (Cg.pow h n).mul h
theorem Cg.rest (p x : Int) : Cg p (x % p) x := ⟨-(x / p), by have := Int.mul_ediv_add_emod x p; rw [Int.mul_neg]; omega⟩
theorem Cg.emod {p x y : Int} (h : Cg p x y) : x % p = y % p := by
  obtain ⟨k, rfl⟩ := h
  exact Int.add_mul_emod_self_left y p k
theorem Cg.of {p x y : Int} (h : x % p = y % p) : Cg p x y := (Cg.rest p x).symm.trans (h ▸ Cg.rest p y)
theorem Cg.uniq {p x y : Int} (h : Cg p x y) (x0 : 0 ≤ x) (x1 : x < p) (y0 : 0 ≤ y) (y1 : y < p) : x = y := by
  have e := h.emod
  rw [Int.emod_eq_of_lt x0 x1, Int.emod_eq_of_lt y0 y1] at e
  exact e
/-- a back is one -/
theorem back_uniq {p a r s : Int} (hr : Cg p (r * a) 1) (hs : Cg p (s * a) 1) (r0 : 0 ≤ r) (r1 : r < p) (s0 : 0 ≤ s) (s1 : s < p) : r = s := by
  refine Cg.uniq (p := p) ?_ r0 r1 s0 s1
  have h1 : Cg p (r * (s * a)) (r * 1) := (Cg.refl p r).mul hs
  have h2 : Cg p (s * (r * a)) (s * 1) := (Cg.refl p s).mul hr
  have e : r * (s * a) = s * (r * a) := by grind
  rw [e] at h1
  simpa using h1.symm.trans h2
/-! ### primes -/
theorem Pr.nodiv {p : Int} (h : Pr p) {d : Int} (h2 : 2 ≤ d) (h3 : d < p) : p % d ≠ 0 := by
  intro e
  have lo := h.lo
  have hi := h.hi
  rcases Int.lt_or_le d 100 with z | z
  · exact primeB_no h.pr h2 z h3 e
  · have e2 : p = d * (p / d) := by have := Int.mul_ediv_add_emod p d; omega
    have k1 : 2 ≤ p / d := by
      rcases Int.lt_or_le (p / d) 2 with y | y
      · rcases Int.lt_or_le (p / d) 1 with x | x
        · have : d * (p / d) ≤ d * 0 := Int.mul_le_mul_of_nonneg_left (by omega) (by omega)
          omega
        · have : p / d = 1 := by omega
          rw [this] at e2
          omega
      · exact y
    have k2 : p / d < 100 := by
      rcases Int.lt_or_le (p / d) 100 with y | y
      · exact y
      · have : 100 * 100 ≤ d * (p / d) := Int.mul_le_mul z y (by omega) (by omega)
        omega
    refine primeB_no h.pr k1 k2 ?_ ?_
    · have : 2 * (p / d) ≤ d * (p / d) := Int.mul_le_mul_of_nonneg_right h2 (by omega)
      omega
    · generalize p / d = k at e2
      rw [e2]
      exact Int.mul_emod_left d k
/-- nothing but 1 parts both -/
def Apart (x y : Int) : Prop := ∀ d : Int, 2 ≤ d → ¬ (x % d = 0 ∧ y % d = 0)
theorem Pr.apart {p a : Int} (h : Pr p) (a0 : 0 < a) (a1 : a < p) : Apart p a := by
  rintro d d2 ⟨e1, e2⟩
  refine h.nodiv d2 ?_ e1
  rcases Int.lt_or_le d p with z | z
  · exact z
  · rw [Int.emod_eq_of_lt (by omega) (by omega)] at e2
    omega
theorem Apart.step {x y : Int} (h : Apart x y) (k : Int) : Apart y (x - k * y) := by
  rintro d d2 ⟨e1, e2⟩
  refine h d d2 ⟨?_, e1⟩
  have h1 := Int.dvd_of_emod_eq_zero e1
  have h2 := Int.dvd_of_emod_eq_zero e2
  refine Int.emod_eq_zero_of_dvd ?_
  have : x = (x - k * y) + k * y := by omega
  rw [this]
  exact Int.dvd_add h2 (Int.dvd_mul_of_dvd_right h1)
/-- one turn of the looking for a back -/
structure Turn (p a hi lo u v : Int) : Prop where
  ap : Apart hi lo
  h0 : 0 ≤ lo
  h1 : lo < hi
  h2 : hi ≤ p
  c1 : Cg p (u * a) hi
  c2 : Cg p (v * a) lo
theorem Turn.first {p a : Int} (h : Pr p) (a0 : 0 < a) (a1 : a < p) : Turn p a p a 0 1 :=
  ⟨h.apart a0 a1, by omega, a1, Int.le_refl _, ⟨-1, by omega⟩, ⟨0, by omega⟩⟩
theorem Turn.next {p a hi lo u v : Int} (t : Turn p a hi lo u v) (hl : 0 < lo) : Turn p a lo (hi - hi / lo * lo) v (u - hi / lo * v) := by
  have e := Int.mul_ediv_add_emod hi lo
  have e1 : hi - hi / lo * lo = hi % lo := by rw [Int.mul_comm]; omega
  refine ⟨t.ap.step _, ?_, ?_, by have := t.h1; have := t.h2; omega, t.c2, ?_⟩
  · rw [e1]
    exact Int.emod_nonneg _ (by omega)
  · rw [e1]
    exact Int.emod_lt_of_pos _ hl
  · have q := t.c1.sub ((Cg.refl p (hi / lo)).mul t.c2)
    have e2 : (u - hi / lo * v) * a = u * a - hi / lo * (v * a) := by grind
    rw [e2]
    exact q
theorem Turn.low {p a hi lo u v : Int} (t : Turn p a hi lo u v) (hl : 1 < lo) : 0 < hi - hi / lo * lo := by
  have n := t.next (by omega)
  rcases Int.lt_or_le 0 (hi - hi / lo * lo) with z | z
  · exact z
  · have e : hi - hi / lo * lo = 0 := by have := n.h0; omega
    exact absurd ⟨Int.emod_self, by rw [e]; simp⟩ (n.ap lo (by omega))
theorem Turn.share {p a hi lo u v : Int} (t : Turn p a hi lo u v) (hl : 0 < lo) : 0 ≤ hi / lo ∧ hi / lo ≤ p := by
  have h1 := t.h1
  have h2 := t.h2
  refine ⟨Int.ediv_nonneg (by omega) (by omega), Int.le_trans (Int.ediv_le_self _ (by omega)) h2⟩
theorem Turn.late {p a hi u v : Int} (t : Turn p a hi 1 u v) : Cg p (v % p * a) 1 := ((Cg.rest p v).mul (Cg.refl p a)).trans t.c2
theorem Turn.here {p a hi u v : Int} (t : Turn p a hi 0 u v) : Cg p (u % p * a) 1 := by
  have e : hi = 1 := by
    rcases Int.lt_or_le hi 2 with z | z
    · have := t.h1
      omega
    · exact absurd ⟨Int.emod_self, by simp⟩ (t.ap hi z)
  have q := ((Cg.rest p u).mul (Cg.refl p a)).trans t.c1
  rw [e] at q
  exact q
/-- the product of both halves at each turn -/
theorem Turn.half {p a hi lo u v : Int} (t : Turn p a hi lo u v) (hl : 0 < lo) : lo * (hi - hi / lo * lo) * 2 ≤ hi * lo := by
  have h1 := t.h1
  have n := t.next hl
  have s1 : 1 ≤ hi / lo := by
    rw [Int.le_ediv_iff_mul_le hl]
    omega
  have s2 : 1 * lo ≤ hi / lo * lo := Int.mul_le_mul_of_nonneg_right s1 (by omega)
  have n1 := n.h1
  have s3 : (hi - hi / lo * lo) * 2 ≤ hi := by omega
  have s4 : lo * ((hi - hi / lo * lo) * 2) ≤ lo * hi := Int.mul_le_mul_of_nonneg_left s3 (by omega)
  rw [Int.mul_assoc, Int.mul_comm hi lo]
  exact s4
/-! ### powers -/
theorem pow_odd (x : Int) (n : Nat) (h : n % 2 = 1) : x ^ n = x * (x * x) ^ (n / 2) := by
  have e : n = n / 2 + n / 2 + 1 := by omega
  conv => lhs; rw [e, Int.pow_succ, Int.pow_add, ← Int.mul_pow]
  exact Int.mul_comm _ _
theorem pow_even (x : Int) (n : Nat) (h : n % 2 = 0) : x ^ n = (x * x) ^ (n / 2) := by
  have e : n = n / 2 + n / 2 := by omega
  conv => lhs; rw [e, Int.pow_add, ← Int.mul_pow]
/-- r is a's power to m, by backs below 0 -/
def PowIs (p a m r : Int) : Prop := (0 ≤ r ∧ r < p) ∧ (0 ≤ m → Cg p r (a ^ m.toNat)) ∧ (m < 0 → Cg p (r * a ^ (-m).toNat) 1)
theorem PowIs.uniq {p a m r s : Int} (h : PowIs p a m r) (g : PowIs p a m s) : r = s := by
  rcases Int.lt_or_le m 0 with z | z
  · exact back_uniq (h.2.2 z) (g.2.2 z) h.1.1 h.1.2 g.1.1 g.1.2
  · exact Cg.uniq ((h.2.1 z).trans (g.2.1 z).symm) h.1.1 h.1.2 g.1.1 g.1.2
/-! ### Fermat -/
theorem perm_of_in : ∀ (l m : List Nat), l.Nodup → (∀ x ∈ l, x ∈ m) → m.length ≤ l.length → l.Perm m
  | [], m, _, _, h => by
    have e : m = [] := List.eq_nil_of_length_eq_zero (by simpa using h)
    rw [e]
  | a :: l, m, nd, hs, h => by
    have am : a ∈ m := hs a List.mem_cons_self
    have p1 := List.perm_cons_erase am
    have nd' := List.nodup_cons.mp nd
    have p2 : l.Perm (m.erase a) := by
      refine perm_of_in l (m.erase a) nd'.2 (fun x hx => ?_) ?_
      · have ne : x ≠ a := fun e => nd'.1 (e ▸ hx)
        exact (List.mem_erase_of_ne ne).mpr (hs x (List.mem_cons_of_mem _ hx))
      · rw [List.length_erase_of_mem am]
        simp only [List.length_cons] at h
        omega
    exact (List.Perm.cons a p2).trans p1.symm
def prodN : List Nat → Nat
  | [] => 1
  | x :: l => x * prodN l
theorem prodN_perm {l m : List Nat} (h : l.Perm m) : prodN l = prodN m := by
  induction h with
  | nil => rfl
  | cons x _ ih => simp only [prodN, ih]
  | swap x y l => simp only [prodN]; rw [← Nat.mul_assoc, ← Nat.mul_assoc, Nat.mul_comm x y]
  | trans _ _ ih1 ih2 => exact ih1.trans ih2
theorem prodN_mod (a p : Nat) : ∀ l : List Nat, prodN (l.map fun i => a * i % p) % p = a ^ l.length * prodN l % p
  | [] => by simp [prodN]
  | x :: l => by
    show (a * x % p) * prodN (l.map fun i => a * i % p) % p = a ^ (l.length + 1) * (x * prodN l) % p
    rw [Nat.mul_mod, prodN_mod a p l, Nat.mod_mod, ← Nat.mul_mod]
    congr 1
    rw [Nat.pow_succ]
    grind
theorem coprime_of {p a : Nat} (h : ∀ d : Nat, 2 ≤ d → d < p → p % d ≠ 0) (a0 : 0 < a) (a1 : a < p) : Nat.Coprime p a := by
  have g1 := Nat.gcd_dvd_left p a
  have g2 := Nat.gcd_dvd_right p a
  have g3 : Nat.gcd p a ≤ a := Nat.le_of_dvd a0 g2
  have g4 : 0 < Nat.gcd p a := Nat.gcd_pos_of_pos_right _ a0
  show Nat.gcd p a = 1
  rcases Nat.lt_or_ge (Nat.gcd p a) 2 with z | z
  · omega
  · exact absurd (Nat.mod_eq_zero_of_dvd g1) (h _ z (by omega))
theorem coprime_prod {p : Nat} : ∀ l : List Nat, (∀ x ∈ l, Nat.Coprime p x) → Nat.Coprime p (prodN l)
  | [], _ => Nat.coprime_one_right p
  | x :: l, h => Nat.Coprime.mul_right (h x List.mem_cons_self) (coprime_prod l fun y hy => h y (List.mem_cons_of_mem _ hy))
theorem nodup_map {f : Nat → Nat} : ∀ {l : List Nat}, l.Nodup → (∀ x ∈ l, ∀ y ∈ l, f x = f y → x = y) → (l.map f).Nodup
  | [], _, _ => List.nodup_nil
  | a :: l, nd, h => by
    have nd' := List.nodup_cons.mp nd
    rw [List.map_cons, List.nodup_cons]
    refine ⟨fun hm => ?_, nodup_map nd'.2 fun x hx y hy => h x (List.mem_cons_of_mem _ hx) y (List.mem_cons_of_mem _ hy)⟩
    obtain ⟨x, hx, e⟩ := List.mem_map.mp hm
    have := h x (List.mem_cons_of_mem _ hx) a List.mem_cons_self e
    exact nd'.1 (this ▸ hx)
theorem cancel_mod {p x y c : Nat} (h : Nat.Coprime p c) (hxy : y ≤ x) (e : x * c % p = y * c % p) : x % p = y % p := by
  have d : p ∣ (x - y) * c := by
    rw [Nat.sub_mul]
    exact Nat.dvd_of_mod_eq_zero (Nat.sub_mod_eq_zero_of_mod_eq e)
  have d2 := h.dvd_of_dvd_mul_right d
  obtain ⟨k, hk⟩ := d2
  have : x = y + p * k := by omega
  rw [this, Nat.add_mul_mod_self_left]
/-- Fermat, in natural numbers -/
theorem fermatN {p a : Nat} (h : ∀ d : Nat, 2 ≤ d → d < p → p % d ≠ 0) (hp : 2 ≤ p) (a0 : 0 < a) (a1 : a < p) : a ^ (p - 1) % p = 1 := by
  have ca := coprime_of h a0 a1
  have inR : ∀ x ∈ List.range' 1 (p - 1), 0 < x ∧ x < p := fun x hx => by
    have := List.mem_range'_1.mp hx
    omega
  have cp : Nat.Coprime p (prodN (List.range' 1 (p - 1))) := coprime_prod _ fun x hx => coprime_of h (inR x hx).1 (inR x hx).2
  have inj : ∀ x ∈ List.range' 1 (p - 1), ∀ y ∈ List.range' 1 (p - 1), a * x % p = a * y % p → x = y := by
    intro x hx y hy e
    obtain ⟨x0, x1⟩ := inR x hx
    obtain ⟨y0, y1⟩ := inR y hy
    rw [Nat.mul_comm a x, Nat.mul_comm a y] at e
    have fin : ∀ u v : Nat, u < p → v < p → v ≤ u → u * a % p = v * a % p → u = v := fun u v hu hv huv e => by
      have q := cancel_mod ca huv e
      rw [Nat.mod_eq_of_lt hu, Nat.mod_eq_of_lt hv] at q
      exact q
    rcases Nat.le_total y x with z | z
    · exact fin x y x1 y1 z e
    · exact (fin y x y1 x1 z e.symm).symm
  have pm : ((List.range' 1 (p - 1)).map fun i => a * i % p).Perm (List.range' 1 (p - 1)) := by
    refine perm_of_in _ _ (nodup_map (List.nodup_range' 1 (by omega)) inj) (fun x hx => ?_) (by simp)
    obtain ⟨i, hi, rfl⟩ := List.mem_map.mp hx
    obtain ⟨i0, i1⟩ := inR i hi
    have lt : a * i % p < p := Nat.mod_lt _ (by omega)
    have ne : a * i % p ≠ 0 := fun e => by
      have d := Nat.dvd_of_mod_eq_zero e
      have d2 := ca.dvd_of_dvd_mul_left d
      have := Nat.le_of_dvd i0 d2
      omega
    exact List.mem_range'_1.mpr ⟨by omega, by omega⟩
  have e1 := prodN_mod a p (List.range' 1 (p - 1))
  rw [prodN_perm pm, List.length_range'] at e1
  have e2 : a ^ (p - 1) * prodN (List.range' 1 (p - 1)) % p = 1 * prodN (List.range' 1 (p - 1)) % p := by rw [Nat.one_mul]; exact e1.symm
  have q := cancel_mod cp (Nat.one_le_iff_ne_zero.mpr (Nat.ne_of_gt (Nat.pow_pos a0))) e2
  rw [q, Nat.mod_eq_of_lt (by omega)]
theorem Pr.nat {p : Int} (h : Pr p) : ∀ d : Nat, 2 ≤ d → d < p.toNat → p.toNat % d ≠ 0 := by
  intro d d2 d3 e
  refine h.nodiv (d := (d : Int)) (by omega) (by omega) ?_
  have lo := h.lo
  have e2 : p = ((p.toNat : Nat) : Int) := by omega
  rw [e2, ← Int.natCast_emod, e]
  rfl
theorem fermat {p a : Int} (h : Pr p) (a0 : 0 < a) (a1 : a < p) : Cg p (a ^ (p - 1).toNat) 1 := by
  have lo := h.lo
  have q := fermatN (p := p.toNat) (a := a.toNat) h.nat (by omega) (by omega) (by omega)
  have e1 : a = ((a.toNat : Nat) : Int) := by omega
  have e2 : p = ((p.toNat : Nat) : Int) := by omega
  have e3 : (p - 1).toNat = p.toNat - 1 := by omega
  refine Cg.of ?_
  rw [e3, Int.emod_eq_of_lt (show (0:Int) ≤ 1 by omega) (show (1 : Int) < p by omega)]
  conv => lhs; rw [e1, e2]
  rw [← Int.natCast_pow, ← Int.natCast_emod]
  have e4 : ((p.toNat : Nat) : Int).toNat = p.toNat := by omega
  rw [e4, q]
  rfl
theorem dvd_pow_of {p a : Nat} (h : Nat.Coprime p a) (hp : 2 ≤ p) : ∀ n : Nat, a ^ n % p ≠ 0
  | 0 => by rw [Nat.pow_zero, Nat.mod_eq_of_lt (by omega)]; omega
  | n + 1 => fun e => by
    rw [Nat.pow_succ] at e
    have d := h.dvd_of_dvd_mul_right (Nat.dvd_of_mod_eq_zero e)
    exact dvd_pow_of h hp n (Nat.mod_eq_zero_of_dvd d)
/-- a power of a number but 0 is none -/
theorem pow_ne {p a : Int} (h : Pr p) (a0 : 0 < a) (a1 : a < p) (n : Nat) : a ^ n % p ≠ 0 := by
  have lo := h.lo
  have q := dvd_pow_of (coprime_of (p := p.toNat) (a := a.toNat) h.nat (by omega) (by omega)) (by omega) n
  have e1 : a = ((a.toNat : Nat) : Int) := by omega
  have e2 : p = ((p.toNat : Nat) : Int) := by omega
  intro e
  rw [e1, e2, ← Int.natCast_pow, ← Int.natCast_emod] at e
  omega
/-- the least divisor above 1 -/
structure Least (n r : Int) : Prop where
  lo : 2 ≤ r
  hi : r ≤ n
  dv : n % r = 0
  no : ∀ c : Int, 2 ≤ c → c < r → n % c ≠ 0
theorem Least.self {n d : Int} (h1 : 1 < n) (d1 : 2 ≤ d) (hd : ∀ c : Int, 2 ≤ c → c < d → n % c ≠ 0) (hn : n < d * d) : Least n n := by
  refine ⟨by omega, Int.le_refl _, Int.emod_self, fun c c1 c2 e => ?_⟩
  rcases Int.lt_or_le c d with z | z
  · exact hd c c1 z e
  · have e2 : n = c * (n / c) := by have := Int.mul_ediv_add_emod n c; omega
    have k1 : 2 ≤ n / c := by
      rcases Int.lt_or_le (n / c) 2 with y | y
      · rcases Int.lt_or_le (n / c) 1 with x | x
        · have : c * (n / c) ≤ c * 0 := Int.mul_le_mul_of_nonneg_left (by omega) (by omega)
          omega
        · have : n / c = 1 := by omega
          rw [this] at e2
          omega
      · exact y
    have k2 : n / c < d := by
      rcases Int.lt_or_le (n / c) d with y | y
      · exact y
      · have : d * d ≤ c * (n / c) := Int.mul_le_mul z y (by omega) (by omega)
        omega
    refine hd (n / c) k1 k2 ?_
    generalize n / c = k at e2
    rw [e2]
    exact Int.mul_emod_left c k
theorem Least.prime {n r : Int} (h : Least n r) (h1 : 1 < n) (h2 : n < 10201) : decide (r = n) = primeB n := by
  by_cases c : r = n
  · rw [decide_eq_true c]
    subst c
    exact (primeB_of h1 fun d d1 _ d3 => h.no d d1 d3).symm
  · rw [decide_eq_false c]
    have e2 : n = r * (n / r) := by have := Int.mul_ediv_add_emod n r; have := h.dv; omega
    have lo := h.lo
    have hi := h.hi
    have k1 : 2 ≤ n / r := by
      rcases Int.lt_or_le (n / r) 2 with y | y
      · rcases Int.lt_or_le (n / r) 1 with x | x
        · have : r * (n / r) ≤ r * 0 := Int.mul_le_mul_of_nonneg_left (by omega) (by omega)
          omega
        · have : n / r = 1 := by omega
          rw [this] at e2
          omega
      · exact y
    have k2 : r ≤ n / r := by
      rcases Int.lt_or_le (n / r) r with y | y
      · refine absurd ?_ (h.no (n / r) k1 y)
        generalize n / r = k at e2
        rw [e2]
        exact Int.mul_emod_left r k
      · exact y
    have : r * r ≤ r * (n / r) := Int.mul_le_mul_of_nonneg_left k2 (by omega)
    exact (has_small lo (by omega) h.dv h2).symm

end Eqr
namespace Eqr
open PySem PySem.Spec L2
/-! ### forms: sorted pairs (cell, number) -/
abbrev Fm := List (Int × Int)
/-- the number at a cell -/
def look : Fm → Int → Int
  | [], _ => 0
  | x :: f, c => if x.1 = c then x.2 else look f c
def Rise (f : Fm) : Prop := f.Pairwise fun x y => x.1 < y.1
structure Fok (p : Int) (f : Fm) : Prop where
  up : Rise f
  ok : ∀ x ∈ f, 0 ≤ x.1 ∧ x.1 ≤ 999 ∧ 1 ≤ x.2 ∧ x.2 ≤ p - 1
theorem look_out {f : Fm} {c : Int} (h : ∀ x ∈ f, x.1 ≠ c) : look f c = 0 := by
  induction f with
  | nil => rfl
  | cons y f ih =>
    show (if y.1 = c then y.2 else look f c) = 0
    rw [if_neg (h y List.mem_cons_self)]
    exact ih fun x hx => h x (List.mem_cons_of_mem _ hx)
theorem Rise.head {x : Int × Int} {f : Fm} (h : Rise (x :: f)) : ∀ y ∈ f, x.1 < y.1 := (List.pairwise_cons.mp h).1
theorem Rise.tail {x : Int × Int} {f : Fm} (h : Rise (x :: f)) : Rise f := (List.pairwise_cons.mp h).2
theorem look_mem {f : Fm} (h : Rise f) {x : Int × Int} (hx : x ∈ f) : look f x.1 = x.2 := by
  induction f with
  | nil => cases hx
  | cons y f ih =>
    show (if y.1 = x.1 then y.2 else look f x.1) = x.2
    rcases List.mem_cons.mp hx with e | hx
    · rw [← e, if_pos rfl]
    · rw [if_neg (by have := h.head x hx; omega)]
      exact ih h.tail hx
theorem look_in {f : Fm} {c : Int} (h : look f c ≠ 0) : (c, look f c) ∈ f := by
  induction f with
  | nil => exact absurd rfl h
  | cons y f ih =>
    have e : look (y :: f) c = if y.1 = c then y.2 else look f c := rfl
    rw [e] at h ⊢
    by_cases z : y.1 = c
    · rw [if_pos z]
      rw [← z]
      exact List.mem_cons_self
    · rw [if_neg z] at h ⊢
      exact List.mem_cons_of_mem _ (ih h)
theorem Fok.nz {p : Int} {f : Fm} (h : Fok p f) {x : Int × Int} (hx : x ∈ f) : look f x.1 ≠ 0 := by
  rw [look_mem h.up hx]
  have := h.ok x hx
  omega
/-- sorted lists with the same members are the same -/
theorem rise_ext : ∀ {f g : Fm}, Rise f → Rise g → (∀ x, x ∈ f ↔ x ∈ g) → f = g
  | [], [], _, _, _ => rfl
  | [], y :: g, _, _, h => by
    have := (h y).mpr List.mem_cons_self
    cases this
  | x :: f, [], _, _, h => by
    have := (h x).mp List.mem_cons_self
    cases this
  | x :: f, y :: g, hf, hg, h => by
    have e : x = y := by
      have h1 := (h x).mp List.mem_cons_self
      have h2 := (h y).mpr List.mem_cons_self
      rcases List.mem_cons.mp h1 with e | h1
      · exact e
      · rcases List.mem_cons.mp h2 with e | h2
        · exact e.symm
        · have a := hg.head x h1
          have b := hf.head y h2
          omega
    subst e
    rw [rise_ext hf.tail hg.tail fun z => ⟨fun hz => ?_, fun hz => ?_⟩]
    · rcases List.mem_cons.mp ((h z).mp (List.mem_cons_of_mem _ hz)) with e | q
      · have := hf.head z hz
        rw [e] at this
        omega
      · exact q
    · rcases List.mem_cons.mp ((h z).mpr (List.mem_cons_of_mem _ hz)) with e | q
      · have := hg.head z hz
        rw [e] at this
        omega
      · exact q
theorem Fok.ext {p : Int} {f g : Fm} (hf : Fok p f) (hg : Fok p g) (h : ∀ c, look f c = look g c) : f = g := by
  refine rise_ext hf.up hg.up fun x => ⟨fun hx => ?_, fun hx => ?_⟩
  · have a := look_mem hf.up hx
    have b := hf.nz hx
    rw [h] at a b
    have := look_in b
    rw [a] at this
    exact this
  · have a := look_mem hg.up hx
    have b := hg.nz hx
    rw [← h] at a b
    have := look_in b
    rw [a] at this
    exact this
/-- what a list of cells and a table give -/
def made (p : Int) (g : Int → Int) (ys : List Int) : Fm := (ys.filter fun c => decide (g c % p ≠ 0)).map fun c => (c, g c % p)
theorem made_app (p : Int) (g : Int → Int) (ys zs : List Int) : made p g (ys ++ zs) = made p g ys ++ made p g zs := by
  unfold made
  rw [List.filter_append, List.map_append]
theorem made_one (p : Int) (g : Int → Int) (c : Int) : made p g [c] = if g c % p ≠ 0 then [(c, g c % p)] else [] := by
  unfold made
  by_cases h : g c % p ≠ 0
  · rw [if_pos h]
    simp [h]
  · rw [if_neg h]
    simp only [ne_eq, Classical.not_not] at h
    simp [h]
theorem made_len (p : Int) (g : Int → Int) (ys : List Int) : (made p g ys).length ≤ ys.length := by
  unfold made
  rw [List.length_map]
  exact List.length_filter_le _ _
theorem made_mem {p : Int} {g : Int → Int} {ys : List Int} {x : Int × Int} : x ∈ made p g ys ↔ x.1 ∈ ys ∧ g x.1 % p ≠ 0 ∧ x.2 = g x.1 % p := by
  unfold made
  rw [List.mem_map]
  constructor
  · rintro ⟨c, hc, rfl⟩
    rw [List.mem_filter] at hc
    exact ⟨hc.1, of_decide_eq_true hc.2, rfl⟩
  · rintro ⟨a, b, c⟩
    refine ⟨x.1, List.mem_filter.mpr ⟨a, decide_eq_true b⟩, ?_⟩
    rw [← c]
theorem made_rise {p : Int} {g : Int → Int} {ys : List Int} (h : ys.Pairwise (· < ·)) : Rise (made p g ys) := by
  unfold made Rise
  rw [List.pairwise_map]
  exact (h.filter _).imp fun {a b} z => z
theorem look_made {p : Int} {g : Int → Int} {ys : List Int} (h : ys.Pairwise (· < ·)) (c : Int) (hc : c ∈ ys ∨ g c % p = 0) : look (made p g ys) c = g c % p := by
  by_cases z : g c % p = 0
  · rw [z, look_out]
    intro x hx e
    have := made_mem.mp hx
    rw [e] at this
    exact this.2.1 z
  · have hm : c ∈ ys := hc.resolve_right z
    exact look_mem (made_rise h) (x := (c, g c % p)) (made_mem.mpr ⟨hm, z, rfl⟩)
theorem made_ok {p : Int} {g : Int → Int} {ys : List Int} (hp : 0 < p) (h : ys.Pairwise (· < ·)) (hy : ∀ c ∈ ys, 0 ≤ c ∧ c ≤ 999) : Fok p (made p g ys) :=
  ⟨made_rise h, fun x hx => by
    have q := made_mem.mp hx
    have a := hy _ q.1
    have n0 := Int.emod_nonneg (g x.1) (show p ≠ 0 by omega)
    have n1 := Int.emod_lt_of_pos (g x.1) hp
    have := q.2.1
    rw [q.2.2]
    omega⟩
theorem strict_of {ys ks : List Int} (h1 : ys.Perm ks) (h2 : ys.Pairwise (· ≤ ·)) (h3 : ks.Nodup) : ys.Pairwise (· < ·) := by
  have n : ys.Nodup := h1.nodup_iff.mpr h3
  have := List.pairwise_and_iff.mpr ⟨h2, n⟩
  exact this.imp fun {a b} z => by
    have := z.1
    have := z.2
    omega
/-! ### dicts of whole numbers -/
/-- keys ks, the numbers by g (0 elsewhere) -/
structure IntD (kvs : List (Key × V)) (ks : List Int) (g : Int → Int) : Prop where
  keys : kvs.map (·.1) = ks.map Sum.inl
  one : ks.Nodup
  val : ∀ k ∈ ks, valV kvs (.inl k) = some (.int (g k))
  no : ∀ k, k ∉ ks → valV kvs (.inl k) = none ∧ g k = 0
theorem IntD.nil : IntD [] [] fun _ => 0 := ⟨rfl, List.nodup_nil, fun k hk => (nomatch hk), fun k _ => ⟨rfl, rfl⟩⟩
theorem IntD.len {kvs : List (Key × V)} {ks : List Int} {g : Int → Int} (h : IntD kvs ks g) : kvs.length = ks.length := by
  have := congrArg List.length h.keys
  simpa using this
theorem putK_keys_in {kvs : List (Key × V)} {ks : List Int} {k : Int} {v : V} (h : kvs.map (·.1) = ks.map Sum.inl) (hk : k ∈ ks) : (putK kvs (.inl k) v).map (·.1) = ks.map Sum.inl := by
  unfold putK
  have a : (kvs.any fun kv => decide (kv.1 = (.inl k : Key))) = true := by
    rw [List.any_eq_true]
    have : (.inl k : Key) ∈ kvs.map (·.1) := by
      rw [h]
      exact List.mem_map.mpr ⟨k, hk, rfl⟩
    obtain ⟨x, hx, e⟩ := List.mem_map.mp this
    exact ⟨x, hx, decide_eq_true e⟩
  rw [if_pos a, List.map_map, ← h]
  refine List.map_congr_left fun x _ => ?_
  show (if x.1 = _ then (x.1, v) else x).1 = x.1
  split <;> rfl
theorem putK_keys_out {kvs : List (Key × V)} {ks : List Int} {k : Int} {v : V} (h : kvs.map (·.1) = ks.map Sum.inl) (hk : k ∉ ks) : (putK kvs (.inl k) v).map (·.1) = (ks ++ [k]).map Sum.inl := by
  unfold putK
  have a : (kvs.any fun kv => decide (kv.1 = (.inl k : Key))) = false := by
    rw [Bool.eq_false_iff]
    intro a
    rw [List.any_eq_true] at a
    obtain ⟨x, hx, e⟩ := a
    have e := of_decide_eq_true e
    have : (.inl k : Key) ∈ kvs.map (·.1) := List.mem_map.mpr ⟨x, hx, e⟩
    rw [h] at this
    obtain ⟨y, hy, e2⟩ := List.mem_map.mp this
    cases e2
    exact hk hy
  rw [if_neg (by rw [a]; decide), List.map_append, h, List.map_append]
  rfl
theorem IntD.put {kvs : List (Key × V)} {ks : List Int} {g : Int → Int} (h : IntD kvs ks g) (k n : Int) :
    ∃ ks', IntD (putK kvs (.inl k) (.int n)) ks' (fun c => if c = k then n else g c) ∧ ks'.length ≤ ks.length + 1 ∧ ∀ c, c ∈ ks' ↔ c ∈ ks ∨ c = k := by
  have hv : ∀ c, valV (putK kvs (.inl k) (.int n)) (.inl c) = if c = k then some (.int n) else valV kvs (.inl c) := fun c => by
    rw [valV_put]
    by_cases e : c = k
    · rw [if_pos (congrArg Sum.inl e), if_pos e]
    · rw [if_neg (fun z => e (Sum.inl.inj z)), if_neg e]
  by_cases hk : k ∈ ks
  · refine ⟨ks, ⟨putK_keys_in h.keys hk, h.one, fun c hc => ?_, fun c hc => ?_⟩, by omega, fun c => ⟨.inl, fun z => z.elim id fun e => by rw [e]; exact hk⟩⟩
    · rw [hv]
      by_cases e : c = k
      · rw [if_pos e, if_pos e]
      · rw [if_neg e, if_neg e]
        exact h.val c hc
    · have e : c ≠ k := fun z => hc (by rw [z]; exact hk)
      rw [hv, if_neg e, if_neg e]
      exact h.no c hc
  · refine ⟨ks ++ [k], ⟨putK_keys_out h.keys hk, ?_, fun c hc => ?_, fun c hc => ?_⟩, by simp, fun c => by simp⟩
    · rw [List.nodup_append]
      refine ⟨h.one, by simp, fun a ha b hb => ?_⟩
      simp only [List.mem_singleton] at hb
      subst hb
      exact fun e => hk (e ▸ ha)
    · rw [hv]
      by_cases e : c = k
      · rw [if_pos e, if_pos e]
      · rw [if_neg e, if_neg e]
        refine h.val c ?_
        rcases List.mem_append.mp hc with z | z
        · exact z
        · exact absurd (List.mem_singleton.mp z) e
    · have e : c ≠ k := fun z => hc (by rw [z]; simp)
      have n : c ∉ ks := fun z => hc (List.mem_append_left _ z)
      rw [hv, if_neg e, if_neg e]
      exact h.no c n
/-- the pairs of a form, as a dict takes them -/
def prs (f : Fm) : List (Key × V) := f.map fun x => (.inl x.1, .int x.2)
theorem IntD.merge {kvs : List (Key × V)} {ks : List Int} {g : Int → Int} (h : IntD kvs ks g) : ∀ (f : Fm), Rise f →
    ∃ ks', IntD (mergeK kvs (prs f)) ks' (fun c => if c ∈ f.map (·.1) then look f c else g c) ∧ ks'.length ≤ ks.length + f.length ∧ ∀ c, c ∈ ks' ↔ c ∈ ks ∨ c ∈ f.map (·.1) := by
  intro f
  induction f generalizing kvs ks g with
  | nil => exact fun _ => ⟨ks, by simpa [mergeK, prs] using h, by simp, by simp⟩
  | cons x f ih =>
    intro hr
    obtain ⟨ks1, h1, l1, m1⟩ := h.put x.1 x.2
    obtain ⟨ks2, h2, l2, m2⟩ := ih h1 hr.tail
    refine ⟨ks2, ?_, by simp; omega, fun c => ?_⟩
    · have e : mergeK kvs (prs (x :: f)) = mergeK (putK kvs (.inl x.1) (.int x.2)) (prs f) := rfl
      rw [e]
      have e2 : (fun c => if c ∈ (x :: f).map (·.1) then look (x :: f) c else g c) = fun c => if c ∈ f.map (·.1) then look f c else if c = x.1 then x.2 else g c := by
        funext c
        have e3 : look (x :: f) c = if x.1 = c then x.2 else look f c := rfl
        rw [e3]
        by_cases a : c ∈ f.map (·.1)
        · have b : x.1 ≠ c := fun z => by
            obtain ⟨y, hy, e⟩ := List.mem_map.mp a
            have := hr.head y hy
            omega
          rw [if_pos a, if_neg b, if_pos (by simp [a])]
        · rw [if_neg a]
          by_cases b : c = x.1
          · rw [if_pos b, if_pos b.symm, if_pos (by simp [b])]
          · rw [if_neg b, if_neg (by simp only [List.map_cons, List.mem_cons]; exact fun z => z.elim b a)]
      rw [e2]
      exact h2
    · rw [m2, m1]
      simp only [List.map_cons, List.mem_cons]
      constructor
      · rintro ((a | a) | a)
        · exact .inl a
        · exact .inr (.inl a)
        · exact .inr (.inr a)
      · rintro (a | a | a)
        · exact .inl (.inl a)
        · exact .inl (.inr a)
        · exact .inr a
theorem dict_of {f : Fm} (h : Rise f) : ∃ ks, IntD (mergeK [] (prs f)) ks (look f) ∧ ks.length ≤ f.length ∧ ∀ c, c ∈ ks ↔ c ∈ f.map (·.1) := by
  obtain ⟨ks, a, b, c⟩ := IntD.nil.merge f h
  refine ⟨ks, ?_, by simpa using b, fun x => by simpa using c x⟩
  have e : (fun c => if c ∈ f.map (·.1) then look f c else 0) = look f := by
    funext c
    by_cases z : c ∈ f.map (·.1)
    · rw [if_pos z]
    · rw [if_neg z, look_out]
      exact fun x hx e => z (List.mem_map.mpr ⟨x, hx, e⟩)
  rw [e] at a
  exact a
/-! ### values -/
def sumN (n : Nat) (g : Int → Int) : Int := ((List.range n).map fun (i : Nat) => g (i : Int)).sum
theorem sumN_succ (n : Nat) (g : Int → Int) : sumN (n + 1) g = sumN n g + g (n : Int) := by
  unfold sumN
  rw [List.range_succ, List.map_append, List.sum_append]
  simp
theorem sumN_add (n : Nat) (g h : Int → Int) : sumN n (fun c => g c + h c) = sumN n g + sumN n h := by
  induction n with
  | zero => rfl
  | succ n ih => rw [sumN_succ, sumN_succ, sumN_succ, ih]; omega
theorem sumN_zero (n : Nat) : sumN n (fun _ => 0) = 0 := by
  induction n with
  | zero => rfl
  | succ n ih => rw [sumN_succ, ih]; rfl
theorem sumN_mul (n : Nat) (k : Int) (g : Int → Int) : sumN n (fun c => k * g c) = k * sumN n g := by
  induction n with
  | zero => simp [sumN]
  | succ n ih => rw [sumN_succ, sumN_succ, ih, Int.mul_add]
theorem sumN_congr {n : Nat} {g h : Int → Int} (e : ∀ c : Int, 0 ≤ c → c < n → g c = h c) : sumN n g = sumN n h := by
  induction n with
  | zero => rfl
  | succ n ih => rw [sumN_succ, sumN_succ, ih fun c a b => e c a (by omega), e n (by omega) (by omega)]
theorem sumN_one {n : Nat} {k : Int} (k0 : 0 ≤ k) (k1 : k < n) (v : Int) : sumN n (fun c => if c = k then v else 0) = v := by
  induction n with
  | zero => omega
  | succ n ih =>
    rw [sumN_succ]
    by_cases z : (n : Int) = k
    · rw [if_pos z, sumN_congr (h := fun _ => 0) (fun c a b => if_neg (by omega)), sumN_zero]
      omega
    · rw [if_neg z, ih (by omega)]
      omega
theorem sumN_cg {p : Int} {n : Nat} {g h : Int → Int} (e : ∀ c, Cg p (g c) (h c)) : Cg p (sumN n g) (sumN n h) := by
  induction n with
  | zero => exact Cg.refl _ _
  | succ n ih =>
    rw [sumN_succ, sumN_succ]
    exact ih.add (e _)
/-- the value of a form at a row -/
def valF (f : Fm) (row : Int → Int) : Int := (f.map fun x => x.2 * row x.1).sum
theorem valF_sum {f : Fm} (h : Rise f) {n : Nat} (hn : ∀ x ∈ f, 0 ≤ x.1 ∧ x.1 < n) (row : Int → Int) : valF f row = sumN n fun c => look f c * row c := by
  induction f with
  | nil =>
    show (0 : Int) = _
    have e : sumN n (fun c => look [] c * row c) = 0 := (sumN_congr (h := fun _ => 0) fun c _ _ => Int.zero_mul _).trans (sumN_zero n)
    rw [e]
  | cons x f ih =>
    have e : valF (x :: f) row = x.2 * row x.1 + valF f row := by unfold valF; simp
    have hx := hn x List.mem_cons_self
    rw [e, ih h.tail fun y hy => hn y (List.mem_cons_of_mem _ hy), ← sumN_one (n := n) hx.1 hx.2 (x.2 * row x.1), ← sumN_add]
    refine sumN_congr fun c _ _ => ?_
    have e3 : look (x :: f) c = if x.1 = c then x.2 else look f c := rfl
    rw [e3]
    by_cases z : c = x.1
    · subst z
      rw [if_pos rfl, if_pos rfl, look_out (f := f) (fun y hy => by have := h.head y hy; omega)]
      omega
    · rw [if_neg z, if_neg (Ne.symm z)]
      omega
/-- a form that is the sum, by its numbers -/
theorem valF_lin {p : Int} {r f g : Fm} {k : Int} (hr : Rise r) (hf : Rise f) (hg : Rise g) {n : Nat} (nr : ∀ x ∈ r, 0 ≤ x.1 ∧ x.1 < n) (nf : ∀ x ∈ f, 0 ≤ x.1 ∧ x.1 < n) (ng : ∀ x ∈ g, 0 ≤ x.1 ∧ x.1 < n)
    (e : ∀ c, Cg p (look r c) (look f c + k * look g c)) (row : Int → Int) : Cg p (valF r row) (valF f row + k * valF g row) := by
  rw [valF_sum hr nr, valF_sum hf nf, valF_sum hg ng, ← sumN_mul, ← sumN_add]
  refine sumN_cg fun c => ?_
  have e2 : look f c * row c + k * (look g c * row c) = (look f c + k * look g c) * row c := by
    rw [Int.add_mul, Int.mul_assoc]
  rw [e2]
  exact (e c).mul (Cg.refl p (row c))

end Eqr
namespace Eqr
open PySem PySem.Spec L2
def top (i : Nat) : Stmt := PySem.Challenge.pw_equalruns_k21_whole_forms_reckoned.main.body.getD i (.Pass ⟨0, 0, 0, 0⟩)
abbrev s_is_integer : Stmt := top 12
theorem sc_is_integer : FnScope ["value"] ["value"] (defScope s_is_integer) := ⟨rfl, rfl, rfl, by decide +kernel, rfl, by decide +kernel, by decide +kernel⟩
theorem bd_is_integer : Ow.Bind "is_integer" s_is_integer ["value"] := fun _ _ _ _ _ _ us hl => match us, hl with | [_], _ => rfl
abbrev s_is_within : Stmt := top 13
theorem sc_is_within : FnScope ["value", "least", "most"] ["value", "least", "most"] (defScope s_is_within) := ⟨rfl, rfl, rfl, by decide +kernel, rfl, by decide +kernel, by decide +kernel⟩
theorem bd_is_within : Ow.Bind "is_within" s_is_within ["value", "least", "most"] := fun _ _ _ _ _ _ us hl => match us, hl with | [_, _, _], _ => rfl
abbrev s_is_list : Stmt := top 14
theorem sc_is_list : FnScope ["value"] ["value"] (defScope s_is_list) := ⟨rfl, rfl, rfl, by decide +kernel, rfl, by decide +kernel, by decide +kernel⟩
theorem bd_is_list : Ow.Bind "is_list" s_is_list ["value"] := fun _ _ _ _ _ _ us hl => match us, hl with | [_], _ => rfl
abbrev s_least_divisor : Stmt := top 15
theorem sc_least_divisor : FnScope ["count", "found"] ["count"] (defScope s_least_divisor) := ⟨rfl, rfl, rfl, by decide +kernel, rfl, by decide +kernel, by decide +kernel⟩
theorem bd_least_divisor : Ow.Bind "least_divisor" s_least_divisor ["count"] := fun _ _ _ _ _ _ us hl => match us, hl with | [_], _ => rfl
abbrev s_is_prime_of : Stmt := top 16
theorem sc_is_prime_of : FnScope ["value"] ["value"] (defScope s_is_prime_of) := ⟨rfl, rfl, rfl, by decide +kernel, rfl, by decide +kernel, by decide +kernel⟩
theorem bd_is_prime_of : Ow.Bind "is_prime_of" s_is_prime_of ["value"] := fun _ _ _ _ _ _ us hl => match us, hl with | [_], _ => rfl
abbrev s_check_prime : Stmt := top 17
theorem sc_check_prime : FnScope ["value"] ["value"] (defScope s_check_prime) := ⟨rfl, rfl, rfl, by decide +kernel, rfl, by decide +kernel, by decide +kernel⟩
theorem bd_check_prime : Ow.Bind "check_prime" s_check_prime ["value"] := fun _ _ _ _ _ _ us hl => match us, hl with | [_], _ => rfl
abbrev s_is_number_of : Stmt := top 18
theorem sc_is_number_of : FnScope ["prime", "value"] ["prime", "value"] (defScope s_is_number_of) := ⟨rfl, rfl, rfl, by decide +kernel, rfl, by decide +kernel, by decide +kernel⟩
theorem bd_is_number_of : Ow.Bind "is_number_of" s_is_number_of ["prime", "value"] := fun _ _ _ _ _ _ us hl => match us, hl with | [_, _], _ => rfl
abbrev s_check_number : Stmt := top 19
theorem sc_check_number : FnScope ["prime", "value"] ["prime", "value"] (defScope s_check_number) := ⟨rfl, rfl, rfl, by decide +kernel, rfl, by decide +kernel, by decide +kernel⟩
theorem bd_check_number : Ow.Bind "check_number" s_check_number ["prime", "value"] := fun _ _ _ _ _ _ us hl => match us, hl with | [_, _], _ => rfl
abbrev s_are_numbers : Stmt := top 20
theorem sc_are_numbers : FnScope ["prime", "value", "one"] ["prime", "value"] (defScope s_are_numbers) := ⟨rfl, rfl, rfl, by decide +kernel, rfl, by decide +kernel, by decide +kernel⟩
theorem bd_are_numbers : Ow.Bind "are_numbers" s_are_numbers ["prime", "value"] := fun _ _ _ _ _ _ us hl => match us, hl with | [_, _], _ => rfl
abbrev s_is_part : Stmt := top 25
theorem sc_is_part : FnScope ["prime", "value"] ["prime", "value"] (defScope s_is_part) := ⟨rfl, rfl, rfl, by decide +kernel, rfl, by decide +kernel, by decide +kernel⟩
theorem bd_is_part : Ow.Bind "is_part" s_is_part ["prime", "value"] := fun _ _ _ _ _ _ us hl => match us, hl with | [_, _], _ => rfl
abbrev s_is_form_of : Stmt := top 26
theorem sc_is_form_of : FnScope ["prime", "value", "one", "late"] ["prime", "value"] (defScope s_is_form_of) := ⟨rfl, rfl, rfl, by decide +kernel, rfl, by decide +kernel, by decide +kernel⟩
theorem bd_is_form_of : Ow.Bind "is_form_of" s_is_form_of ["prime", "value"] := fun _ _ _ _ _ _ us hl => match us, hl with | [_, _], _ => rfl
abbrev s_check_form : Stmt := top 27
theorem sc_check_form : FnScope ["prime", "value"] ["prime", "value"] (defScope s_check_form) := ⟨rfl, rfl, rfl, by decide +kernel, rfl, by decide +kernel, by decide +kernel⟩
theorem bd_check_form : Ow.Bind "check_form" s_check_form ["prime", "value"] := fun _ _ _ _ _ _ us hl => match us, hl with | [_, _], _ => rfl
abbrev s_check_forms : Stmt := top 28
theorem sc_check_forms : FnScope ["prime", "value", "one"] ["prime", "value"] (defScope s_check_forms) := ⟨rfl, rfl, rfl, by decide +kernel, rfl, by decide +kernel, by decide +kernel⟩
theorem bd_check_forms : Ow.Bind "check_forms" s_check_forms ["prime", "value"] := fun _ _ _ _ _ _ us hl => match us, hl with | [_, _], _ => rfl
abbrev s_are_row : Stmt := top 29
theorem sc_are_row : FnScope ["prime", "value"] ["prime", "value"] (defScope s_are_row) := ⟨rfl, rfl, rfl, by decide +kernel, rfl, by decide +kernel, by decide +kernel⟩
theorem bd_are_row : Ow.Bind "are_row" s_are_row ["prime", "value"] := fun _ _ _ _ _ _ us hl => match us, hl with | [_, _], _ => rfl
abbrev s_check_two : Stmt := top 30
theorem sc_check_two : FnScope ["prime", "form", "against"] ["prime", "form", "against"] (defScope s_check_two) := ⟨rfl, rfl, rfl, by decide +kernel, rfl, by decide +kernel, by decide +kernel⟩
theorem bd_check_two : Ow.Bind "check_two" s_check_two ["prime", "form", "against"] := fun _ _ _ _ _ _ us hl => match us, hl with | [_, _, _], _ => rfl
abbrev s_of_dict : Stmt := top 31
theorem sc_of_dict : FnScope ["prime", "some", "cell"] ["prime", "some"] (defScope s_of_dict) := ⟨rfl, rfl, rfl, by decide +kernel, rfl, by decide +kernel, by decide +kernel⟩
theorem bd_of_dict : Ow.Bind "of_dict" s_of_dict ["prime", "some"] := fun _ _ _ _ _ _ us hl => match us, hl with | [_, _], _ => rfl
abbrev s_sum_with : Stmt := top 32
theorem sc_sum_with : FnScope ["prime", "form", "other", "number", "some", "cell", "one"] ["prime", "form", "other", "number"] (defScope s_sum_with) := ⟨rfl, rfl, rfl, by decide +kernel, rfl, by decide +kernel, by decide +kernel⟩
theorem bd_sum_with : Ow.Bind "sum_with" s_sum_with ["prime", "form", "other", "number"] := fun _ _ _ _ _ _ us hl => match us, hl with | [_, _, _, _], _ => rfl
abbrev s_so_many : Stmt := top 33
theorem sc_so_many : FnScope ["prime", "form", "number", "cell", "one"] ["prime", "form", "number"] (defScope s_so_many) := ⟨rfl, rfl, rfl, by decide +kernel, rfl, by decide +kernel, by decide +kernel⟩
theorem bd_so_many : Ow.Bind "so_many" s_so_many ["prime", "form", "number"] := fun _ _ _ _ _ _ us hl => match us, hl with | [_, _, _], _ => rfl
abbrev s_number_at : Stmt := top 34
theorem sc_number_at : FnScope ["form", "cell"] ["form", "cell"] (defScope s_number_at) := ⟨rfl, rfl, rfl, by decide +kernel, rfl, by decide +kernel, by decide +kernel⟩
theorem bd_number_at : Ow.Bind "number_at" s_number_at ["form", "cell"] := fun _ _ _ _ _ _ us hl => match us, hl with | [_, _], _ => rfl
abbrev s_value_of_form : Stmt := top 35
theorem sc_value_of_form : FnScope ["prime", "form", "row", "cell", "one"] ["prime", "form", "row"] (defScope s_value_of_form) := ⟨rfl, rfl, rfl, by decide +kernel, rfl, by decide +kernel, by decide +kernel⟩
theorem bd_value_of_form : Ow.Bind "value_of_form" s_value_of_form ["prime", "form", "row"] := fun _ _ _ _ _ _ us hl => match us, hl with | [_, _, _], _ => rfl
abbrev s_lead_by : Stmt := top 36
theorem sc_lead_by : FnScope ["form"] ["form"] (defScope s_lead_by) := ⟨rfl, rfl, rfl, by decide +kernel, rfl, by decide +kernel, by decide +kernel⟩
theorem bd_lead_by : Ow.Bind "lead_by" s_lead_by ["form"] := fun _ _ _ _ _ _ us hl => match us, hl with | [_], _ => rfl
abbrev s_put_by : Stmt := top 37
theorem sc_put_by : FnScope ["prime", "form", "cell", "other", "bare", "one"] ["prime", "form", "cell", "other"] (defScope s_put_by) := ⟨rfl, rfl, rfl, by decide +kernel, rfl, by decide +kernel, by decide +kernel⟩
theorem bd_put_by : Ow.Bind "put_by" s_put_by ["prime", "form", "cell", "other"] := fun _ _ _ _ _ _ us hl => match us, hl with | [_, _, _, _], _ => rfl
abbrev s_weighed_by : Stmt := top 38
theorem sc_weighed_by : FnScope ["prime", "forms", "weights", "found", "form", "number"] ["prime", "forms", "weights"] (defScope s_weighed_by) := ⟨rfl, rfl, rfl, by decide +kernel, rfl, by decide +kernel, by decide +kernel⟩
theorem bd_weighed_by : Ow.Bind "weighed_by" s_weighed_by ["prime", "forms", "weights"] := fun _ _ _ _ _ _ us hl => match us, hl with | [_, _, _], _ => rfl
abbrev s_is_form : Stmt := top 39
theorem sc_is_form : FnScope ["prime", "value"] ["prime", "value"] (defScope s_is_form) := ⟨rfl, rfl, rfl, by decide +kernel, rfl, by decide +kernel, by decide +kernel⟩
theorem bd_is_form : Ow.Bind "is_form" s_is_form ["prime", "value"] := fun _ _ _ _ _ _ us hl => match us, hl with | [_, _], _ => rfl
abbrev s_form_plus : Stmt := top 40
theorem sc_form_plus : FnScope ["prime", "form", "against"] ["prime", "form", "against"] (defScope s_form_plus) := ⟨rfl, rfl, rfl, by decide +kernel, rfl, by decide +kernel, by decide +kernel⟩
theorem bd_form_plus : Ow.Bind "form_plus" s_form_plus ["prime", "form", "against"] := fun _ _ _ _ _ _ us hl => match us, hl with | [_, _, _], _ => rfl
abbrev s_form_less : Stmt := top 41
theorem sc_form_less : FnScope ["prime", "form", "against"] ["prime", "form", "against"] (defScope s_form_less) := ⟨rfl, rfl, rfl, by decide +kernel, rfl, by decide +kernel, by decide +kernel⟩
theorem bd_form_less : Ow.Bind "form_less" s_form_less ["prime", "form", "against"] := fun _ _ _ _ _ _ us hl => match us, hl with | [_, _, _], _ => rfl
abbrev s_form_times : Stmt := top 42
theorem sc_form_times : FnScope ["prime", "form", "number"] ["prime", "form", "number"] (defScope s_form_times) := ⟨rfl, rfl, rfl, by decide +kernel, rfl, by decide +kernel, by decide +kernel⟩
theorem bd_form_times : Ow.Bind "form_times" s_form_times ["prime", "form", "number"] := fun _ _ _ _ _ _ us hl => match us, hl with | [_, _, _], _ => rfl
abbrev s_form_put : Stmt := top 43
theorem sc_form_put : FnScope ["prime", "form", "cell", "against"] ["prime", "form", "cell", "against"] (defScope s_form_put) := ⟨rfl, rfl, rfl, by decide +kernel, rfl, by decide +kernel, by decide +kernel⟩
theorem bd_form_put : Ow.Bind "form_put" s_form_put ["prime", "form", "cell", "against"] := fun _ _ _ _ _ _ us hl => match us, hl with | [_, _, _, _], _ => rfl
abbrev s_form_value : Stmt := top 44
theorem sc_form_value : FnScope ["prime", "form", "row"] ["prime", "form", "row"] (defScope s_form_value) := ⟨rfl, rfl, rfl, by decide +kernel, rfl, by decide +kernel, by decide +kernel⟩
theorem bd_form_value : Ow.Bind "form_value" s_form_value ["prime", "form", "row"] := fun _ _ _ _ _ _ us hl => match us, hl with | [_, _, _], _ => rfl
abbrev s_lead_of : Stmt := top 45
theorem sc_lead_of : FnScope ["prime", "form"] ["prime", "form"] (defScope s_lead_of) := ⟨rfl, rfl, rfl, by decide +kernel, rfl, by decide +kernel, by decide +kernel⟩
theorem bd_lead_of : Ow.Bind "lead_of" s_lead_of ["prime", "form"] := fun _ _ _ _ _ _ us hl => match us, hl with | [_, _], _ => rfl
abbrev s_is_constant : Stmt := top 46
theorem sc_is_constant : FnScope ["prime", "form"] ["prime", "form"] (defScope s_is_constant) := ⟨rfl, rfl, rfl, by decide +kernel, rfl, by decide +kernel, by decide +kernel⟩
theorem bd_is_constant : Ow.Bind "is_constant" s_is_constant ["prime", "form"] := fun _ _ _ _ _ _ us hl => match us, hl with | [_, _], _ => rfl
abbrev s_weighed : Stmt := top 47
theorem sc_weighed : FnScope ["prime", "forms", "weights"] ["prime", "forms", "weights"] (defScope s_weighed) := ⟨rfl, rfl, rfl, by decide +kernel, rfl, by decide +kernel, by decide +kernel⟩
theorem bd_weighed : Ow.Bind "weighed" s_weighed ["prime", "forms", "weights"] := fun _ _ _ _ _ _ us hl => match us, hl with | [_, _, _], _ => rfl
abbrev s_check_pair : Stmt := top 49
theorem sc_check_pair : FnScope ["prime", "one", "other"] ["prime", "one", "other"] (defScope s_check_pair) := ⟨rfl, rfl, rfl, by decide +kernel, rfl, by decide +kernel, by decide +kernel⟩
theorem bd_check_pair : Ow.Bind "check_pair" s_check_pair ["prime", "one", "other"] := fun _ _ _ _ _ _ us hl => match us, hl with | [_, _, _], _ => rfl
abbrev s_plus : Stmt := top 50
theorem sc_plus : FnScope ["prime", "one", "other"] ["prime", "one", "other"] (defScope s_plus) := ⟨rfl, rfl, rfl, by decide +kernel, rfl, by decide +kernel, by decide +kernel⟩
theorem bd_plus : Ow.Bind "plus" s_plus ["prime", "one", "other"] := fun _ _ _ _ _ _ us hl => match us, hl with | [_, _, _], _ => rfl
abbrev s_minus : Stmt := top 51
theorem sc_minus : FnScope ["prime", "one", "other"] ["prime", "one", "other"] (defScope s_minus) := ⟨rfl, rfl, rfl, by decide +kernel, rfl, by decide +kernel, by decide +kernel⟩
theorem bd_minus : Ow.Bind "minus" s_minus ["prime", "one", "other"] := fun _ _ _ _ _ _ us hl => match us, hl with | [_, _, _], _ => rfl
abbrev s_times : Stmt := top 52
theorem sc_times : FnScope ["prime", "one", "other"] ["prime", "one", "other"] (defScope s_times) := ⟨rfl, rfl, rfl, by decide +kernel, rfl, by decide +kernel, by decide +kernel⟩
theorem bd_times : Ow.Bind "times" s_times ["prime", "one", "other"] := fun _ _ _ _ _ _ us hl => match us, hl with | [_, _, _], _ => rfl
abbrev s_law_pot : Stmt := top 54
theorem sc_law_pot : FnScope ["script", "k", "cell"] ["script", "k"] (defScope s_law_pot) := ⟨rfl, rfl, rfl, by decide +kernel, rfl, by decide +kernel, by decide +kernel⟩
theorem bd_law_pot : Ow.Bind "_law_pot" s_law_pot ["script", "k"] := fun _ _ _ _ _ _ us hl => match us, hl with | [_, _], _ => rfl
abbrev s_law_draw : Stmt := top 55
theorem sc_law_draw : FnScope ["pot", "many", "digit"] ["pot", "many"] (defScope s_law_draw) := ⟨rfl, rfl, rfl, by decide +kernel, rfl, by decide +kernel, by decide +kernel⟩
theorem bd_law_draw : Ow.Bind "_law_draw" s_law_draw ["pot", "many"] := fun _ _ _ _ _ _ us hl => match us, hl with | [_, _], _ => rfl
abbrev s_law_pick : Stmt := top 56
theorem sc_law_pick : FnScope ["pot", "some"] ["pot", "some"] (defScope s_law_pick) := ⟨rfl, rfl, rfl, by decide +kernel, rfl, by decide +kernel, by decide +kernel⟩
theorem bd_law_pick : Ow.Bind "_law_pick" s_law_pick ["pot", "some"] := fun _ _ _ _ _ _ us hl => match us, hl with | [_, _], _ => rfl
abbrev s_law_form : Stmt := top 57
theorem sc_law_form : FnScope ["prime", "table", "cell"] ["prime", "table"] (defScope s_law_form) := ⟨rfl, rfl, rfl, by decide +kernel, rfl, by decide +kernel, by decide +kernel⟩
theorem bd_law_form : Ow.Bind "_law_form" s_law_form ["prime", "table"] := fun _ _ _ _ _ _ us hl => match us, hl with | [_, _], _ => rfl
abbrev s_law_weighed : Stmt := top 58
theorem sc_law_weighed : FnScope ["prime", "forms", "weights", "table", "form", "weight", "cell", "number"] ["prime", "forms", "weights"] (defScope s_law_weighed) := ⟨rfl, rfl, rfl, by decide +kernel, rfl, by decide +kernel, by decide +kernel⟩
theorem bd_law_weighed : Ow.Bind "_law_weighed" s_law_weighed ["prime", "forms", "weights"] := fun _ _ _ _ _ _ us hl => match us, hl with | [_, _, _], _ => rfl
abbrev s_law_value : Stmt := top 59
theorem sc_law_value : FnScope ["prime", "form", "row", "cell", "number"] ["prime", "form", "row"] (defScope s_law_value) := ⟨rfl, rfl, rfl, by decide +kernel, rfl, by decide +kernel, by decide +kernel⟩
theorem bd_law_value : Ow.Bind "_law_value" s_law_value ["prime", "form", "row"] := fun _ _ _ _ _ _ us hl => match us, hl with | [_, _, _], _ => rfl
abbrev s_law_drawn_form : Stmt := top 60
theorem sc_law_drawn_form : FnScope ["pot", "prime", "cells", "most", "table", "turn"] ["pot", "prime", "cells", "most"] (defScope s_law_drawn_form) := ⟨rfl, rfl, rfl, by decide +kernel, rfl, by decide +kernel, by decide +kernel⟩
theorem bd_law_drawn_form : Ow.Bind "_law_drawn_form" s_law_drawn_form ["pot", "prime", "cells", "most"] := fun _ _ _ _ _ _ us hl => match us, hl with | [_, _, _, _], _ => rfl
abbrev s_law_right : Stmt := top 61
theorem sc_law_right : FnScope ["pot", "prime", "form", "other", "number", "shown", "dues", "one", "row", "turn", "near", "far", "cell", "late", "due", "lead", "forms", "weights", "total", "weight"] ["pot"] (defScope s_law_right) := ⟨rfl, rfl, rfl, by decide +kernel, rfl, by decide +kernel, by decide +kernel⟩
theorem bd_law_right : Ow.Bind "_law_right" s_law_right ["pot"] := fun _ _ _ _ _ _ us hl => match us, hl with | [_], _ => rfl
abbrev s_law : Stmt := top 62
theorem sc_law : FnScope ["script", "k"] ["script"] (defScope s_law) := ⟨rfl, rfl, rfl, by decide +kernel, rfl, by decide +kernel, by decide +kernel⟩
theorem bd_law : Ow.Bind "law" s_law ["script"] := fun _ _ _ _ _ _ us hl => match us, hl with | [_], _ => rfl
theorem w_form_times_0_number_form_prime : Ow.Way "form_times" s_form_times ["prime", "form", "number"] 0 ["number", "form", "prime"] [2, 1, 0] := fun _ _ _ _ _ _ us ws h1 h2 => match us, ws, h1, h2 with | [], [_, _, _], _, _ => rfl
theorem w_form_less_0_against_form_prime : Ow.Way "form_less" s_form_less ["prime", "form", "against"] 0 ["against", "form", "prime"] [2, 1, 0] := fun _ _ _ _ _ _ us ws h1 h2 => match us, ws, h1, h2 with | [], [_, _, _], _, _ => rfl
theorem w_form_plus_0_against_form_prime : Ow.Way "form_plus" s_form_plus ["prime", "form", "against"] 0 ["against", "form", "prime"] [2, 1, 0] := fun _ _ _ _ _ _ us ws h1 h2 => match us, ws, h1, h2 with | [], [_, _, _], _, _ => rfl
theorem w_form_value_0_row_form_prime : Ow.Way "form_value" s_form_value ["prime", "form", "row"] 0 ["row", "form", "prime"] [2, 1, 0] := fun _ _ _ _ _ _ us ws h1 h2 => match us, ws, h1, h2 with | [], [_, _, _], _, _ => rfl
theorem w_form_put_0_against_cell_form_prime : Ow.Way "form_put" s_form_put ["prime", "form", "cell", "against"] 0 ["against", "cell", "form", "prime"] [3, 2, 1, 0] := fun _ _ _ _ _ _ us ws h1 h2 => match us, ws, h1, h2 with | [], [_, _, _, _], _, _ => rfl
theorem w_is_constant_0_form_prime : Ow.Way "is_constant" s_is_constant ["prime", "form"] 0 ["form", "prime"] [1, 0] := fun _ _ _ _ _ _ us ws h1 h2 => match us, ws, h1, h2 with | [], [_, _], _, _ => rfl
theorem w_lead_of_0_form_prime : Ow.Way "lead_of" s_lead_of ["prime", "form"] 0 ["form", "prime"] [1, 0] := fun _ _ _ _ _ _ us ws h1 h2 => match us, ws, h1, h2 with | [], [_, _], _, _ => rfl
theorem w_weighed_0_weights_forms_prime : Ow.Way "weighed" s_weighed ["prime", "forms", "weights"] 0 ["weights", "forms", "prime"] [2, 1, 0] := fun _ _ _ _ _ _ us ws h1 h2 => match us, ws, h1, h2 with | [], [_, _, _], _, _ => rfl
/-- what the top has written -/
structure Tx (K : PySem.W.Frag) (mg : Str → Option Value) : Prop where
  b_abs : mg "abs" = none
  b_all : mg "all" = none
  b_bool : mg "bool" = none
  b_dict : mg "dict" = none
  b_divmod : mg "divmod" = none
  b_int : mg "int" = none
  b_isinstance : mg "isinstance" = none
  b_len : mg "len" = none
  b_list : mg "list" = none
  b_max : mg "max" = none
  b_min : mg "min" = none
  b_range : mg "range" = none
  b_repr : mg "repr" = none
  b_sorted : mg "sorted" = none
  b_sum : mg "sum" = none
  b_tuple : mg "tuple" = none
  b_zip : mg "zip" = none
  c_LEAST_PRIME : ∃ t, mg "LEAST_PRIME" = some (.int 3 t)
  c_MOST_CELL : ∃ t, mg "MOST_CELL" = some (.int 999 t)
  c_MOST_FORMS : ∃ t, mg "MOST_FORMS" = some (.int 60 t)
  c_MOST_PRIME : ∃ t, mg "MOST_PRIME" = some (.int 9973 t)
  c_MOST_ROW : ∃ t, mg "MOST_ROW" = some (.int 1000 t)
  f_is_integer : Ow.Stands K mg "is_integer" s_is_integer
  f_is_within : Ow.Stands K mg "is_within" s_is_within
  f_is_list : Ow.Stands K mg "is_list" s_is_list
  f_least_divisor : Ow.Stands K mg "least_divisor" s_least_divisor
  f_is_prime_of : Ow.Stands K mg "is_prime_of" s_is_prime_of
  f_check_prime : Ow.Stands K mg "check_prime" s_check_prime
  f_is_number_of : Ow.Stands K mg "is_number_of" s_is_number_of
  f_check_number : Ow.Stands K mg "check_number" s_check_number
  f_are_numbers : Ow.Stands K mg "are_numbers" s_are_numbers
  f_is_part : Ow.Stands K mg "is_part" s_is_part
  f_is_form_of : Ow.Stands K mg "is_form_of" s_is_form_of
  f_check_form : Ow.Stands K mg "check_form" s_check_form
  f_check_forms : Ow.Stands K mg "check_forms" s_check_forms
  f_are_row : Ow.Stands K mg "are_row" s_are_row
  f_check_two : Ow.Stands K mg "check_two" s_check_two
  f_of_dict : Ow.Stands K mg "of_dict" s_of_dict
  f_sum_with : Ow.Stands K mg "sum_with" s_sum_with
  f_so_many : Ow.Stands K mg "so_many" s_so_many
  f_number_at : Ow.Stands K mg "number_at" s_number_at
  f_value_of_form : Ow.Stands K mg "value_of_form" s_value_of_form
  f_lead_by : Ow.Stands K mg "lead_by" s_lead_by
  f_put_by : Ow.Stands K mg "put_by" s_put_by
  f_weighed_by : Ow.Stands K mg "weighed_by" s_weighed_by
  f_is_form : Ow.Stands K mg "is_form" s_is_form
  f_form_plus : Ow.Stands K mg "form_plus" s_form_plus
  f_form_less : Ow.Stands K mg "form_less" s_form_less
  f_form_times : Ow.Stands K mg "form_times" s_form_times
  f_form_put : Ow.Stands K mg "form_put" s_form_put
  f_form_value : Ow.Stands K mg "form_value" s_form_value
  f_lead_of : Ow.Stands K mg "lead_of" s_lead_of
  f_is_constant : Ow.Stands K mg "is_constant" s_is_constant
  f_weighed : Ow.Stands K mg "weighed" s_weighed
  f_check_pair : Ow.Stands K mg "check_pair" s_check_pair
  f_plus : Ow.Stands K mg "plus" s_plus
  f_minus : Ow.Stands K mg "minus" s_minus
  f_times : Ow.Stands K mg "times" s_times
  f_law_pot : Ow.Stands K mg "_law_pot" s_law_pot
  f_law_draw : Ow.Stands K mg "_law_draw" s_law_draw
  f_law_pick : Ow.Stands K mg "_law_pick" s_law_pick
  f_law_form : Ow.Stands K mg "_law_form" s_law_form
  f_law_weighed : Ow.Stands K mg "_law_weighed" s_law_weighed
  f_law_value : Ow.Stands K mg "_law_value" s_law_value
  f_law_drawn_form : Ow.Stands K mg "_law_drawn_form" s_law_drawn_form
  f_law_right : Ow.Stands K mg "_law_right" s_law_right
  f_law : Ow.Stands K mg "law" s_law
end Eqr
namespace Eqr
open PySem PySem.Spec L2
/-! ### basics, over data -/
theorem same_new {H : Hp} {p : Addr} {o : HO} (h : H p = none) : Same H (upd H p o) := fun b u e => by
  rw [upd_ne (ne_of_none e h)]
  exact e
theorem fresh_of {H X : Hp} {p : Addr} {o : HO} (h : H p = none) (e : upd H p o = X) : Same H X ∧ X p = some o := by
  subst e
  exact ⟨same_new h, upd_same⟩
/-- a number of a prime -/
def Nm (p a : Int) : Prop := 0 ≤ a ∧ a < p
theorem nm_mod {p x : Int} (h : 0 < p) : Nm p (x % p) := ⟨Int.emod_nonneg _ (by omega), Int.emod_lt_of_pos _ h⟩
def isInt : PyData → Bool
  | .int _ => true
  | _ => false
def isStr : PyData → Bool
  | .str _ => true
  | _ => false
def isTup : PyData → Bool
  | .tuple _ => true
  | _ => false
def isLst : PyData → Bool
  | .list _ => true
  | _ => false
def isSeq : PyData → Bool
  | .list _ => true
  | .tuple _ => true
  | _ => false
theorem isK_tup (d : PyData) : Ow.isK d "tuple" = isTup d := by cases d <;> simp [Ow.isK, Ow.kindD, isTup, isStr, isLst, isSeq]
theorem isK_str (d : PyData) : Ow.isK d "str" = isStr d := by cases d <;> simp [Ow.isK, Ow.kindD, isTup, isStr, isLst, isSeq]
theorem isK_lst (d : PyData) : Ow.isK d "list" = isLst d := by cases d <;> simp [Ow.isK, Ow.kindD, isTup, isStr, isLst, isSeq]
theorem isK_seq (d : PyData) : (Ow.isK d "list" || Ow.isK d "tuple") = isSeq d := by cases d <;> simp [Ow.isK, Ow.kindD, isTup, isStr, isLst, isSeq]
def withinD : PyData → Int → Int → Bool
  | .int i, l, m => decide (l ≤ i) && decide (i ≤ m)
  | _, _, _ => false
theorem Nm.within {p a : Int} (h : Nm p a) : withinD (.int a) 0 (p - 1) = true := by
  have e : withinD (.int a) 0 (p - 1) = (decide (0 ≤ a) && decide (a ≤ p - 1)) := rfl
  rw [e, decide_eq_true h.1, decide_eq_true (by have := h.2; omega)]
  rfl
def primeD : PyData → Bool
  | .int i => prV (.int i)
  | _ => false
def seqD : PyData → List PyData
  | .list ds => ds
  | .tuple ds => ds
  | _ => []
def numsD (p : Int) (d : PyData) : Bool := isSeq d && (seqD d).all fun x => withinD x 0 (p - 1)
section
variable {P : Program} {w : World} {K : PySem.W.Frag} {mg : Str → Option Value} {base : Heap}
theorem k_int : ("int" : String) ∈ Ow.kinds := by decide
theorem k_bool : ("bool" : String) ∈ Ow.kinds := by decide
theorem k_tup : ("tuple" : String) ∈ Ow.kinds := by decide
theorem k_lst : ("list" : String) ∈ Ow.kinds := by decide
theorem k_str : ("str" : String) ∈ Ow.kinds := by decide
theorem k_dct : ("dict" : String) ∈ Ow.kinds := by decide
def sp_is_integer (K : PySem.W.Frag) : Sp := fun vs H Q _ => ∃ v d, vs = [v] ∧ Ow.Dq K H v d ∧ Q (.bl (isInt d)) H
theorem D_is_integer (T : Tx K mg) : Ow.Df P w K mg base CX0 1 "is_integer" s_is_integer ["value"] (sp_is_integer K) := by
  refine Ow.df_of T.f_is_integer sc_is_integer bd_is_integer (fun vs H Q E h => ?_) (fun cdv A outer s H vs Q E f hG hR h => ?_)
  · obtain ⟨_, _, rfl, _⟩ := h
    rfl
  · obtain ⟨v, d, rfl, hd, q⟩ := h
    have hu := hR.units
    have hu1 := hu_of hR
    refine ⟨_, (pss_one (ps_ret (pe_and (pe_callB Ow.call_isiD (by rfl) T.b_isinstance (by decide +kernel) (pa_cons (pv 0) (pa_cons (pe_bltn (v := .ty "int") (by rfl) T.b_int (by decide +kernel) rfl) pa_nil))) (pe_one (pe_not (pe_callB Ow.call_isiD (by rfl) T.b_isinstance (by decide +kernel) (pa_cons (pv 0) (pa_cons (pe_bltn (v := .ty "bool") (by rfl) T.b_bool (by decide +kernel) rfl) pa_nil)))))))), ?_⟩
    refine ⟨_, rfl, v, d, "int", rfl, k_int, hd, _, rfl, ?_⟩
    cases d with
    | int i => exact iteT ⟨_, rfl, v, .int i, "bool", rfl, k_bool, hd, _, rfl, q⟩
    | bool b => exact iteT ⟨_, rfl, v, .bool b, "bool", rfl, k_bool, hd, _, rfl, q⟩
    | none => exact iteF q
    | str x => exact iteF q
    | list ds => exact iteF q
    | tuple ds => exact iteF q
    | dict ds => exact iteF q
def sp_is_within (K : PySem.W.Frag) : Sp := fun vs H Q _ => ∃ v d l m, vs = [v, .int l, .int m] ∧ Ow.Dq K H v d ∧ Q (.bl (withinD d l m)) H
theorem D_is_within (T : Tx K mg) : Ow.Df P w K mg base CX0 2 "is_within" s_is_within ["value", "least", "most"] (sp_is_within K) := by
  refine Ow.df_of T.f_is_within sc_is_within bd_is_within (fun vs H Q E h => ?_) (fun cdv A outer s H vs Q E f hG hR h => ?_)
  · obtain ⟨_, _, _, _, rfl, _⟩ := h
    rfl
  · obtain ⟨v, d, l, m, rfl, hd, q⟩ := h
    have hu := hR.units
    have hu1 := hu_of hR
    refine ⟨_, (pss_one (ps_ret (pe_and (Ow.pe_d (D_is_integer T) hR (by decide) hG pass0 (by rfl) (pa_cons (pv 0) pa_nil)) (pe_one (pe_chain op_le op_le (pv 1) (pv 0) (pv 2)))))), ?_⟩
    refine ⟨_, rfl, v, d, rfl, hd, _, rfl, ?_⟩
    cases hd with
    | int i =>
      refine iteT ⟨_, rfl, _, rfl, _, _, rfl, rfl, _, rfl, ?_⟩
      have e : withinD (.int i) l m = (decide (l ≤ i) && decide (i ≤ m)) := rfl
      rw [e] at q
      cases h1 : decide (l ≤ i) with
      | true =>
        rw [h1] at q
        exact iteT ⟨_, rfl, _, _, rfl, rfl, q⟩
      | false =>
        rw [h1] at q
        exact iteF q
    | non => exact iteF q
    | bl b => exact iteF q
    | str x => exact iteF q
    | lst h t => exact iteF q
    | tup h t => exact iteF q
    | dct h t => exact iteF q
def sp_is_list (K : PySem.W.Frag) : Sp := fun vs H Q _ => ∃ v d, vs = [v] ∧ Ow.Dq K H v d ∧ ∀ H', Same H H' → Q (.bl (isSeq d)) H'
theorem D_is_list (T : Tx K mg) : Ow.Df P w K mg base CX0 1 "is_list" s_is_list ["value"] (sp_is_list K) := by
  refine Ow.df_of T.f_is_list sc_is_list bd_is_list (fun vs H Q E h => ?_) (fun cdv A outer s H vs Q E f hG hR h => ?_)
  · obtain ⟨_, _, rfl, _⟩ := h
    rfl
  · obtain ⟨v, d, rfl, hd, q⟩ := h
    have hu := hR.units
    have hu1 := hu_of hR
    refine ⟨_, (pss_one (ps_ret (pe_callB Ow.call_isiD2 (by rfl) T.b_isinstance (by decide +kernel) (pa_cons (pv 0) (pa_cons (pe_tup (pa_cons (pe_bltn (v := .ty "list") (by rfl) T.b_list (by decide +kernel) rfl) (pa_cons (pe_bltn (v := .ty "tuple") (by rfl) T.b_tuple (by decide +kernel) rfl) pa_nil))) pa_nil))))), ?_⟩
    refine ⟨_, rfl, (by show 2 ≤ sizeLine; decide), ?_⟩
    intro t hp_t
    generalize hx_t : upd _ t _ = H1
    obtain ⟨s1, e1⟩ := fresh_of hp_t hx_t
    clear hx_t
    refine ⟨v, d, t, "list", "tuple", rfl, e1, k_lst, k_tup, hd.sm s1, ?_⟩
    rw [isK_seq]
    exact q H1 s1
def sp_least_divisor : Sp := fun vs H Q _ => ∃ n, vs = [.int n] ∧ 1 < n ∧ n < 10201 ∧ ∀ r, Least n r → Q (.int r) H
theorem D_least_divisor (T : Tx K mg) : Ow.Df P w K mg base CX0 1 "least_divisor" s_least_divisor ["count"] (sp_least_divisor) := by
  refine Ow.df_of T.f_least_divisor sc_least_divisor bd_least_divisor (fun vs H Q E h => ?_) (fun cdv A outer s H vs Q E f hG hR h => ?_)
  · obtain ⟨_, rfl, _⟩ := h
    rfl
  · obtain ⟨n, rfl, h1, h2, q⟩ := h
    have hu := hR.units
    have hu1 := hu_of hR
    refine ⟨_, (pss_cons (ps_set (i := 1) sc_least_divisor.nd rfl (Or.inl rfl) pe_int)
      (pss_cons (ps_while PassesOwn.never (pt_cmpR op_le (pe_op op_mul (pv 1) (pv 1)) (pv 0) (nomark _))
      (pss_cons (ps_if (pt_cmpR op_eq (pe_op op_mod (pv 0) (pv 1)) pe_int (nomark _))
        (pss_one (ps_ret (pv 1)))
        pss_nil)
        (pss_one (ps_set (i := 1) sc_least_divisor.nd rfl (Or.inl rfl) (pe_op op_add (pv 1) pe_int)))))
      (pss_one (ps_ret (pv 0))))), ?_⟩
    refine ⟨fun m σ H' => H' = H ∧ ∃ d : Int, σ = [some (.int n), some (.int d)] ∧ m = (n + 1 - d).toNat ∧ 2 ≤ d ∧ d ≤ n ∧ ∀ c : Int, 2 ≤ c → c < d → n % c ≠ 0, ⟨_, rfl, 2, rfl, rfl, by omega, by omega, fun c c1 c2 => by omega⟩, ?_⟩
    rintro m σ H' ⟨rfl, d, rfl, rfl, d1, d2, hd⟩
    refine ⟨_, rfl, _, rfl, _, _, rfl, rfl, .inl ⟨by omega, by omega⟩, _, rfl, _, _, rfl, rfl, _, rfl, ?_⟩
    refine ite2 (fun c => ⟨fun σ' H' => ∃ m', m' < _ ∧ _, fun _ _ h => h, ?_⟩) (fun c => ?_)
    · have c : d * d ≤ n := of_decide_eq_true c
      refine ⟨_, rfl, _, rfl, _, _, rfl, rfl, (show 0 < d by omega), rfl, _, rfl, ?_⟩
      refine ite2 (fun z => ?_) (fun z => ?_)
      · have z : n % d = 0 := V.int.inj (of_decide_eq_true z)
        exact ⟨_, rfl, q d ⟨d1, d2, z, hd⟩⟩
      · have z : n % d ≠ 0 := fun e => z (decide_eq_true (congrArg V.int e))
        have dn : d ≠ n := fun e => by
          subst e
          exact z (Int.emod_self)
        refine ⟨_, rfl, _, _, rfl, rfl, (n + 1 - (d + 1)).toNat, by omega, rfl, d + 1, rfl, rfl, by omega, by omega, fun x x1 x2 => ?_⟩
        rcases Int.lt_or_le x d with y | y
        · exact hd x x1 y
        · have e : x = d := by omega
          rw [e]
          exact z
    · have c : ¬ d * d ≤ n := fun z => c (decide_eq_true z)
      exact ⟨_, rfl, q n (.self h1 d1 hd (by omega))⟩
def sp_is_prime_of (K : PySem.W.Frag) : Sp := fun vs H Q _ => ∃ v d, vs = [v] ∧ Ow.Dq K H v d ∧ Q (.bl (primeD d)) H
theorem D_is_prime_of (T : Tx K mg) : Ow.Df P w K mg base CX0 3 "is_prime_of" s_is_prime_of ["value"] (sp_is_prime_of K) := by
  refine Ow.df_of T.f_is_prime_of sc_is_prime_of bd_is_prime_of (fun vs H Q E h => ?_) (fun cdv A outer s H vs Q E f hG hR h => ?_)
  · obtain ⟨_, _, rfl, _⟩ := h
    rfl
  · obtain ⟨v, d, rfl, hd, q⟩ := h
    have hu := hR.units
    have hu1 := hu_of hR
    refine ⟨_, (pss_one (ps_ret (pe_and (Ow.pe_d (D_is_within T) hR (by decide) hG pass0 (by rfl) (pa_cons (pv 0) (pa_cons (Ow.pe_gi rfl T.c_LEAST_PRIME) (pa_cons (Ow.pe_gi rfl T.c_MOST_PRIME) pa_nil)))) (pe_one (pe_cmpR op_eq (Ow.pe_d (D_least_divisor T) hR (by decide) hG pass0 (by rfl) (pa_cons (pv 0) pa_nil)) (pv 0) (nomark _)))))), ?_⟩
    refine ⟨_, rfl, v, d, 3, 9973, rfl, hd, _, rfl, ?_⟩
    cases hd with
    | int i =>
      have e : withinD (.int i) 3 9973 = (decide (3 ≤ i) && decide (i ≤ 9973)) := rfl
      have e2 : primeD (.int i) = ((decide (3 ≤ i) && decide (i ≤ 9973)) && primeB i) := rfl
      rw [e2] at q
      rw [e]
      cases h1 : (decide (3 ≤ i) && decide (i ≤ 9973)) with
      | true =>
        rw [h1] at q
        simp only [Bool.and_eq_true, decide_eq_true_eq] at h1
        refine iteT ⟨_, rfl, i, rfl, by omega, by omega, fun r hr => ⟨_, rfl, rfl, ?_⟩⟩
        have e3 : decide (V.int r = V.int i) = primeB i := by
          rw [← hr.prime (by omega) (by omega)]
          exact decide_eq_decide.mpr ⟨V.int.inj, fun e => congrArg V.int e⟩
        rw [e3]
        exact q
      | false =>
        rw [h1] at q
        exact iteF q
    | non => exact iteF q
    | bl b => exact iteF q
    | str x => exact iteF q
    | lst h t => exact iteF q
    | tup h t => exact iteF q
    | dct h t => exact iteF q
def sp_check_prime : Sp := fun vs H Q _ => ∃ p, vs = [.int p] ∧ Pr p ∧ Q .non H
theorem D_check_prime (T : Tx K mg) : Ow.Df P w K mg base CX0 4 "check_prime" s_check_prime ["value"] (sp_check_prime) := by
  refine Ow.df_of T.f_check_prime sc_check_prime bd_check_prime (fun vs H Q E h => ?_) (fun cdv A outer s H vs Q E f hG hR h => ?_)
  · obtain ⟨_, rfl, _⟩ := h
    rfl
  · obtain ⟨p, rfl, hp, q⟩ := h
    have hu := hR.units
    have hu1 := hu_of hR
    refine ⟨_, (pss_one (ps_if (pt_not (pt_val (Ow.pe_d (D_is_prime_of T) hR (by decide) hG pass0 (by rfl) (pa_cons (pv 0) pa_nil))))
      (pss_one ps_never)
      pss_nil)), ?_⟩
    refine ⟨_, rfl, .int p, .int p, rfl, .int p, ?_⟩
    have e : primeD (.int p) = true := hp
    rw [e]
    exact ⟨_, rfl, iteF q⟩
def sp_is_number_of (K : PySem.W.Frag) : Sp := fun vs H Q _ => ∃ p v d, vs = [.int p, v] ∧ Ow.Dq K H v d ∧ Q (.bl (withinD d 0 (p - 1))) H
theorem D_is_number_of (T : Tx K mg) : Ow.Df P w K mg base CX0 3 "is_number_of" s_is_number_of ["prime", "value"] (sp_is_number_of K) := by
  refine Ow.df_of T.f_is_number_of sc_is_number_of bd_is_number_of (fun vs H Q E h => ?_) (fun cdv A outer s H vs Q E f hG hR h => ?_)
  · obtain ⟨_, _, _, rfl, _⟩ := h
    rfl
  · obtain ⟨p, v, d, rfl, hd, q⟩ := h
    have hu := hR.units
    have hu1 := hu_of hR
    refine ⟨_, (pss_one (ps_ret (Ow.pe_d (D_is_within T) hR (by decide) hG pass0 (by rfl) (pa_cons (pv 1) (pa_cons pe_int (pa_cons (pe_op op_sub (pv 0) pe_int) pa_nil)))))), ?_⟩
    exact ⟨_, rfl, _, rfl, _, _, rfl, rfl, _, _, _, _, rfl, hd, q⟩
def sp_check_number : Sp := fun vs H Q _ => ∃ p a, vs = [.int p, .int a] ∧ Nm p a ∧ Q .non H
theorem D_check_number (T : Tx K mg) : Ow.Df P w K mg base CX0 4 "check_number" s_check_number ["prime", "value"] (sp_check_number) := by
  refine Ow.df_of T.f_check_number sc_check_number bd_check_number (fun vs H Q E h => ?_) (fun cdv A outer s H vs Q E f hG hR h => ?_)
  · obtain ⟨_, _, rfl, _⟩ := h
    rfl
  · obtain ⟨p, a, rfl, ha, q⟩ := h
    have hu := hR.units
    have hu1 := hu_of hR
    refine ⟨_, (pss_one (ps_if (pt_not (pt_val (Ow.pe_d (D_is_number_of T) hR (by decide) hG pass0 (by rfl) (pa_cons (pv 0) (pa_cons (pv 1) pa_nil)))))
      (pss_one ps_never)
      pss_nil)), ?_⟩
    refine ⟨_, rfl, _, rfl, p, .int a, .int a, rfl, .int a, ?_⟩
    rw [ha.within]
    exact ⟨_, rfl, iteF q⟩
end

end Eqr
namespace Eqr
open PySem PySem.Spec L2
/-! ### the pot: two numbers, the second one below 2 ^ 32 -/
def PotAt (H : Hp) (a : Addr) : Prop := ∃ x y : Int, H a = some (.lst [.int x, .int y]) ∧ 0 ≤ x ∧ 0 ≤ y ∧ y < 4294967296
/-- nothing known has changed but the pot -/
structure Stp (a : Addr) (H H' : Hp) : Prop where
  kp : ∀ b o, b ≠ a → H b = some o → H' b = some o
  pot : PotAt H' a
theorem Stp.refl {a : Addr} {H : Hp} (h : PotAt H a) : Stp a H H := ⟨fun _ _ _ e => e, h⟩
theorem Stp.trans {a : Addr} {H H1 H2 : Hp} (h : Stp a H H1) (g : Stp a H1 H2) : Stp a H H2 := ⟨fun b o n e => g.kp b o n (h.kp b o n e), g.pot⟩
theorem PotAt.same {a : Addr} {H H' : Hp} (h : PotAt H a) (s : Same H H') : PotAt H' a := by
  obtain ⟨x, y, e, r⟩ := h
  exact ⟨x, y, s _ _ e, r⟩
theorem Stp.same {a : Addr} {H H1 H2 : Hp} (h : Stp a H H1) (s : Same H1 H2) : Stp a H H2 := ⟨fun b o n e => s _ _ (h.kp b o n e), h.pot.same s⟩
theorem Stp.of {a : Addr} {H H1 : Hp} (h : PotAt H a) (s : Same H H1) : Stp a H H1 := (Stp.refl h).same s
theorem PotAt.some {a : Addr} {H : Hp} (h : PotAt H a) : H a ≠ none := by
  obtain ⟨x, y, e, _⟩ := h
  rw [e]
  intro z
  cases z
theorem PotAt.ne {a p : Addr} {H : Hp} (h : PotAt H a) (hp : H p = none) : p ≠ a := fun e => h.some (e ▸ hp)
section
variable {P : Program} {w : World} {K : PySem.W.Frag} {mg : Str → Option Value} {base : Heap}
def sp_law_pot (K : PySem.W.Frag) : Sp := fun vs H Q _ => ∃ a k ns, vs = [.ref a, .int k] ∧ SqL K H a (List.map V.int ns) ∧ 0 ≤ k ∧ ∀ H' p, Same H H' → H p = none → PotAt H' p → Q (.ref p) H'
theorem D_law_pot (T : Tx K mg) : Ow.Df P w K mg base CX0 1 "_law_pot" s_law_pot ["script", "k"] (sp_law_pot K) := by
  refine Ow.df_of T.f_law_pot sc_law_pot bd_law_pot (fun vs H Q E h => ?_) (fun cdv A outer s H vs Q E f hG hR h => ?_)
  · obtain ⟨_, _, _, rfl, _⟩ := h
    rfl
  · obtain ⟨a, k, ns, rfl, hS, hk, q⟩ := h
    have hu := hR.units
    have hu1 := hu_of hR
    refine ⟨_, (pss_cons (ps_set (i := 2) sc_law_pot.nd rfl (Or.inl rfl) (pe_ifExp (pt_cmpR op_lt (pv 1) (pe_callB call_len_seq (by rfl) T.b_len (by decide +kernel) (pa_cons (pv 0) pa_nil)) (nomark _)) (pe_callB call_abs (by rfl) T.b_abs (by decide +kernel) (pa_cons (pe_ix ix_list (pv 0) (pv 1) (fun _ _ => rfl)) pa_nil)) (pe_op op_add (pe_op op_mul pe_int (pv 1)) pe_int)))
      (pss_one (ps_ret (pe_lst (pa_cons (pe_callB (call_max2 rfl) (by rfl) T.b_max (by decide +kernel) (pa_cons pe_int (pa_cons (pe_op op_sub (pv 2) (pe_op op_pow pe_int pe_int)) pa_nil))) (pa_cons (pe_op op_add (pe_op op_mod (pe_callTy Ow.call_int (by rfl) T.b_int (by decide +kernel) (pa_cons (pe_op op_add (pe_op op_add (pe_op op_mul (pe_op op_mod (pe_callTy Ow.call_int (by rfl) T.b_int (by decide +kernel) (pa_cons (pv 2) pa_nil)) pe_int) pe_int) (pe_op op_mul pe_int (pv 1))) pe_int) pa_nil)) pe_int) pe_int) pa_nil)))))), ?_⟩
    have fin : ∀ x y : Int, 0 ≤ x → 0 ≤ y → y < 4294967296 → [V.int x, V.int y].length ≤ sizeLine ∧ ∀ p, H p = none → Q (.ref p) (upd H p (.lst [.int x, .int y])) :=
      fun x y x0 y0 y1 => ⟨(by show 2 ≤ sizeLine; decide), fun p hp => q _ p (same_new hp) hp ⟨x, y, upd_same, x0, y0, y1⟩⟩
    refine ⟨_, rfl, _, rfl, a, _, rfl, .inl hS, _, _, rfl, rfl, _, rfl, ?_⟩
    refine ite2 (fun c => ?_) (fun c => ?_)
    · have c : k < ((List.map V.int ns).length : Int) := of_decide_eq_true c
      rw [List.length_map] at c
      have g : (List.map V.int ns)[k.toNat]? = some (.int ns[k.toNat]) := by
        rw [List.getElem?_map, List.getElem?_eq_getElem (by omega)]
        rfl
      refine ⟨_, rfl, _, rfl, a, _, k, _, rfl, rfl, hS, at_of (by omega) g, _, rfl, ?_⟩
      generalize (if ns[k.toNat] < 0 then -ns[k.toNat] else ns[k.toNat]) = c
      refine ⟨_, rfl, _, _, rfl, rfl, ⟨by decide, by decide, by decide⟩, _, _, rfl, rfl, _, _, rfl, _, rfl, _, rfl, _, _, rfl, rfl, (by show (0 : Int) < _; omega), _, _, rfl, rfl, (by first | exact .inl ⟨by omega, by omega⟩ | exact .inr ⟨by omega, by omega⟩), _, rfl, _, _, rfl, rfl, (by first | exact .inl ⟨by omega, by omega⟩ | exact .inr ⟨by omega, by omega⟩), _, _, rfl, rfl, _, _, rfl, rfl, _, rfl, _, _, rfl, rfl, (by show (0 : Int) < _; omega), _, _, rfl, rfl, fin _ _ ?_ ?_ ?_⟩
      · split <;> omega
      · have := Int.emod_nonneg (c % 2147483549 * 40014 + 41641 * k + 3499) (show (2147483563 : Int) ≠ 0 by decide)
        omega
      · have := Int.emod_lt_of_pos (c % 2147483549 * 40014 + 41641 * k + 3499) (show (0 : Int) < 2147483563 by decide)
        omega
    · refine ⟨_, rfl, _, _, rfl, rfl, (by first | exact .inl ⟨by omega, by omega⟩ | exact .inr ⟨by omega, by omega⟩), _, _, rfl, rfl, ?_⟩
      generalize 4951 * k + 4217 = c
      refine ⟨_, rfl, _, _, rfl, rfl, ⟨by decide, by decide, by decide⟩, _, _, rfl, rfl, _, _, rfl, _, rfl, _, rfl, _, _, rfl, rfl, (by show (0 : Int) < _; omega), _, _, rfl, rfl, (by first | exact .inl ⟨by omega, by omega⟩ | exact .inr ⟨by omega, by omega⟩), _, rfl, _, _, rfl, rfl, (by first | exact .inl ⟨by omega, by omega⟩ | exact .inr ⟨by omega, by omega⟩), _, _, rfl, rfl, _, _, rfl, rfl, _, rfl, _, _, rfl, rfl, (by show (0 : Int) < _; omega), _, _, rfl, rfl, fin _ _ ?_ ?_ ?_⟩
      · split <;> omega
      · have := Int.emod_nonneg (c % 2147483549 * 40014 + 41641 * k + 3499) (show (2147483563 : Int) ≠ 0 by decide)
        omega
      · have := Int.emod_lt_of_pos (c % 2147483549 * 40014 + 41641 * k + 3499) (show (0 : Int) < 2147483563 by decide)
        omega
def sp_law_draw : Sp := fun vs H Q _ => ∃ a m, vs = [.ref a, .int m] ∧ PotAt H a ∧ 0 < m ∧ m < 2 ^ 200 ∧ ∀ d H', Stp a H H' → 0 ≤ d → d < m → Q (.int d) H'
theorem div_big {i j : Int} (h : 0 < j) (h2 : j < 2 ^ 200) : CDivP i j := ⟨h, PyProof.noPylong_of_log2 (by
  have e : j.natAbs < 2 ^ 200 := by omega
  have := (Nat.log2_lt (by omega : j.natAbs ≠ 0)).mpr e
  omega)⟩
theorem stp_put {a : Addr} {H H' : Hp} {x y : Int} (s : ∀ b o, b ≠ a → H b = some o → H' b = some o) (x0 : 0 ≤ x) (y0 : 0 ≤ y) (y1 : y < 4294967296) : Stp a H (upd H' a (.lst [.int x, .int y])) :=
  ⟨fun b o n e => by rw [upd_ne n]; exact s b o n e, x, y, upd_same, x0, y0, y1⟩
theorem D_law_draw (T : Tx K mg) : Ow.Df P w K mg base CX0 1 "_law_draw" s_law_draw ["pot", "many"] (sp_law_draw) := by
  refine Ow.df_of T.f_law_draw sc_law_draw bd_law_draw (fun vs H Q E h => ?_) (fun cdv A outer s H vs Q E f hG hR h => ?_)
  · obtain ⟨_, _, rfl, _⟩ := h
    rfl
  · obtain ⟨a, m, rfl, hp, m0, m1, q⟩ := h
    have hu := hR.units
    have hu1 := hu_of hR
    refine ⟨_, (pss_cons (ps_if (pt_cmpR op_gt (pe_ix ix_list (pv 0) pe_int (fun _ _ => rfl)) pe_int (nomark _))
      (pss_cons (ps_asg (pe_callB call_divmodW (by rfl) T.b_divmod (by decide +kernel) (pa_cons (pe_ix ix_list (pv 0) pe_int (fun _ _ => rfl)) (pa_cons (pv 1) pa_nil))) (pg_tup rfl (pgs_cons (pg_sub (pv 0) pe_int set_list) (pgs_cons (pg_name (i := 2) sc_law_draw.nd rfl (Or.inl rfl)) pgs_nil))))
        (pss_one (ps_ret (pv 2))))
      pss_nil)
      (pss_cons (ps_asg (pe_op op_mod (pe_callTy Ow.call_int (by rfl) T.b_int (by decide +kernel) (pa_cons (pe_op op_add (pe_op op_mul (pe_ix ix_list (pv 0) pe_int (fun _ _ => rfl)) pe_int) pe_int) pa_nil)) pe_int) (pg_sub (pv 0) pe_int set_list))
      (pss_one (ps_ret (pe_op op_mod (pe_callTy Ow.call_int (by rfl) T.b_int (by decide +kernel) (pa_cons (pe_op Ow.op_div (pe_op op_mod (pe_callTy Ow.call_int (by rfl) T.b_int (by decide +kernel) (pa_cons (pe_op op_mul (pe_ix ix_list (pv 0) pe_int (fun _ _ => rfl)) (pe_ix ix_list (pv 0) pe_int (fun _ _ => rfl))) pa_nil)) pe_int) pe_int) pa_nil)) (pv 1)))))), ?_⟩
    obtain ⟨x, y, e, x0, y0, y1⟩ := hp
    refine ⟨_, rfl, a, _, 0, .int x, rfl, rfl, .of e, rfl, _, _, rfl, rfl, _, rfl, ?_⟩
    refine ite2 (fun c => ?_) (fun c => ?_)
    · have c : 0 < x := of_decide_eq_true c
      refine ⟨_, rfl, a, _, 0, .int x, rfl, rfl, .of e, rfl, _, rfl, _, _, rfl, div_big m0 m1, fun t ht => ?_⟩
      have ne : a ≠ t := ne_of_none e ht
      refine ⟨t, _, rfl, .inl (.inl upd_same), rfl, _, _, rfl, _, rfl, a, _, 0, 0, rfl, rfl, (upd_ne ne).trans e, rfl, ?_⟩
      refine ⟨_, _, rfl, rfl, _, rfl, ?_⟩
      have s := same_new (o := .tup [.int (x / m), .int (x % m)]) ht
      exact q _ _ (stp_put (fun b o _ e => s b o e) (Int.ediv_nonneg (by omega) (by omega)) y0 y1) (Int.emod_nonneg _ (by omega)) (Int.emod_lt_of_pos _ m0)
    · refine ⟨_, rfl, a, _, 1, .int y, rfl, rfl, .of e, rfl, _, _, rfl, rfl, .inl ⟨by omega, by omega⟩, _, _, rfl, rfl, _, rfl, _, _, rfl, rfl, (by show (0 : Int) < _; omega), ?_⟩
      have z0 := Int.emod_nonneg (y * 40487 + 13037) (show (2147483563 : Int) ≠ 0 by decide)
      have z1 := Int.emod_lt_of_pos (y * 40487 + 13037) (show (0 : Int) < 2147483563 by decide)
      refine ⟨_, rfl, a, _, 1, 1, rfl, rfl, e, rfl, ?_⟩
      have e2 : (upd H a (.lst [.int x, .int ((y * 40487 + 13037) % 2147483563)])) a = some (.lst [.int x, .int ((y * 40487 + 13037) % 2147483563)]) := upd_same
      refine ⟨_, rfl, a, _, 1, _, rfl, rfl, .of e2, rfl, _, rfl, a, _, 1, _, rfl, rfl, .of e2, rfl, _, _, rfl, rfl, .inl ⟨by omega, by omega⟩, _, rfl, _, _, rfl, rfl, (by show (0 : Int) < _; omega), _, _, rfl, rfl, ⟨by omega, by omega⟩, _, rfl, _, rfl, _, _, rfl, rfl, m0, ?_⟩
      exact q _ _ (stp_put (fun b o _ e => e) x0 z0 (by omega)) (Int.emod_nonneg _ (by omega)) (Int.emod_lt_of_pos _ m0)
def sp_law_pick : Sp := fun vs H Q _ => ∃ a l xs, vs = [.ref a, .ref l] ∧ PotAt H a ∧ H l = some (.lst xs) ∧ l ≠ a ∧ 0 < xs.length ∧ xs.length < 1000 ∧ ∀ v H', Stp a H H' → v ∈ xs → Q v H'
theorem D_law_pick (T : Tx K mg) : Ow.Df P w K mg base CX0 2 "_law_pick" s_law_pick ["pot", "some"] (sp_law_pick) := by
  refine Ow.df_of T.f_law_pick sc_law_pick bd_law_pick (fun vs H Q E h => ?_) (fun cdv A outer s H vs Q E f hG hR h => ?_)
  · obtain ⟨_, _, _, rfl, _⟩ := h
    rfl
  · obtain ⟨a, l, xs, rfl, hp, hl, ne, x0, x1, q⟩ := h
    have hu := hR.units
    have hu1 := hu_of hR
    refine ⟨_, (pss_one (ps_ret (pe_ix ix_list (pv 1) (Ow.pe_d (D_law_draw T) hR (by decide) hG pass0 (by rfl) (pa_cons (pv 0) (pa_cons (pe_callB call_len_seq (by rfl) T.b_len (by decide +kernel) (pa_cons (pv 1) pa_nil)) pa_nil))) (fun _ _ => rfl)))), ?_⟩
    refine ⟨_, rfl, _, rfl, _, rfl, l, xs, rfl, .inl (.of hl), a, _, rfl, hp, by omega, by omega, fun d H' s d0 d1 => ?_⟩
    have g : xs[d.toNat]? = some xs[d.toNat] := List.getElem?_eq_getElem (by omega)
    exact ⟨l, xs, d, _, rfl, rfl, .of (s.kp _ _ ne hl), at_of (by omega) g, q _ _ s (List.getElem_mem _)⟩
end

end Eqr
namespace Eqr
open PySem PySem.Spec L2
/-! ### comprehensions without a test -/
def Gives (te : TE) (σ : L2.St) (H : Hp) (S : Hp → Hp → Prop) (R : V → Prop) : Prop := ∀ Q : VK, (∀ v H', S H H' → R v → Q v H') → te σ H Q
/-- what a comprehension's turns may do -/
structure Fair (S : Hp → Hp → Prop) (H1 : Hp) (D : Addr) : Prop where
  tr : ∀ {H H'}, S H1 H → S H H' → S H1 H'
  up : ∀ {H H' : Hp} {o : HO}, S H H' → H D = some o → H' D = some o
  put : ∀ {H : Hp} (o : HO), S H1 H → S H1 (upd H D o)
  nw : ∀ (o : HO), S H1 (upd H1 D o)
theorem Fair.same {H1 : Hp} {D : Addr} (h : H1 D = none) : Fair Same H1 D where
  tr := fun a b => a.trans b
  up := fun a e => a _ _ e
  put := fun o a b u e => by rw [upd_ne (ne_of_none e h)]; exact a b u e
  nw := fun o => same_new h
theorem Fair.pot {H1 : Hp} {D a : Addr} (h : H1 D = none) (hp : PotAt H1 a) : Fair (Stp a) H1 D where
  tr := fun x y => x.trans y
  up := fun x e => x.kp _ _ (hp.ne h) e
  put := fun o x => ⟨fun b u n e => by rw [upd_ne (ne_of_none e h)]; exact x.kp b u n e, by
    obtain ⟨u, v, e, r⟩ := x.pot
    exact ⟨u, v, by rw [upd_ne (hp.ne h).symm]; exact e, r⟩⟩
  nw := fun o => .of hp (same_new h)
section
variable {lo : Int} {n j : Nat} {te : TE} {vs : List Nat} {σ : L2.St} {H1 : Hp} {D : Addr} {Qd : Hp → Prop} {S : Hp → Hp → Prop}
theorem take_turn {Hc : Hp} {i : Nat} {y : V} {R : Nat → V → Prop} {acc : List V} (F : Fair S H1 D) (hs : S H1 Hc) (hd : Hc D = some (.lst acc)) (hl : acc.length = i) (ha : ∀ k v, acc[k]? = some v → R k v) (hy : R i y) :
    S H1 (upd Hc D (.lst (acc ++ [y]))) ∧ ∃ acc', (upd Hc D (.lst (acc ++ [y]))) D = some (.lst acc') ∧ acc'.length = i + 1 ∧ ∀ k v, acc'[k]? = some v → R k v := by
  refine ⟨F.put _ hs, acc ++ [y], upd_same, by simp [hl], fun k v e => ?_⟩
  rcases Nat.lt_or_ge k acc.length with z | z
  · rw [List.getElem?_append_left z] at e
    exact ha k v e
  · rw [List.getElem?_append_right z] at e
    have z2 : k - acc.length = 0 := by
      rcases Nat.eq_zero_or_pos (k - acc.length) with q | q
      · exact q
      · rw [List.getElem?_eq_none (by simp; omega)] at e
        cases e
    rw [z2] at e
    have e2 : y = v := Option.some.inj e
    have e3 : k = i := by omega
    rw [← e2, e3]
    exact hy
theorem comp_range (R : Nat → V → Prop) (F : Fair S H1 D) (hn : n < 1000) (hw : ∀ x, wipe ((wipe σ vs).set j (some x)) vs = wipe σ vs)
    (he : ∀ (i : Nat) H', i < n → S H1 H' → Gives te ((wipe σ vs).set j (some (.int (lo + i)))) H' S (R i))
    (hq : ∀ xs H', xs.length = n → (∀ k v, xs[k]? = some v → R k v) → S H1 H' → H' D = some (.lst xs) → Qd H') :
    ∃ W : Nat → Nat → Hp → Prop, (∃ m, W 0 m (upd H1 D (.lst []))) ∧ ∀ i m H, W i m H →
      ((Itr lo n).stop i H ∧ Qd H) ∨ ((Itr lo n).go i H ∧ ∃ Nx : Hp → Prop, (∀ H', Nx H' → ∃ m', m' < m ∧ W (i + 1) m' H') ∧ ∀ x H', (Itr lo n).yld i H x H' → gName j x (wipe σ vs) H' fun σ2 H2 => wipe σ2 vs = wipe σ vs ∧ tYes σ2 H2 fun b H3 =>
        if b = true then te σ2 H3 fun y H4 => ∃ acc, H4 D = some (.lst acc) ∧ acc.length < sizeLine ∧ Nx (upd H4 D (.lst (acc ++ [y]))) else Nx H3) := by
  refine lc_range (fun i H' => S H1 H' ∧ ∃ acc, H' D = some (.lst acc) ∧ acc.length = i ∧ ∀ k v, acc[k]? = some v → R k v) ⟨F.nw _, [], upd_same, rfl, fun k v e => by simp at e⟩ ?_ ?_
  · rintro i H' hi ⟨s, acc, e, hl, ha⟩
    refine ⟨hw _, iteT (B := S H1 H' ∧ ∃ acc, H' D = some (.lst acc) ∧ acc.length = i + 1 ∧ ∀ k v, acc[k]? = some v → R k v) (he i H' hi s _ fun v H2 s2 r => ⟨acc, F.up s2 e, small1000 (by omega), ?_⟩)⟩
    exact take_turn F (F.tr s s2) (F.up s2 e) hl ha r
  · rintro H' ⟨s, acc, e, hl, ha⟩
    exact hq acc H' hl ha s e
theorem comp_list {K : PySem.W.Frag} {a : Addr} {xs : List V} (R : Nat → V → Prop) (F : Fair S H1 D) (hn : xs.length < 1000) (hw : ∀ x, wipe ((wipe σ vs).set j (some x)) vs = wipe σ vs)
    (hl : ∀ H', S H1 H' → SqL K H' a xs)
    (he : ∀ (i : Nat) x H', xs[i]? = some x → S H1 H' → Gives te ((wipe σ vs).set j (some x)) H' S (R i))
    (hq : ∀ ys H', ys.length = xs.length → (∀ k v, ys[k]? = some v → R k v) → S H1 H' → H' D = some (.lst ys) → Qd H') :
    ∃ W : Nat → Nat → Hp → Prop, (∃ m, W 0 m (upd H1 D (.lst []))) ∧ ∀ i m H, W i m H →
      ((Itl K a).stop i H ∧ Qd H) ∨ ((Itl K a).go i H ∧ ∃ Nx : Hp → Prop, (∀ H', Nx H' → ∃ m', m' < m ∧ W (i + 1) m' H') ∧ ∀ x H', (Itl K a).yld i H x H' → gName j x (wipe σ vs) H' fun σ2 H2 => wipe σ2 vs = wipe σ vs ∧ tYes σ2 H2 fun b H3 =>
        if b = true then te σ2 H3 fun y H4 => ∃ acc, H4 D = some (.lst acc) ∧ acc.length < sizeLine ∧ Nx (upd H4 D (.lst (acc ++ [y]))) else Nx H3) := by
  refine lc_list (xs := xs) (fun i H' => S H1 H' ∧ ∃ acc, H' D = some (.lst acc) ∧ acc.length = i ∧ ∀ k v, acc[k]? = some v → R k v) ⟨F.nw _, [], upd_same, rfl, fun k v e => by simp at e⟩ (fun i H' _ p => hl H' p.1) ?_ ?_
  · rintro i x H' hi ⟨s, acc, e, hl2, ha⟩
    have := (List.getElem?_eq_some_iff.mp hi).1
    refine ⟨hw _, iteT (B := S H1 H' ∧ ∃ acc, H' D = some (.lst acc) ∧ acc.length = i + 1 ∧ ∀ k v, acc[k]? = some v → R k v) (he i x H' hi s _ fun v H2 s2 r => ⟨acc, F.up s2 e, small1000 (by omega), ?_⟩)⟩
    exact take_turn F (F.tr s s2) (F.up s2 e) hl2 ha r
  · rintro H' ⟨s, acc, e, hl2, ha⟩
    exact hq acc H' hl2 ha s e
end
theorem list_map_of {ys : List V} {α : Type} {f : α → V} {zs : List α} (hl : ys.length = zs.length) (h : ∀ (k : Nat) v z, ys[k]? = some v → zs[k]? = some z → v = f z) : ys = zs.map f := by
  refine List.ext_getElem? fun k => ?_
  rw [List.getElem?_map]
  cases e : zs[k]? with
  | none =>
    rw [List.getElem?_eq_none_iff] at e
    rw [List.getElem?_eq_none (by omega)]
    rfl
  | some z =>
    have : k < ys.length := by
      have := (List.getElem?_eq_some_iff.mp e).1
      omega
    rw [List.getElem?_eq_getElem this]
    exact congrArg some (h k _ z (List.getElem?_eq_getElem this) e)
theorem two_bools (x : Bool) : (PyData.list [.bool x, .bool x]).hasDict = false ∧ (PyData.list [.bool x, .bool x]).showable = true ∧ (PyData.list [.bool x, .bool x]).depth ≤ 60 ∧ (PyData.list [.bool x, .bool x]).shown.length ≤ sizeLine := by
  cases x <;> exact ⟨by decide +kernel, by decide +kernel, by decide +kernel, by decide +kernel⟩

end Eqr
namespace Eqr
open PySem PySem.Spec L2
/-! ### comprehensions over any walk, with a test -/
section
def hid (D : Addr) (H : Hp) : Hp := fun b => if b = D then none else H b
theorem hid_ne {D b : Addr} {H : Hp} (h : b ≠ D) : hid D H b = H b := if_neg h
theorem hid_is {D b : Addr} {H : Hp} {o : HO} (h : hid D H b = some o) : b ≠ D ∧ H b = some o := by
  unfold hid at h
  split at h
  · cases h
  · exact ⟨by assumption, h⟩
theorem hid_sm {D : Addr} {H : Hp} : Same (hid D H) H := fun b o e => (hid_is e).2
theorem hid_mono {D : Addr} {H H' : Hp} (s : Same H H') : Same (hid D H) (hid D H') := fun b o e => by
  obtain ⟨n, q⟩ := hid_is e
  rw [hid_ne n]
  exact s _ _ q
theorem hid_upd {D : Addr} {H : Hp} {o : HO} : hid D (upd H D o) = hid D H := by
  funext b
  unfold hid
  split
  · rfl
  · exact upd_ne (by assumption)
theorem hid_no {D : Addr} {H : Hp} (h : H D = none) : hid D H = H := by
  funext b
  unfold hid
  split
  · rw [← h]
    congr
    exact Eq.symm (by assumption)
  · rfl
theorem hid_of {D b : Addr} {H : Hp} {o : HO} {acc : List V} (hd : H D = some (.lst acc)) (h : H b = some o) (hn : ∀ xs, o ≠ .lst xs) : hid D H b = some o := by
  rw [hid_ne]
  · exact h
  · intro e
    subst e
    rw [hd] at h
    cases h
    exact hn _ rfl
theorem same_hid {D : Addr} {H H' : Hp} (h : H D = none) (s : Same H H') : Same H (hid D H') := fun b o e => by
  rw [hid_ne (ne_of_none e h)]
  exact s _ _ e
/-- a new thing, the rest as it was, also beside the list at D -/
theorem hid_new {D p : Addr} {H : Hp} {o : HO} (h : H p = none) : Same (hid D H) (hid D (upd H p o)) := hid_mono (same_new h)
end
section
variable {J : It} {n : Nat} {G : Hp → Prop} {Y : Nat → Hp → V → Hp → Prop} {g : TG} {tt : TT} {te : TE} {vs : List Nat} {σ : L2.St} {H1 : Hp} {D : Addr} {Qd : Hp → Prop} {S : Hp → Hp → Prop}
theorem comp_it (w : Walk J n G Y) (R : Nat → List V → Hp → Prop) (F : Fair S H1 D) (hD : H1 D = none) (hn : n < 1000) (h0 : R 0 [] H1) (hG : ∀ H', S H1 H' → G H')
    (hs : ∀ i x acc H' H'' (Nx : Hp → Prop), i < n → acc.length ≤ i → S H1 H' → H' D = some (.lst acc) → R i acc (hid D H') → Y i H' x H'' →
      (∀ y H4, S H1 H4 → H4 D = some (.lst acc) → R (i + 1) (acc ++ [y]) (hid D H4) → ∃ acc', H4 D = some (.lst acc') ∧ acc'.length < sizeLine ∧ Nx (upd H4 D (.lst (acc' ++ [y])))) →
      (∀ H3, S H1 H3 → H3 D = some (.lst acc) → R (i + 1) acc (hid D H3) → Nx H3) →
      g x (wipe σ vs) H'' fun σ2 H2 => wipe σ2 vs = wipe σ vs ∧ tt σ2 H2 fun b H3 => if b = true then te σ2 H3 fun y H4 => ∃ acc', H4 D = some (.lst acc') ∧ acc'.length < sizeLine ∧ Nx (upd H4 D (.lst (acc' ++ [y]))) else Nx H3)
    (hd : ∀ acc H', acc.length ≤ n → S H1 H' → H' D = some (.lst acc) → R n acc (hid D H') → Qd H') :
    ∃ W : Nat → Nat → Hp → Prop, (∃ m, W 0 m (upd H1 D (.lst []))) ∧ ∀ i m H, W i m H →
      (J.stop i H ∧ Qd H) ∨ (J.go i H ∧ ∃ Nx : Hp → Prop, (∀ H', Nx H' → ∃ m', m' < m ∧ W (i + 1) m' H') ∧ ∀ x H', J.yld i H x H' → g x (wipe σ vs) H' fun σ2 H2 => wipe σ2 vs = wipe σ vs ∧ tt σ2 H2 fun b H3 =>
        if b = true then te σ2 H3 fun y H4 => ∃ acc, H4 D = some (.lst acc) ∧ acc.length < sizeLine ∧ Nx (upd H4 D (.lst (acc ++ [y]))) else Nx H3) := by
  refine lc_it w (fun i H' => S H1 H' ∧ ∃ acc, H' D = some (.lst acc) ∧ acc.length ≤ i ∧ R i acc (hid D H')) ⟨F.nw _, [], upd_same, Nat.le_refl _, by rw [hid_upd, hid_no hD]; exact h0⟩ (fun i H _ p => hG H p.1) ?_ ?_
  · rintro i x H' H'' hi ⟨s, acc, e, hl, r⟩ y
    refine hs i x acc H' H'' _ hi hl s e r y ?_ ?_
    · intro y H4 s4 e4 r4
      refine ⟨acc, e4, small1000 (by omega), F.put _ s4, acc ++ [y], upd_same, by simp; omega, ?_⟩
      rw [hid_upd]
      exact r4
    · intro H3 s3 e3 r3
      exact ⟨s3, acc, e3, by omega, r3⟩
  · rintro H' ⟨s, acc, e, hl, r⟩
    exact hd acc H' hl s e r
end

end Eqr
namespace Eqr
open PySem PySem.Spec L2
/-! ### forms on the heap -/
theorem iteN2 {c A B : Prop} [Decidable c] (h1 : ¬ c → A) (h2 : c → B) : if (!decide c) = true then A else B := by
  by_cases h : c
  · rw [decide_eq_true h]
    exact iteF (h2 h)
  · rw [decide_eq_false h]
    exact iteT (h1 h)
theorem paired_app {α β : Type} {F : α → β → Prop} : ∀ {as as' : List α} {bs bs' : List β}, Paired F as bs → Paired F as' bs' → Paired F (as ++ as') (bs ++ bs')
  | _, _, _, _, .nil, t => t
  | _, _, _, _, .cons h r, t => .cons h (paired_app r t)
theorem paired_at {α β : Type} {F : α → β → Prop} : ∀ {as : List α} {bs : List β}, Paired F as bs → ∀ (i : Nat) {b : β}, bs[i]? = some b → ∃ a, as[i]? = some a ∧ F a b
  | _, _, .nil, i, _, e => by simp at e
  | a :: _, _ :: _, .cons h _, 0, b, e => ⟨a, rfl, by
    have e : _ = b := Option.some.inj e
    rw [← e]
    exact h⟩
  | _ :: _, _ :: _, .cons _ r, i + 1, b, e => by
    obtain ⟨a, x, y⟩ := paired_at r i (b := b) (by simpa using e)
    exact ⟨a, by simpa using x, y⟩
theorem paired_len {α β : Type} {F : α → β → Prop} : ∀ {as : List α} {bs : List β}, Paired F as bs → as.length = bs.length
  | _, _, .nil => rfl
  | _, _, .cons _ r => congrArg (· + 1) (paired_len r)
theorem paired_map {α β : Type} {F G : α → β → Prop} {as : List α} {bs : List β} (h : Paired F as bs) (q : ∀ a b, F a b → G a b) : Paired G as bs := Paired.mapP h q
theorem paired_from {α β : Type} {F : α → β → Prop} {as : List α} {bs : List β} (h : as.length = bs.length) (q : ∀ (i : Nat) a b, as[i]? = some a → bs[i]? = some b → F a b) : Paired F as bs := by
  induction as generalizing bs with
  | nil =>
    cases bs with
    | nil => exact .nil
    | cons b bs => simp at h
  | cons a as ih =>
    cases bs with
    | nil => simp at h
    | cons b bs => exact .cons (q 0 a b rfl rfl) (ih (by simpa using h) fun i x y hx hy => q (i + 1) x y (by simpa using hx) (by simpa using hy))
/-- a pair on the heap -/
def PrT (K : PySem.W.Frag) (H : Hp) (p : Addr) (x : Int × Int) : Prop := SqT K H p [.int x.1, .int x.2]
theorem PrT.sm {K : PySem.W.Frag} {H H' : Hp} {p : Addr} {x : Int × Int} (h : PrT K H p x) (s : Same H H') : PrT K H' p x := Ow.SqT.sm h s
def FmT (K : PySem.W.Frag) (H : Hp) (v : V) (f : Fm) : Prop := ∃ a ps, v = .ref a ∧ SqT K H a (List.map V.ref ps) ∧ Paired (PrT K H) ps f
def FmF (K : PySem.W.Frag) (H : Hp) (v : V) (f : Fm) : Prop := ∃ a ps, v = .ref a ∧ Ow.SqF H a (List.map V.ref ps) ∧ Paired (PrT K H) ps f
theorem FmF.t {K : PySem.W.Frag} {H : Hp} {v : V} {f : Fm} (h : FmF K H v f) : FmT K H v f := by
  obtain ⟨a, ps, e, s, q⟩ := h
  exact ⟨a, ps, e, s.t, q⟩
theorem FmT.sm {K : PySem.W.Frag} {H H' : Hp} {v : V} {f : Fm} (h : FmT K H v f) (s : Same H H') : FmT K H' v f := by
  obtain ⟨a, ps, e, x, q⟩ := h
  exact ⟨a, ps, e, Ow.SqT.sm x s, paired_map q fun _ _ z => z.sm s⟩
theorem FmF.sm {K : PySem.W.Frag} {H H' : Hp} {v : V} {f : Fm} (h : FmF K H v f) (s : Same H H') : FmF K H' v f := by
  obtain ⟨a, ps, e, x, q⟩ := h
  exact ⟨a, ps, e, Ow.SqF.sm x s, paired_map q fun _ _ z => z.sm s⟩
/-- the form as data -/
def prD (x : Int × Int) : PyData := .tuple [.int x.1, .int x.2]
def fmD (f : Fm) : PyData := .tuple (f.map prD)
theorem PrT.dp {K : PySem.W.Frag} {H : Hp} {p : Addr} {x : Int × Int} (h : PrT K H p x) : Dp K H (.ref p) (prD x) := .tup h (.cons (.int _) (.cons (.int _) .nil))
theorem prs_dp {K : PySem.W.Frag} {H : Hp} : ∀ {ps : List Addr} {f : Fm}, Paired (PrT K H) ps f → DpAll K H (ps.map V.ref) (f.map prD)
  | _, _, .nil => .nil
  | _, _, .cons h r => .cons h.dp (prs_dp r)
theorem FmT.dp {K : PySem.W.Frag} {H : Hp} {v : V} {f : Fm} (h : FmT K H v f) : Dp K H v (fmD f) := by
  obtain ⟨a, ps, rfl, s, q⟩ := h
  exact .tup s (prs_dp q)
theorem prs_kv {K : PySem.W.Frag} {H : Hp} : ∀ {ps : List Addr} {f : Fm}, Paired (PrT K H) ps f → Paired (fun p (kv : Key × V) => SqT K H p [kV kv.1, kv.2]) ps (prs f)
  | _, _, .nil => .nil
  | _, _, .cons h r => .cons h (prs_kv r)
section
variable {P : Program} {w : World} {K : PySem.W.Frag} {mg : Str → Option Value} {base : Heap}
/-- a form made of the numbers g, with at most n parts -/
def Made (K : PySem.W.Frag) (p : Int) (g : Int → Int) (n : Nat) (H : Hp) (Q : VK) : Prop := ∀ v f H', Same H H' → FmF K H' v f → Fok p f → (∀ c, look f c = g c % p) → f.length ≤ n → Q v H'
theorem Made.mono {p : Int} {g : Int → Int} {n m : Nat} {H H' : Hp} {Q : VK} (h : Made K p g n H Q) (s : Same H H') (hm : m ≤ n) : Made K p g m H' Q := fun v f H2 s2 a b c d => h v f H2 (s.trans s2) a b c (by omega)
def sp_of_dict (K : PySem.W.Frag) : Sp := fun vs H Q _ => ∃ p a kvs ks g, vs = [.int p, .ref a] ∧ 0 < p ∧ H a = some (.dK kvs) ∧ IntD kvs ks g ∧ ks.length < 64 ∧ (∀ c ∈ ks, 0 ≤ c ∧ c ≤ 999) ∧ Made K p g ks.length H Q
theorem IntD.get {kvs : List (Key × V)} {ks : List Int} {g : Int → Int} (h : IntD kvs ks g) {H : Hp} {a : Addr} {k : Int} (hk : k ∈ ks) (e : H a = some (.dK kvs)) : DGet H a (.int k) (some (.int (g k))) := by
  rw [← h.val k hk]
  exact DGet.k (k := .inl k) e
/-- one turn of the list that makes a form -/
theorem made_step {p : Int} {g : Int → Int} {ys : List Int} {i : Nat} {c : Int} (h : ys[i]? = some c) : made p g (ys.take (i + 1)) = made p g (ys.take i) ++ made p g [c] := by
  rw [List.take_succ, h, made_app]
  rfl
theorem D_of_dict (T : Tx K mg) : Ow.Df P w K mg base CX0 1 "of_dict" s_of_dict ["prime", "some"] (sp_of_dict K) := by
  refine Ow.df_of T.f_of_dict sc_of_dict bd_of_dict (fun vs H Q E h => ?_) (fun cdv A outer s H vs Q E f hG hR h => ?_)
  · obtain ⟨_, _, _, _, _, rfl, _⟩ := h
    rfl
  · obtain ⟨p, a, kvs, ks, g, rfl, p0, ea, hI, h64, hks, q⟩ := h
    have hu := hR.units
    have hu1 := hu_of hR
    refine ⟨_, (pss_one (ps_ret (pe_callTy Ow.call_tupleF (by rfl) T.b_tuple (by decide +kernel) (pa_cons (pe_lc (own := [("cell", 2)]) (g := gName 2) rfl sc_of_dict.nd (pi_list (pe_callB (call_sortedDI rfl) (by rfl) T.b_sorted (by decide +kernel) (pa_cons (pv 1) pa_nil))) (blkOk_by (N := ["prime", "some", "cell"]) (sc := defScope s_of_dict) (by decide +kernel)) (fun _ _ _ _ _ => pg_name (i := 2) sc_of_dict.nd rfl (Or.inl rfl)) (fun _ _ _ _ _ => pts_one (pt_cmpR op_ne (pe_op op_mod (pe_dget hu1 (pv 1) (pv 2) (fun _ _ => rfl)) (pv 0)) pe_int (nomark _))) (fun _ _ _ _ _ => (Ow.pe_tupF (pa_cons (pv 2) (pa_cons (pe_op op_mod (pe_dget hu1 (pv 1) (pv 2) (fun _ _ => rfl)) (pv 0)) pa_nil))))) pa_nil)))), ?_⟩
    refine ⟨_, rfl, a, kvs, ks, rfl, .inl ea, hI.keys, h64, ?_⟩
    intro ys l hperm hsort
    intro hp_l
    generalize hx_l : upd _ l _ = H1
    obtain ⟨s1, e1⟩ := fresh_of hp_l hx_l
    clear hx_l
    have hup := strict_of hperm hsort hI.one
    have hlen : ys.length = ks.length := hperm.length_eq
    refine ⟨l, rfl, ⟨_, .of e1⟩, fun D hD => ?_⟩
    refine comp_it (walk_list (K := K) (a := l) (xs := ys.map V.int)) (fun i acc Hh => ∃ ps, acc = ps.map V.ref ∧ Paired (PrT K Hh) ps (made p g (ys.take i))) (Fair.same hD) hD (by rw [List.length_map]; omega) ⟨[], rfl, .nil⟩ (fun H' s => s.seq (.of e1)) ?_ ?_
    · rintro i x acc H2 H3 Nx hi hl s2 eD ⟨ps, rfl, hps⟩ ⟨rfl, hx⟩ hyes hno
      rw [List.getElem?_map] at hx
      obtain ⟨c, hc, rfl⟩ := Option.map_eq_some_iff.mp hx
      have hck : c ∈ ks := hperm.mem_iff.mp (List.mem_of_getElem? hc)
      have ga := hI.get hck (s2 _ _ (s1 _ _ ea))
      refine ⟨rfl, ?_⟩
      refine ⟨_, rfl, _, rfl, a, _, rfl, ga, _, rfl, _, _, rfl, rfl, p0, rfl, _, rfl, iteN2 (fun z => ?_) (fun z => ?_)⟩
      · have z : g c % p ≠ 0 := fun e => z (congrArg V.int e)
        refine ⟨_, rfl, _, rfl, _, rfl, a, _, rfl, ga, _, rfl, _, _, rfl, rfl, p0, (by show 2 ≤ sizeLine; decide), ?_⟩
        intro t ob_t hob_t hp_t
        generalize hx_t : upd _ t _ = H4
        obtain ⟨s4, e4⟩ := fresh_of hp_t hx_t
        clear hx_t
        refine hyes _ H4 (s2.trans s4) (s4 _ _ eD) ⟨ps ++ [t], by rw [List.map_append]; rfl, ?_⟩
        rw [made_step hc, made_one, if_pos z]
        refine paired_app (paired_map hps fun _ _ w => w.sm (hid_mono s4)) (.cons ?_ .nil)
        exact .inl (.inr ⟨ob_t, hid_of (s4 _ _ eD) e4 fun _ w => by cases w⟩)
      · have z : g c % p = 0 := V.int.inj z
        refine hno _ s2 eD ⟨ps, rfl, ?_⟩
        rw [made_step hc, made_one, if_neg (fun w => w z), List.append_nil]
        exact hps
    · rintro acc H2 hl s2 eD ⟨ps, rfl, hps⟩
      rw [List.length_map, List.take_length] at hps
      refine ⟨D, _, rfl, .inl ⟨.of eD, ?_⟩⟩
      intro t ob_t hob_t hp_t
      generalize hx_t : upd _ t _ = H3
      obtain ⟨s3, e3⟩ := fresh_of hp_t hx_t
      clear hx_t
      refine q _ (made p g ys) H3 (s1.trans (s2.trans s3)) ⟨t, ps, rfl, ⟨ob_t, hob_t, e3⟩, paired_map hps fun _ _ w => w.sm (hid_sm.trans s3)⟩ (made_ok p0 hup fun c hc => hks c (hperm.mem_iff.mp hc)) (fun c => look_made hup c ?_) (Nat.le_trans (made_len p g ys) (by omega))
      by_cases hc : c ∈ ks
      · exact .inl (hperm.mem_iff.mpr hc)
      · rw [(hI.no c hc).2, Int.zero_emod]
        exact .inr rfl
theorem look_app {f g : Fm} {c : Int} : look (f ++ g) c = if c ∈ f.map (·.1) then look f c else look g c := by
  induction f with
  | nil => simp
  | cons x f ih =>
    have e1 : look (x :: f ++ g) c = if x.1 = c then x.2 else look (f ++ g) c := rfl
    have e2 : look (x :: f) c = if x.1 = c then x.2 else look f c := rfl
    rw [e1, e2, ih]
    by_cases z : x.1 = c
    · rw [if_pos z, if_pos z, if_pos (by simp [z])]
    · rw [if_neg z, if_neg z]
      by_cases y : c ∈ f.map (·.1)
      · rw [if_pos y, if_pos (by simp only [List.map_cons, List.mem_cons]; exact .inr y)]
      · rw [if_neg y, if_neg (by simp only [List.map_cons, List.mem_cons]; exact fun w => w.elim (fun e => z e.symm) y)]
theorem look_take {f : Fm} (h : Rise f) {i : Nat} {x : Int × Int} (hx : f[i]? = some x) (c : Int) : look (f.take (i + 1)) c = look (f.take i) c + if c = x.1 then x.2 else 0 := by
  have hi := (List.getElem?_eq_some_iff.mp hx).1
  have ex : f[i] = x := (List.getElem?_eq_some_iff.mp hx).2
  have hlt : ∀ y ∈ f.take i, y.1 < x.1 := fun y hy => by
    obtain ⟨j, hj, e⟩ := List.mem_iff_getElem.mp hy
    rw [List.getElem_take] at e
    have hj2 : j < i := by rw [List.length_take] at hj; omega
    have := List.pairwise_iff_getElem.mp h j i (by omega) hi hj2
    rw [e, ex] at this
    exact this
  rw [List.take_succ, hx, look_app]
  show (if c ∈ (f.take i).map (·.1) then look (f.take i) c else look [x] c) = _
  have e1 : look [x] c = if x.1 = c then x.2 else 0 := rfl
  rw [e1]
  by_cases y : c ∈ (f.take i).map (·.1)
  · obtain ⟨z, hz, e⟩ := List.mem_map.mp y
    have := hlt z hz
    rw [if_pos y, if_neg (by omega)]
    omega
  · have o : look (f.take i) c = 0 := look_out fun z hz e => y (List.mem_map.mpr ⟨z, hz, e⟩)
    rw [if_neg y, o]
    by_cases z : c = x.1
    · rw [if_pos z, if_pos z.symm]
      omega
    · rw [if_neg z, if_neg (Ne.symm z)]
      rfl
theorem get_val {kvs : List (Key × V)} {ks : List Int} {g : Int → Int} (h : IntD kvs ks g) (k : Int) : (valV kvs (.inl k)).getD (.int 0) = .int (g k) := by
  by_cases z : k ∈ ks
  · rw [h.val k z]
    rfl
  · rw [(h.no k z).1, (h.no k z).2]
    rfl
/-- cells and numbers of a form that is small -/
def Cells (f : Fm) : Prop := ∀ x ∈ f, 0 ≤ x.1 ∧ x.1 ≤ 999
theorem Fok.cells {p : Int} {f : Fm} (h : Fok p f) : Cells f := fun x hx => ⟨(h.ok x hx).1, (h.ok x hx).2.1⟩
def sp_sum_with (K : PySem.W.Frag) : Sp := fun vs H Q _ => ∃ p vf vg f g n, vs = [.int p, vf, vg, .int n] ∧ 0 < p ∧ FmF K H vf f ∧ FmT K H vg g ∧ Rise f ∧ Rise g ∧ Cells f ∧ Cells g ∧ (-(2 ^ 64) < n ∧ n < 2 ^ 64) ∧ f.length + g.length < 64 ∧
  Made K p (fun c => look f c + n * look g c) (f.length + g.length) H Q
theorem D_sum_with (T : Tx K mg) : Ow.Df P w K mg base CX0 2 "sum_with" s_sum_with ["prime", "form", "other", "number"] (sp_sum_with K) := by
  refine Ow.df_of T.f_sum_with sc_sum_with bd_sum_with (fun vs H Q E h => ?_) (fun cdv A outer s H vs Q E f hG hR h => ?_)
  · obtain ⟨_, _, _, _, _, _, rfl, _⟩ := h
    rfl
  · obtain ⟨p, vf, vg, f, g, n, rfl, p0, hf, hg, rf, rg, cf, cg, hn, h64, q⟩ := h
    have hu := hR.units
    have hu1 := hu_of hR
    refine ⟨_, (pss_cons (ps_set (i := 4) sc_sum_with.nd rfl (Or.inl rfl) (pe_callTy (Ow.call_dictF rfl) (by rfl) T.b_dict (by decide +kernel) (pa_cons (pv 1) pa_nil)))
      (pss_cons (ps_for PassesOwn.never rfl (pi_tup (pv 2)) (pg_tup rfl (pgs_cons (pg_name (i := 5) sc_sum_with.nd rfl (Or.inl rfl)) (pgs_cons (pg_name (i := 6) sc_sum_with.nd rfl (Or.inl rfl)) pgs_nil)))
      (pss_one (ps_dput hu1 (pv 4) (pv 5) (pe_op op_add (pe_dget2 hu1 (pv 4) (pv 5) pe_int ⟨rfl, rfl, rfl, rfl⟩) (pe_op op_mul (pv 3) (pv 6))) rfl)))
      (pss_one (ps_ret (Ow.pe_d (D_of_dict T) hR (by decide) hG pass0 (by rfl) (pa_cons (pv 0) (pa_cons (pv 4) pa_nil))))))), ?_⟩
    obtain ⟨a, ps, rfl, sf, qf⟩ := hf
    obtain ⟨b, qs, rfl, sg, qg⟩ := hg
    refine ⟨_, rfl, a, ps, prs f, rfl, sf, prs_kv qf, ?_⟩
    intro d hp_d
    generalize hx_d : upd _ d _ = H1
    obtain ⟨s1, e1⟩ := fresh_of hp_d hx_d
    clear hx_d
    obtain ⟨ks, hI, hl, hk⟩ := dict_of rf
    have lq : (qs.map V.ref).length = g.length := by rw [List.length_map, paired_len qg]
    refine ⟨_, rfl, b, rfl, ⟨_, Ow.SqT.sm sg s1⟩, for_it (walk_tup (K := K) (a := b) (xs := qs.map V.ref)) (fun i σ H' => Same H H' ∧ ∃ kvs ks o5 o6, σ = [some (.int p), some (.ref a), some (.ref b), some (.int n), some (.ref d), o5, o6] ∧ H' d = some (.dK kvs) ∧
        IntD kvs ks (fun c => look f c + n * look (g.take i) c) ∧ ks.length ≤ f.length + i ∧ ∀ c ∈ ks, 0 ≤ c ∧ c ≤ 999) ⟨s1, _, ks, none, none, rfl, e1, ?_, by omega, ?_⟩ (fun i σ H' _ h => Ow.SqT.sm sg h.1) ?_ ?_⟩
    · have e : (fun c => look f c + n * look (g.take 0) c) = look f := by
        funext c
        show look f c + n * 0 = look f c
        omega
      rw [e]
      exact hI
    · intro c hc
      obtain ⟨x, hx, e⟩ := List.mem_map.mp ((hk c).mp hc)
      rw [← e]
      exact cf x hx
    · rintro i v σ H2 H3 hi ⟨s2, kvs, ks, o5, o6, rfl, e2, hI, hl, hc⟩ ⟨rfl, hv⟩
      rw [List.getElem?_map] at hv
      obtain ⟨t, ht, rfl⟩ := Option.map_eq_some_iff.mp hv
      obtain ⟨x, hx⟩ : ∃ x, g[i]? = some x := ⟨_, List.getElem?_eq_getElem (show i < g.length by omega)⟩
      obtain ⟨t', ht', hp⟩ := paired_at qg i hx
      rw [ht] at ht'
      cases ht'
      have hp := hp.sm s2
      have cx := cg x (List.mem_of_getElem? hx)
      refine ⟨t, _, rfl, hp, rfl, _, _, rfl, _, _, rfl, rfl, ?_⟩
      refine ⟨_, rfl, d, rfl, .inl ⟨_, .inl e2⟩, _, rfl, _, DGet.k (k := .inl x.1) e2, _, rfl, _, rfl, _, _, rfl, rfl, .inl hn, _, _, get_val hI x.1, rfl, ?_⟩
      obtain ⟨ks', hI', hl', hk'⟩ := hI.put x.1 (look f x.1 + n * look (g.take i) x.1 + n * x.2)
      refine ⟨_, rfl, _, rfl, d, _, rfl, DPut.k (k := .inl x.1) e2 (by rw [hI.len]; exact Evl.sz_lt (by omega)), fun b o e => ?_, _, ks', _, _, rfl, upd_same, ?_, by omega, ?_⟩
      · rw [upd_ne (ne_of_none e hp_d)]
        exact s2 _ _ e
      · have e : (fun c => look f c + n * look (g.take (i + 1)) c) = fun c => if c = x.1 then look f x.1 + n * look (g.take i) x.1 + n * x.2 else look f c + n * look (g.take i) c := by
          funext c
          rw [look_take rg hx]
          by_cases z : c = x.1
          · rw [if_pos z, if_pos z, z, Int.mul_add]
            omega
          · rw [if_neg z, if_neg z, Int.add_zero]
        rw [e]
        exact hI'
      · intro c hc'
        rcases (hk' c).mp hc' with z | z
        · exact hc c z
        · rw [z]
          exact cx
    · rintro σ H2 ⟨s2, kvs, ks, o5, o6, rfl, e2, hI, hl, hc⟩
      rw [lq, List.take_length] at hI
      refine ⟨_, rfl, _, rfl, p, d, kvs, ks, _, rfl, p0, e2, hI, by omega, hc, q.mono s2 (by omega)⟩
end

end Eqr
namespace Eqr
open PySem PySem.Spec L2
/-! ### forms: the other functions -/
theorem rise_map {f : Fm} {n : Int} (h : Rise f) : Rise (f.map fun x => (x.1, x.2 * n)) := by
  unfold Rise
  rw [List.pairwise_map]
  exact h
theorem look_map {f : Fm} {n c : Int} : look (f.map fun x => (x.1, x.2 * n)) c = look f c * n := by
  induction f with
  | nil => exact (Int.zero_mul n).symm
  | cons x f ih =>
    have e1 : look ((x :: f).map fun x => (x.1, x.2 * n)) c = if x.1 = c then x.2 * n else look (f.map fun x => (x.1, x.2 * n)) c := rfl
    have e2 : look (x :: f) c = if x.1 = c then x.2 else look f c := rfl
    rw [e1, e2, ih]
    split <;> rfl
section
variable {P : Program} {w : World} {K : PySem.W.Frag} {mg : Str → Option Value} {base : Heap}
def sp_so_many (K : PySem.W.Frag) : Sp := fun vs H Q _ => ∃ p vf f n, vs = [.int p, vf, .int n] ∧ 0 < p ∧ FmT K H vf f ∧ Rise f ∧ Cells f ∧ (-(2 ^ 64) < n ∧ n < 2 ^ 64) ∧ f.length < 64 ∧ Made K p (fun c => look f c * n) f.length H Q
theorem D_so_many (T : Tx K mg) : Ow.Df P w K mg base CX0 2 "so_many" s_so_many ["prime", "form", "number"] (sp_so_many K) := by
  refine Ow.df_of T.f_so_many sc_so_many bd_so_many (fun vs H Q E h => ?_) (fun cdv A outer s H vs Q E f hG hR h => ?_)
  · obtain ⟨_, _, _, _, rfl, _⟩ := h
    rfl
  · obtain ⟨p, vf, f, n, rfl, p0, hf, rf, cf, hn, h64, q⟩ := h
    have hu := hR.units
    have hu1 := hu_of hR
    refine ⟨_, (pss_one (ps_ret (Ow.pe_d (D_of_dict T) hR (by decide) hG pass0 (by rfl) (pa_cons (pv 0) (pa_cons (pe_callTy (call_dictP rfl) (by rfl) T.b_dict (by decide +kernel) (pa_cons (pe_lc (own := [("cell", 3), ("one", 4)]) (g := gTup K 2 (gCons (gName 3) (gCons (gName 4) gNil))) rfl sc_so_many.nd (pi_tup (pv 1)) (blkOk_by (N := ["prime", "form", "number", "cell", "one"]) (sc := defScope s_so_many) (by decide +kernel)) (fun _ _ _ _ _ => pg_tup rfl (pgs_cons (pg_name (i := 3) sc_so_many.nd rfl (Or.inl rfl)) (pgs_cons (pg_name (i := 4) sc_so_many.nd rfl (Or.inl rfl)) pgs_nil))) (fun _ _ _ _ _ => pts_nil) (fun _ _ _ _ _ => (Ow.pe_tupF (pa_cons (pv 3) (pa_cons (pe_op op_mul (pv 4) (pv 2)) pa_nil))))) pa_nil)) pa_nil))))), ?_⟩
    obtain ⟨a, ps, rfl, sf, qf⟩ := hf
    have lp : (ps.map V.ref).length = f.length := by rw [List.length_map, paired_len qf]
    refine ⟨_, rfl, _, rfl, a, rfl, ⟨_, sf⟩, fun D hD => ?_⟩
    refine comp_it (walk_tup (K := K) (a := a) (xs := ps.map V.ref)) (fun i acc Hh => ∃ qs, acc = qs.map V.ref ∧ Paired (PrT K Hh) qs ((f.map fun x => (x.1, x.2 * n)).take i)) (Fair.same hD) hD (by omega) ⟨[], rfl, .nil⟩ (fun H' s => Ow.SqT.sm sf s) ?_ ?_
    · rintro i v acc H2 H3 Nx hi hl s2 eD ⟨qs, rfl, hqs⟩ ⟨rfl, hv⟩ hyes hno
      rw [List.getElem?_map] at hv
      obtain ⟨t, ht, rfl⟩ := Option.map_eq_some_iff.mp hv
      obtain ⟨x, hx⟩ : ∃ x, f[i]? = some x := ⟨_, List.getElem?_eq_getElem (show i < f.length by omega)⟩
      obtain ⟨t', ht', hp⟩ := paired_at qf i hx
      rw [ht] at ht'
      cases ht'
      refine ⟨t, _, rfl, hp.sm s2, rfl, _, _, rfl, _, _, rfl, rfl, rfl, iteT (B := Nx H3) ?_⟩
      refine ⟨_, rfl, _, rfl, _, rfl, _, _, rfl, rfl, .inr hn, (by show 2 ≤ sizeLine; decide), ?_⟩
      intro u ob_u hob_u hp_u
      generalize hx_u : upd _ u _ = H4
      obtain ⟨s4, e4⟩ := fresh_of hp_u hx_u
      clear hx_u
      refine hyes _ H4 (s2.trans s4) (s4 _ _ eD) ⟨qs ++ [u], by rw [List.map_append]; rfl, ?_⟩
      rw [List.take_succ, List.getElem?_map, hx]
      exact paired_app (paired_map hqs fun _ _ w => w.sm (hid_mono s4)) (.cons (.inl (.inr ⟨ob_u, hid_of (s4 _ _ eD) e4 fun _ w => by cases w⟩)) .nil)
    · rintro acc H2 hl s2 eD ⟨qs, rfl, hqs⟩
      rw [lp, List.take_of_length_le (by rw [List.length_map]; omega)] at hqs
      refine ⟨D, qs, prs (f.map fun x => (x.1, x.2 * n)), rfl, .of eD, prs_kv (paired_map hqs fun _ _ w => w.sm hid_sm), ?_⟩
      intro d hp_d
      generalize hx_d : upd _ d _ = H3
      obtain ⟨s3, e3⟩ := fresh_of hp_d hx_d
      clear hx_d
      obtain ⟨ks, hI, hl2, hk⟩ := dict_of (rise_map (n := n) rf)
      rw [List.length_map] at hl2
      have e : look (f.map fun x => (x.1, x.2 * n)) = fun c => look f c * n := by
        funext c
        exact look_map
      rw [e] at hI
      refine ⟨p, d, _, ks, _, rfl, p0, e3, hI, by omega, fun c hc => ?_, q.mono (s2.trans s3) hl2⟩
      have := (hk c).mp hc
      rw [List.map_map] at this
      obtain ⟨x, hx, e⟩ := List.mem_map.mp this
      have := cf x hx
      rw [← e]
      exact this
def sp_number_at (K : PySem.W.Frag) : Sp := fun vs H Q _ => ∃ vf f c, vs = [vf, .int c] ∧ FmF K H vf f ∧ Rise f ∧ ∀ H', Same H H' → Q (.int (look f c)) H'
theorem D_number_at (T : Tx K mg) : Ow.Df P w K mg base CX0 1 "number_at" s_number_at ["form", "cell"] (sp_number_at K) := by
  refine Ow.df_of T.f_number_at sc_number_at bd_number_at (fun vs H Q E h => ?_) (fun cdv A outer s H vs Q E f hG hR h => ?_)
  · obtain ⟨_, _, _, rfl, _⟩ := h
    rfl
  · obtain ⟨vf, f, c, rfl, hf, rf, q⟩ := h
    have hu := hR.units
    have hu1 := hu_of hR
    refine ⟨_, (pss_one (ps_ret (pe_dget2 hu1 (pe_callTy (Ow.call_dictF rfl) (by rfl) T.b_dict (by decide +kernel) (pa_cons (pv 0) pa_nil)) (pv 1) pe_int ⟨rfl, rfl, rfl, rfl⟩))), ?_⟩
    obtain ⟨a, ps, rfl, sf, qf⟩ := hf
    refine ⟨_, rfl, a, ps, prs f, rfl, sf, prs_kv qf, ?_⟩
    intro d hp_d
    generalize hx_d : upd _ d _ = H1
    obtain ⟨s1, e1⟩ := fresh_of hp_d hx_d
    clear hx_d
    obtain ⟨ks, hI, hl, hk⟩ := dict_of rf
    refine ⟨d, rfl, .inl ⟨_, .inl e1⟩, _, rfl, _, DGet.k (k := .inl c) e1, ?_⟩
    rw [get_val hI c]
    exact q H1 s1
/-- a row on the heap, a list or a tuple of whole numbers -/
def RwS (K : PySem.W.Frag) (H : Hp) (v : V) (ns : List Int) : Prop := ∃ a, v = .ref a ∧ (SqL K H a (ns.map V.int) ∨ SqT K H a (ns.map V.int))
theorem RwS.sm {H H' : Hp} {v : V} {ns : List Int} (h : RwS K H v ns) (s : Same H H') : RwS K H' v ns := by
  obtain ⟨a, e, x⟩ := h
  exact ⟨a, e, x.imp (fun z => Ow.SqL.sm z s) fun z => Ow.SqT.sm z s⟩
def rowF (ns : List Int) (c : Int) : Int := ns.getD c.toNat 0
theorem rowF_at {ns : List Int} {c : Int} (c0 : 0 ≤ c) (c1 : c < ns.length) : atI (ns.map V.int) c = some (.int (rowF ns c)) := by
  refine at_of (j := c.toNat) (by omega) ?_
  rw [List.getElem?_map, List.getElem?_eq_getElem (by omega)]
  unfold rowF
  rw [List.getD_eq_getElem?_getD, List.getElem?_eq_getElem (by omega)]
  rfl
def Below (n : Nat) (f : Fm) : Prop := ∀ x ∈ f, 0 ≤ x.1 ∧ x.1 < n
theorem ints_of {K : PySem.W.Frag} {H : Hp} : ∀ {ns : List Int}, DpAll K H (ns.map V.int) (ns.map PyData.int)
  | [] => .nil
  | n :: _ => .cons (.int n) ints_of
def sp_value_of_form (K : PySem.W.Frag) : Sp := fun vs H Q _ => ∃ p vf vr f ns, vs = [.int p, vf, vr] ∧ 0 < p ∧ FmT K H vf f ∧ RwS K H vr ns ∧ Below ns.length f ∧ f.length < 1000 ∧ (∀ x ∈ f, 0 ≤ x.2 ∧ x.2 ≤ 10000) ∧ ∀ H', Same H H' → Q (.int (valF f (rowF ns) % p)) H'
theorem D_value_of_form (T : Tx K mg) : Ow.Df P w K mg base CX0 1 "value_of_form" s_value_of_form ["prime", "form", "row"] (sp_value_of_form K) := by
  refine Ow.df_of T.f_value_of_form sc_value_of_form bd_value_of_form (fun vs H Q E h => ?_) (fun cdv A outer s H vs Q E f hG hR h => ?_)
  · obtain ⟨_, _, _, _, _, rfl, _⟩ := h
    rfl
  · obtain ⟨p, vf, vr, f, ns, rfl, p0, hf, hr, bf, hl, hs, q⟩ := h
    have hu := hR.units
    have hu1 := hu_of hR
    refine ⟨_, (pss_one (ps_ret (pe_op op_mod (pe_callB (cr_sum rfl) (by rfl) T.b_sum (by decide +kernel) (pa_cons (pe_lc (own := [("cell", 3), ("one", 4)]) (g := gTup K 2 (gCons (gName 3) (gCons (gName 4) gNil))) rfl sc_value_of_form.nd (pi_tup (pv 1)) (blkOk_by (N := ["prime", "form", "row", "cell", "one"]) (sc := defScope s_value_of_form) (by decide +kernel)) (fun _ _ _ _ _ => pg_tup rfl (pgs_cons (pg_name (i := 3) sc_value_of_form.nd rfl (Or.inl rfl)) (pgs_cons (pg_name (i := 4) sc_value_of_form.nd rfl (Or.inl rfl)) pgs_nil))) (fun _ _ _ _ _ => pts_nil) (fun _ _ _ _ _ => (pe_op op_mul (pv 4) (pe_ix (Ow.ixSK K rfl) (pv 2) (pv 3) (fun _ _ => rfl))))) pa_nil)) (pv 0)))), ?_⟩
    obtain ⟨a, ps, rfl, sf, qf⟩ := hf
    obtain ⟨b, rfl, hr⟩ := hr
    have lp : (ps.map V.ref).length = f.length := by rw [List.length_map, paired_len qf]
    refine ⟨_, rfl, a, rfl, ⟨_, sf⟩, fun D hD => ?_⟩
    refine comp_it (walk_tup (K := K) (a := a) (xs := ps.map V.ref)) (fun i acc Hh => acc = ((f.take i).map fun x => x.2 * rowF ns x.1).map V.int) (Fair.same hD) hD (by omega) rfl (fun H' s => Ow.SqT.sm sf s) ?_ ?_
    · rintro i v acc H2 H3 Nx hi hl s2 eD rfl ⟨rfl, hv⟩ hyes hno
      rw [List.getElem?_map] at hv
      obtain ⟨t, ht, rfl⟩ := Option.map_eq_some_iff.mp hv
      obtain ⟨x, hx⟩ : ∃ x, f[i]? = some x := ⟨_, List.getElem?_eq_getElem (show i < f.length by omega)⟩
      obtain ⟨t', ht', hp⟩ := paired_at qf i hx
      rw [ht] at ht'
      cases ht'
      have bx := bf x (List.mem_of_getElem? hx)
      have sx := hs x (List.mem_of_getElem? hx)
      refine ⟨t, _, rfl, hp.sm s2, rfl, _, _, rfl, _, _, rfl, rfl, rfl, iteT (B := Nx H3) ?_⟩
      have fin := hyes (.int (x.2 * rowF ns x.1)) H3 s2 eD (by rw [List.take_succ, hx]; simp)
      refine ⟨_, rfl, _, rfl, _, rfl, ?_⟩
      rcases hr with hr | hr
      · exact .inl ⟨b, _, x.1, _, rfl, rfl, Ow.SqL.sm hr s2, rowF_at bx.1 bx.2, _, _, rfl, rfl, .inl ⟨by omega, by omega⟩, fin⟩
      · exact .inr (.inl ⟨b, _, x.1, _, rfl, rfl, Ow.SqT.sm hr s2, rowF_at bx.1 bx.2, _, _, rfl, rfl, .inl ⟨by omega, by omega⟩, fin⟩)
    · rintro acc H2 hl2 s2 eD rfl
      rw [lp, List.take_length] at eD
      exact ⟨D, _, rfl, .of eD, _, rfl, _, _, rfl, rfl, p0, q H2 s2⟩
/-- the cell of the last part, if it is not the first cell -/
def leadV (f : Fm) : V := match f.getLast? with
  | none => .non
  | some x => if 0 < x.1 then .int x.1 else .non
def sp_lead_by (K : PySem.W.Frag) : Sp := fun vs H Q _ => ∃ vf f, vs = [vf] ∧ FmT K H vf f ∧ f.length < 1000 ∧ SeqAt.shaped (fmD f) = true ∧ ∀ H', Same H H' → Q (leadV f) H'
end

end Eqr
namespace Eqr
open PySem PySem.Spec L2
/-! ### forms: leads, what is put in, sums with weights, judges -/
theorem atI_lst {α : Type} {xs : List α} {v : α} (h : xs.getLast? = some v) : atI xs (-1) = some v := by
  have hn : xs ≠ [] := fun e => by rw [e] at h; cases h
  have h0 : 0 < xs.length := List.length_pos_iff.mpr hn
  unfold atI ixN
  rw [if_neg (by omega)]
  first
    | rw [if_pos (by omega)]
    | skip
  rw [List.getLast?_eq_getElem?] at h
  have e : ((-1 : Int) + (xs.length : Int)).toNat = xs.length - 1 := by omega
  simp only [Option.bind_some, e]
  exact h
theorem fmD_shows {p : Int} {f : Fm} {n : Nat} (h : Fok p f) (hp : p ≤ 10000) (hn : f.length ≤ n) : Ow.Shows 2 (n * 3) (fmD f) := by
  have hp1 : ∀ x ∈ f, Ow.Shows 1 2 (prD x) := fun x hx => by
    have := h.ok x hx
    exact (Ow.Shows.tuple ((Ow.ShowsAll.cons (Ow.Shows.int (by omega) (by omega)) (Ow.ShowsAll.cons (Ow.Shows.int (by omega) (by omega)) Ow.ShowsAll.nil))))
  have : Ow.ShowsAll 1 ((f.map prD).length * (2 + 1)) (f.map prD) := Ow.ShowsAll.of fun d hd => by
    obtain ⟨x, hx, rfl⟩ := List.mem_map.mp hd
    exact hp1 x hx
  rw [List.length_map] at this
  exact (Ow.Shows.tuple this).mono (Nat.le_refl _) (Nat.mul_le_mul_right 3 hn)
theorem nilT_shows : Ow.Shows 1 0 (.tuple []) := Ow.Shows.tuple Ow.ShowsAll.nil
section
variable {P : Program} {w : World} {K : PySem.W.Frag} {mg : Str → Option Value} {base : Heap}
theorem last_pr {H : Hp} : ∀ {ps : List Addr} {f : Fm} {x : Int × Int}, Paired (PrT K H) ps f → f.getLast? = some x → ∃ t, (ps.map V.ref).getLast? = some (.ref t) ∧ PrT K H t x := by
  intro ps f x h e
  rw [List.getLast?_eq_getElem?] at e
  obtain ⟨t, ht, hp⟩ := paired_at h _ e
  refine ⟨t, ?_, hp⟩
  rw [List.getLast?_eq_getElem?, List.length_map, paired_len h, List.getElem?_map, ht]
  rfl
theorem D_lead_by (T : Tx K mg) : Ow.Df P w K mg base CX0 1 "lead_by" s_lead_by ["form"] (sp_lead_by K) := by
  refine Ow.df_of T.f_lead_by sc_lead_by bd_lead_by (fun vs H Q E h => ?_) (fun cdv A outer s H vs Q E f hG hR h => ?_)
  · obtain ⟨_, _, rfl, _⟩ := h
    rfl
  · obtain ⟨vf, f, rfl, hf, hl, hs, q⟩ := h
    have hu := hR.units
    have hu1 := hu_of hR
    refine ⟨_, (pss_one (ps_ret (pe_ifExp (PW.pt (pw_and (pt_cmpR (op_neD hu) (pv 0) (Ow.pe_tupF pa_nil) (nomark _)) (pw_and1 (pt_cmpR op_gt (pe_ix ix_tup (pe_ix ix_tup (pv 0) (pe_un un_neg pe_int) (fun _ _ => rfl)) pe_int (fun _ _ => rfl)) pe_int (nomark _))))) (pe_ix ix_tup (pe_ix ix_tup (pv 0) (pe_un un_neg pe_int) (fun _ _ => rfl)) pe_int (fun _ _ => rfl)) pe_non))), ?_⟩
    obtain ⟨a, ps, rfl, sf, qf⟩ := id hf
    refine ⟨_, rfl, Nat.zero_le _, ?_⟩
    intro t0 ob_t0 hob_t0 hp_t0
    generalize hx_t0 : upd _ t0 _ = H1
    obtain ⟨s1, e1⟩ := fresh_of hp_t0 hx_t0
    clear hx_t0
    refine ⟨fmD f, .tuple [], (hf.sm s1).dp, .tup (.inl (.inr ⟨_, e1⟩)) .nil, hs, nilT_shows.shaped (by decide), _, rfl, ?_⟩
    cases f with
    | nil => exact iteF (q H1 s1)
    | cons x r =>
      refine iteT ?_
      obtain ⟨y, hy⟩ : ∃ y, (x :: r).getLast? = some y := by
        cases h : (x :: r).getLast? with
        | none => simp at h
        | some y => exact ⟨y, rfl⟩
      obtain ⟨t, ht, hp⟩ := last_pr qf hy
      have e : leadV (x :: r) = if 0 < y.1 then .int y.1 else .non := by
        unfold leadV
        rw [hy]
      rw [e] at q
      have g1 := atI_lst ht
      refine ⟨_, rfl, _, rfl, a, _, -1, _, rfl, rfl, Ow.SqT.sm sf s1, g1, t, _, 0, _, rfl, rfl, hp.sm s1, at_of (j := 0) rfl rfl, _, _, rfl, rfl, _, rfl, ite2 (fun z => ?_) (fun z => ?_)⟩
      · have z : 0 < y.1 := of_decide_eq_true z
        rw [if_pos z] at q
        exact ⟨_, rfl, _, rfl, a, _, -1, _, rfl, rfl, Ow.SqT.sm sf s1, g1, t, _, 0, _, rfl, rfl, hp.sm s1, at_of (j := 0) rfl rfl, q H1 s1⟩
      · have z : ¬ 0 < y.1 := fun w => z (decide_eq_true w)
        rw [if_neg z] at q
        exact q H1 s1
/-- the form without that cell -/
def bare (f : Fm) (c : Int) : Fm := f.filter fun x => decide (x.1 ≠ c)
theorem bare_rise {f : Fm} {c : Int} (h : Rise f) : Rise (bare f c) := h.filter _
theorem look_bare {f : Fm} (h : Rise f) (c d : Int) : look (bare f c) d = if d = c then 0 else look f d := by
  by_cases e : d = c
  · rw [if_pos e, look_out]
    intro x hx
    have := (List.mem_filter.mp hx).2
    have := of_decide_eq_true this
    rw [e]
    exact this
  · rw [if_neg e]
    by_cases z : ∃ x ∈ bare f c, x.1 = d
    · obtain ⟨x, hx, ex⟩ := z
      rw [← ex, look_mem (bare_rise h) hx, look_mem h (List.mem_filter.mp hx).1]
    · rw [look_out fun x hx ex => z ⟨x, hx, ex⟩]
      by_cases y : look f d = 0
      · exact y.symm
      · exact absurd ⟨_, List.mem_filter.mpr ⟨look_in y, decide_eq_true e⟩, rfl⟩ z
theorem bare_app (f g : Fm) (c : Int) : bare (f ++ g) c = bare f c ++ bare g c := List.filter_append ..
theorem bare_one (x : Int × Int) (c : Int) : bare [x] c = if x.1 ≠ c then [x] else [] := by
  unfold bare
  by_cases e : x.1 = c
  · simp [e]
  · simp [e]
theorem bare_len (f : Fm) (c : Int) : (bare f c).length ≤ f.length := List.length_filter_le _ _
theorem bare_ok {p : Int} {f : Fm} {c : Int} (h : Fok p f) : Fok p (bare f c) := ⟨bare_rise h.up, fun x hx => h.ok x (List.mem_filter.mp hx).1⟩
def sp_put_by (K : PySem.W.Frag) : Sp := fun vs H Q _ => ∃ p vf vg f g c, vs = [.int p, vf, .int c, vg] ∧ 0 < p ∧ p ≤ 10000 ∧ FmF K H vf f ∧ FmT K H vg g ∧ Fok p f ∧ Rise g ∧ Cells g ∧ f.length + g.length < 64 ∧
  Made K p (fun d => look (bare f c) d + look f c * look g d) (f.length + g.length) H Q
/-- the list of a form's parts but those of one cell -/
theorem bare_step {f : Fm} {c : Int} {i : Nat} {x : Int × Int} (h : f[i]? = some x) : bare (f.take (i + 1)) c = bare (f.take i) c ++ bare [x] c := by
  rw [List.take_succ, h, bare_app]
  rfl
theorem D_put_by (T : Tx K mg) : Ow.Df P w K mg base CX0 3 "put_by" s_put_by ["prime", "form", "cell", "other"] (sp_put_by K) := by
  refine Ow.df_of T.f_put_by sc_put_by bd_put_by (fun vs H Q E h => ?_) (fun cdv A outer s H vs Q E f hG hR h => ?_)
  · obtain ⟨_, _, _, _, _, _, rfl, _⟩ := h
    rfl
  · obtain ⟨p, vf, vg, f, g, c, rfl, p0, p1, hf, hg, fo, rg, cg, h64, q⟩ := h
    have hu := hR.units
    have hu1 := hu_of hR
    refine ⟨_, (pss_cons (ps_set (i := 4) sc_put_by.nd rfl (Or.inl rfl) (pe_callTy Ow.call_tupleF (by rfl) T.b_tuple (by decide +kernel) (pa_cons (pe_lc (own := [("one", 5)]) (g := gName 5) rfl sc_put_by.nd (pi_tup (pv 1)) (blkOk_by (N := ["prime", "form", "cell", "other", "bare", "one"]) (sc := defScope s_put_by) (by decide +kernel)) (fun _ _ _ _ _ => pg_name (i := 5) sc_put_by.nd rfl (Or.inl rfl)) (fun _ _ _ _ _ => pts_one (pt_cmpR op_ne (pe_ix (Ow.ixTK K rfl) (pv 5) pe_int (fun _ _ => rfl)) (pv 2) (nomark _))) (fun _ _ _ _ _ => (pv 5))) pa_nil)))
      (pss_one (ps_ret (Ow.pe_d (D_sum_with T) hR (by decide) hG pass0 (by rfl) (pa_cons (pv 0) (pa_cons (pv 4) (pa_cons (pv 3) (pa_cons (Ow.pe_d (D_number_at T) hR (by decide) hG pass0 (by rfl) (pa_cons (pv 1) (pa_cons (pv 2) pa_nil))) pa_nil)))))))), ?_⟩
    obtain ⟨a, ps, rfl, sf, qf⟩ := id hf
    have lp : (ps.map V.ref).length = f.length := by rw [List.length_map, paired_len qf]
    refine ⟨_, rfl, a, rfl, ⟨_, sf.t⟩, fun D hD => ?_⟩
    refine comp_it (walk_tup (K := K) (a := a) (xs := ps.map V.ref)) (fun i acc Hh => ∃ qs, acc = qs.map V.ref ∧ Paired (PrT K Hh) qs (bare (f.take i) c)) (Fair.same hD) hD (by omega) ⟨[], rfl, .nil⟩ (fun H' s => Ow.SqT.sm sf.t s) ?_ ?_
    · rintro i v acc H2 H3 Nx hi hl s2 eD ⟨qs, rfl, hqs⟩ ⟨rfl, hv⟩ hyes hno
      rw [List.getElem?_map] at hv
      obtain ⟨t, ht, rfl⟩ := Option.map_eq_some_iff.mp hv
      obtain ⟨x, hx⟩ : ∃ x, f[i]? = some x := ⟨_, List.getElem?_eq_getElem (show i < f.length by omega)⟩
      obtain ⟨t', ht', hp⟩ := paired_at qf i hx
      rw [ht] at ht'
      cases ht'
      refine ⟨rfl, _, rfl, t, _, 0, _, rfl, rfl, hp.sm s2, at_of (j := 0) rfl rfl, _, rfl, rfl, _, rfl, iteN2 (fun z => ?_) (fun z => ?_)⟩
      · have z : x.1 ≠ c := fun e => z (congrArg V.int e)
        refine ⟨_, rfl, hyes _ H3 s2 eD ⟨qs ++ [t], by rw [List.map_append]; rfl, ?_⟩⟩
        rw [bare_step hx, bare_one, if_pos z]
        exact paired_app hqs (.cons (hp.sm (same_hid hD s2)) .nil)
      · have z : x.1 = c := V.int.inj z
        refine hno _ s2 eD ⟨qs, rfl, ?_⟩
        rw [bare_step hx, bare_one, if_neg (fun w => w z), List.append_nil]
        exact hqs
    · rintro acc H2 hl s2 eD ⟨qs, rfl, hqs⟩
      rw [lp, List.take_length] at hqs
      refine ⟨D, _, rfl, .inl ⟨.of eD, ?_⟩⟩
      intro b ob_b hob_b hp_b
      generalize hx_b : upd _ b _ = H3
      obtain ⟨s3, e3⟩ := fresh_of hp_b hx_b
      clear hx_b
      have st := s2.trans s3
      have hb : FmF K H3 (.ref b) (bare f c) := ⟨b, qs, rfl, ⟨ob_b, hob_b, e3⟩, paired_map hqs fun _ _ w => w.sm (hid_sm.trans s3)⟩
      have bl := bare_len f c
      have cl : 0 ≤ look f c ∧ look f c ≤ 10000 := by
        by_cases z : look f c = 0
        · omega
        · have := fo.ok _ (look_in z)
          have e1 : (c, look f c).2 = look f c := rfl
          omega
      refine ⟨_, rfl, _, rfl, _, rfl, _, rfl, _, rfl, .ref a, f, c, rfl, hf.sm st, fo.up, fun H4 s4 => ?_⟩
      exact ⟨p, .ref b, vg, bare f c, g, look f c, rfl, p0, hb.sm s4, hg.sm (st.trans s4), bare_rise fo.up, rg, (bare_ok fo).cells, cg, ⟨by omega, by omega⟩, by omega, q.mono (st.trans s4) (by omega)⟩
end

end Eqr
namespace Eqr
open PySem PySem.Spec L2
/-! ### forms: judges of any value, sums with weights -/
def partD (p : Int) : PyData → Bool
  | .tuple [a, b] => withinD a 0 999 && withinD b 1 (p - 1)
  | _ => false
def cellD : PyData → Int
  | .tuple [.int c, _] => c
  | _ => 0
def riseB (ds : List PyData) : Bool := (ds.zip (ds.drop 1)).all fun x => decide (cellD x.1 < cellD x.2)
def formD (p : Int) : PyData → Bool
  | .tuple ds => ds.all (partD p) && riseB ds
  | _ => false
theorem partD_pr {p : Int} {x : Int × Int} (h : 0 ≤ x.1 ∧ x.1 ≤ 999 ∧ 1 ≤ x.2 ∧ x.2 ≤ p - 1) : partD p (prD x) = true := by
  have e : partD p (prD x) = ((decide (0 ≤ x.1) && decide (x.1 ≤ 999)) && (decide (1 ≤ x.2) && decide (x.2 ≤ p - 1))) := rfl
  rw [e, decide_eq_true h.1, decide_eq_true h.2.1, decide_eq_true h.2.2.1, decide_eq_true h.2.2.2]
  rfl
theorem riseB_fm {f : Fm} (h : Rise f) : riseB (f.map prD) = true := by
  unfold riseB
  rw [List.all_eq_true]
  intro x hx
  obtain ⟨i, hi, e⟩ := List.mem_iff_getElem.mp hx
  rw [List.getElem_zip] at e
  rw [List.length_zip, List.length_drop, List.length_map] at hi
  rw [← e]
  refine decide_eq_true ?_
  have e1 : (f.map prD)[i]'(by rw [List.length_map]; omega) = prD (f[i]'(by omega)) := List.getElem_map ..
  have e2 : ((f.map prD).drop 1)[i]'(by rw [List.length_drop, List.length_map]; omega) = prD (f[1 + i]'(by omega)) := by
    rw [List.getElem_drop, List.getElem_map]
  show cellD ((f.map prD)[i]'_) < cellD (((f.map prD).drop 1)[i]'_)
  rw [e1, e2]
  exact List.pairwise_iff_getElem.mp h i (1 + i) (by omega) (by omega) (by omega)
theorem formD_fm {p : Int} {f : Fm} (h : Fok p f) : formD p (fmD f) = true := by
  have e : formD p (fmD f) = ((f.map prD).all (partD p) && riseB (f.map prD)) := rfl
  rw [e, riseB_fm h.up, Bool.and_true, List.all_eq_true]
  intro d hd
  obtain ⟨x, hx, rfl⟩ := List.mem_map.mp hd
  exact partD_pr (h.ok x hx)
theorem cut1 (xs : List V) : cutV xs (some 1) none = xs.drop 1 := by
  unfold cutV
  have e1 : HT.sIx xs.length 0 (some 1) = min 1 xs.length := HT.sIx_nat xs.length 0 1
  rw [e1, HT.sIx_none]
  have e2 : xs.drop (min 1 xs.length) = xs.drop 1 := by
    cases xs with
    | nil => rfl
    | cons x xs => simp
  rw [e2, List.take_of_length_le]
  rw [List.length_drop]
  omega
theorem part_is {p : Int} {d : PyData} (h : partD p d = true) : ∃ c n, d = .tuple [.int c, .int n] ∧ 0 ≤ c ∧ c ≤ 999 ∧ 1 ≤ n ∧ n ≤ p - 1 := by
  unfold partD at h
  split at h
  · rename_i a b
    rw [Bool.and_eq_true] at h
    obtain ⟨h1, h2⟩ := h
    unfold withinD at h1 h2
    split at h1
    · split at h2
      · simp only [Bool.and_eq_true, decide_eq_true_eq] at h1 h2
        exact ⟨_, _, rfl, h1.1, h1.2, h2.1, h2.2⟩
      · cases h2
    · cases h1
  · cases h
theorem pair_dq {K : PySem.W.Frag} {H : Hp} {v : V} {c n : Int} (h : Ow.Dq K H v (.tuple [.int c, .int n])) : ∃ t, v = .ref t ∧ SqT K H t [.int c, .int n] := by
  cases h with
  | tup h t =>
    cases t with
    | cons h1 t =>
      cases t with
      | cons h2 t =>
        cases t
        cases h1
        cases h2
        exact ⟨_, rfl, h⟩
theorem partD_no {p : Int} {ds : List PyData} (h : ds.length ≠ 2) : partD p (.tuple ds) = false := by
  rcases ds with _ | ⟨a, _ | ⟨b, _ | ⟨c, r⟩⟩⟩
  · rfl
  · rfl
  · exact absurd rfl h
  · rfl
theorem two_of {K : PySem.W.Frag} {H : Hp} {xs : List V} {ds : List PyData} (t : Ow.DqAll K H xs ds) (h : xs.length = 2) : ∃ v1 v2 d1 d2, xs = [v1, v2] ∧ ds = [d1, d2] ∧ Ow.Dq K H v1 d1 ∧ Ow.Dq K H v2 d2 := by
  cases t with
  | nil => cases h
  | cons h1 t =>
    cases t with
    | nil => cases h
    | cons h2 t =>
      cases t with
      | nil => exact ⟨_, _, _, _, rfl, rfl, h1, h2⟩
      | cons h3 t => simp at h
section
variable {P : Program} {w : World} {K : PySem.W.Frag} {mg : Str → Option Value} {base : Heap}
def sp_is_part (K : PySem.W.Frag) : Sp := fun vs H Q _ => ∃ p v d, vs = [.int p, v] ∧ Ow.Dq K H v d ∧ Q (.bl (partD p d)) H
theorem D_is_part (T : Tx K mg) : Ow.Df P w K mg base CX0 3 "is_part" s_is_part ["prime", "value"] (sp_is_part K) := by
  refine Ow.df_of T.f_is_part sc_is_part bd_is_part (fun vs H Q E h => ?_) (fun cdv A outer s H vs Q E f hG hR h => ?_)
  · obtain ⟨_, _, _, rfl, _⟩ := h
    rfl
  · obtain ⟨p, v, d, rfl, hd, q⟩ := h
    have hu := hR.units
    have hu1 := hu_of hR
    refine ⟨_, (pss_cons (ps_if (PW.pt (pw_or (pt_not (pt_val (pe_callB Ow.call_isiD (by rfl) T.b_isinstance (by decide +kernel) (pa_cons (pv 1) (pa_cons (pe_bltn (v := .ty "tuple") (by rfl) T.b_tuple (by decide +kernel) rfl) pa_nil))))) (pw_or1 (pt_cmpR op_ne (pe_callB call_len_seq (by rfl) T.b_len (by decide +kernel) (pa_cons (pv 1) pa_nil)) pe_int (nomark _)))))
      (pss_one (ps_ret pe_bl))
      pss_nil)
      (pss_one (ps_ret (pe_and (Ow.pe_d (D_is_within T) hR (by decide) hG pass0 (by rfl) (pa_cons (pe_ix ix_tup (pv 1) pe_int (fun _ _ => rfl)) (pa_cons pe_int (pa_cons (Ow.pe_gi rfl T.c_MOST_CELL) pa_nil)))) (pe_one (Ow.pe_d (D_is_within T) hR (by decide) hG pass0 (by rfl) (pa_cons (pe_ix ix_tup (pv 1) pe_int (fun _ _ => rfl)) (pa_cons pe_int (pa_cons (pe_op op_sub (pv 0) pe_int) pa_nil))))))))), ?_⟩
    refine ⟨_, rfl, v, d, "tuple", rfl, k_tup, hd, ?_⟩
    rw [isK_tup]
    refine ⟨_, rfl, ?_⟩
    cases hd with
    | tup h t =>
      refine iteF ⟨_, rfl, _, _, rfl, .inr h, ?_⟩
      have hl := t.length
      rename_i a xs ds
      refine ⟨rfl, _, rfl, iteN2 (fun z => ?_) (fun z => ?_)⟩
      · have z : xs.length ≠ 2 := fun e => z (congrArg V.int (by rw [e]; rfl))
        rw [partD_no (by omega)] at q
        exact q
      · have z := V.int.inj z
        obtain ⟨v1, v2, da, db, rfl, rfl, h1, h2⟩ := two_of t (by omega)
        have e : partD p (.tuple [da, db]) = (withinD da 0 999 && withinD db 1 (p - 1)) := rfl
        rw [e] at q
        refine ⟨_, rfl, a, _, 0, _, rfl, rfl, h, at_of (j := 0) rfl rfl, _, da, 0, 999, rfl, h1, _, rfl, ?_⟩
        cases e1 : withinD da 0 999 with
        | false =>
          rw [e1] at q
          exact iteF q
        | true =>
          rw [e1] at q
          exact iteT ⟨_, rfl, a, _, 1, _, rfl, rfl, h, at_of (j := 1) rfl rfl, _, rfl, _, _, rfl, rfl, _, db, 1, p - 1, rfl, h2, q⟩
    | non => exact iteT q
    | bl b => exact iteT q
    | int i => exact iteT q
    | str x => exact iteT q
    | lst h t => exact iteT q
    | dct h t => exact iteT q
def sp_is_form_of (K : PySem.W.Frag) : Sp := fun vs H Q _ => ∃ p v d, vs = [.int p, v] ∧ Ow.Dq K H v d ∧ (seqD d).length < 1000 ∧ ∀ H', Same H H' → Q (.bl (formD p d)) H'
theorem D_is_form_of (T : Tx K mg) : Ow.Df P w K mg base CX0 4 "is_form_of" s_is_form_of ["prime", "value"] (sp_is_form_of K) := by
  refine Ow.df_of T.f_is_form_of sc_is_form_of bd_is_form_of (fun vs H Q E h => ?_) (fun cdv A outer s H vs Q E f hG hR h => ?_)
  · obtain ⟨_, _, _, rfl, _⟩ := h
    rfl
  · obtain ⟨p, v, d, rfl, hd, hn, q⟩ := h
    have hu := hR.units
    have hu1 := hu_of hR
    refine ⟨_, (pss_cons (ps_if (PW.pt (pw_or (pt_not (pt_val (pe_callB Ow.call_isiD (by rfl) T.b_isinstance (by decide +kernel) (pa_cons (pv 1) (pa_cons (pe_bltn (v := .ty "tuple") (by rfl) T.b_tuple (by decide +kernel) rfl) pa_nil))))) (pw_or1 (pt_not (pt_val (pe_callB (cr_all rfl) (by rfl) T.b_all (by decide +kernel) (pa_cons (pe_lc (own := [("one", 2)]) (g := gName 2) rfl sc_is_form_of.nd (pi_tup (pv 1)) (blkOk_by (N := ["prime", "value", "one", "late"]) (sc := defScope s_is_form_of) (by decide +kernel)) (fun _ _ _ _ _ => pg_name (i := 2) sc_is_form_of.nd rfl (Or.inl rfl)) (fun _ _ _ _ _ => pts_nil) (fun _ _ _ _ _ => (Ow.pe_d (D_is_part T) hR (by decide) hG pass0 (by rfl) (pa_cons (pv 0) (pa_cons (pv 2) pa_nil))))) pa_nil)))))))
      (pss_one (ps_ret pe_bl))
      pss_nil)
      (pss_one (ps_ret (pe_callB (cr_all rfl) (by rfl) T.b_all (by decide +kernel) (pa_cons (pe_lc (own := [("one", 2), ("late", 3)]) (g := gTup K 2 (gCons (gName 2) (gCons (gName 3) gNil))) rfl sc_is_form_of.nd (RZ.pi_zipA (by rfl) T.b_zip (pa_cons (pv 1) (pa_cons (pe_slice Ow.sl_tupQ (pv 1) (po_some pe_int) po_none) pa_nil))) (blkOk_by (N := ["prime", "value", "one", "late"]) (sc := defScope s_is_form_of) (by decide +kernel)) (fun _ _ _ _ _ => pg_tup rfl (pgs_cons (pg_name (i := 2) sc_is_form_of.nd rfl (Or.inl rfl)) (pgs_cons (pg_name (i := 3) sc_is_form_of.nd rfl (Or.inl rfl)) pgs_nil))) (fun _ _ _ _ _ => pts_nil) (fun _ _ _ _ _ => (pe_cmpR op_lt (pe_ix (Ow.ixTK K rfl) (pv 2) pe_int (fun _ _ => rfl)) (pe_ix (Ow.ixTK K rfl) (pv 3) pe_int (fun _ _ => rfl)) (nomark _)))) pa_nil))))), ?_⟩
    refine ⟨_, rfl, v, d, "tuple", rfl, k_tup, hd, ?_⟩
    rw [isK_tup]
    refine ⟨_, rfl, ?_⟩
    cases hd with
    | tup h t =>
      rename_i a xs ds
      have hl := t.length
      have hn : ds.length < 1000 := hn
      refine iteF ⟨_, rfl, a, rfl, ⟨_, h⟩, fun D hD => ?_⟩
      refine comp_it (walk_tup (K := K) (a := a) (xs := xs)) (fun i acc Hh => acc = ((ds.take i).map (partD p)).map V.bl) (Fair.same hD) hD (by omega) rfl (fun H' s => Ow.SqT.sm h s) ?_ ?_
      · rintro i x acc H2 H3 Nx hi hl2 s2 eD rfl ⟨rfl, hx⟩ hyes hno
        obtain ⟨dx, hdx⟩ : ∃ dx, ds[i]? = some dx := ⟨_, List.getElem?_eq_getElem (show i < ds.length by omega)⟩
        obtain ⟨x', hx', hq⟩ := t.at i hdx
        rw [hx] at hx'
        cases hx'
        refine ⟨rfl, iteT (B := Nx H3) ⟨_, rfl, _, rfl, p, x, dx, rfl, hq.sm s2, hyes _ H3 s2 eD ?_⟩⟩
        rw [List.take_succ, hdx]
        simp
      · rintro acc H2 hl2 s2 eD rfl
        rw [hl, List.take_length] at eD
        refine ⟨D, _, rfl, .of eD, _, rfl, ?_⟩
        rw [List.all_map]
        have e : formD p (.tuple ds) = (ds.all (partD p) && riseB ds) := rfl
        rw [e] at q
        cases e1 : ds.all (id ∘ partD p) with
        | false =>
          have e2 : ds.all (partD p) = false := e1
          rw [e2] at q
          exact iteT (q H2 s2)
        | true =>
          have e2 : ds.all (partD p) = true := e1
          rw [e2] at q
          refine iteF ⟨_, rfl, _, rfl, _, rfl, a, _, rfl, Ow.SqT.sm h s2, fun b H3 s3 hb => ?_⟩
          rw [cut1] at hb
          have s23 := s2.trans s3
          refine ⟨a, b, xs, xs.drop 1, rfl, .inr ⟨Ow.SqT.sm h s23, hb, fun D2 hD2 => ?_⟩⟩
          refine comp_it (Ow.walk_zipT (K := K) (a := a) (b := b) (xs := xs) (ys := xs.drop 1) rfl) (fun i acc Hh => acc = (((ds.zip (ds.drop 1)).take i).map fun x => decide (cellD x.1 < cellD x.2)).map V.bl) (Fair.same hD2) hD2 (by rw [List.length_drop]; omega) rfl
            (fun H' s => ⟨Ow.SqT.sm h (s23.trans s), Ow.SqT.sm hb s⟩) ?_ ?_
          · rintro i x acc H4 H5 Nx hi hl3 s4 eD2 rfl ⟨T, v1, v2, rfl, hT, rfl, hx1, hx2⟩ hyes hno
            rw [List.length_drop] at hi
            have hx1 : xs[i]? = some v1 := hx1
            have hx2 : (xs.drop 1)[i]? = some v2 := hx2
            have i1 : i < ds.length := by omega
            have i2 : 1 + i < ds.length := by omega
            obtain ⟨w1, hw1, q1⟩ := t.at i (List.getElem?_eq_getElem i1)
            obtain ⟨w2, hw2, q2⟩ := t.at (1 + i) (List.getElem?_eq_getElem i2)
            rw [hx1] at hw1
            cases hw1
            rw [List.getElem?_drop] at hx2
            rw [hx2] at hw2
            cases hw2
            obtain ⟨c1, n1, ed1, _⟩ := part_is (List.all_eq_true.mp e2 _ (List.getElem_mem i1))
            obtain ⟨c2, n2, ed2, _⟩ := part_is (List.all_eq_true.mp e2 _ (List.getElem_mem i2))
            have es : (ds.zip (ds.drop 1)).take (i + 1) = (ds.zip (ds.drop 1)).take i ++ [(ds[i], ds[1 + i])] := by
              rw [List.take_succ]
              congr 1
              have : i < (ds.zip (ds.drop 1)).length := by
                rw [List.length_zip, List.length_drop]
                omega
              rw [List.getElem?_eq_getElem this, List.getElem_zip, List.getElem_drop]
              rfl
            rw [ed1] at q1
            rw [ed2] at q2
            obtain ⟨t1, rfl, g1⟩ := pair_dq q1
            obtain ⟨t2, rfl, g2⟩ := pair_dq q2
            have st : Same H4 (upd H4 T (.tup [.ref t1, .ref t2])) := same_new hT
            have sa := s23.trans (s4.trans st)
            refine ⟨T, _, rfl, .inl (.inl upd_same), rfl, _, _, rfl, _, _, rfl, rfl, rfl, iteT (B := Nx (upd H4 T (.tup [.ref t1, .ref t2]))) ?_⟩
            refine ⟨_, rfl, t1, _, 0, _, rfl, rfl, Ow.SqT.sm g1 sa, at_of (j := 0) rfl rfl, _, rfl, t2, _, 0, _, rfl, rfl, Ow.SqT.sm g2 sa, at_of (j := 0) rfl rfl, _, _, rfl, rfl, ?_⟩
            refine hyes _ _ (s4.trans st) (st _ _ eD2) ?_
            rw [es, ed1, ed2]
            simp [cellD]
            rfl
          · rintro acc H4 hl3 s4 eD2 rfl
            have e4 : (ds.zip (ds.drop 1)).take (min xs.length (xs.drop 1).length) = ds.zip (ds.drop 1) := by
              rw [List.take_of_length_le]
              rw [List.length_zip, List.length_drop, List.length_drop]
              omega
            rw [e4] at eD2
            refine ⟨D2, _, rfl, .of eD2, ?_⟩
            rw [List.all_map]
            exact q H4 (s23.trans s4)
    | non => exact iteT (q H (Same.refl H))
    | bl b => exact iteT (q H (Same.refl H))
    | int i => exact iteT (q H (Same.refl H))
    | str x => exact iteT (q H (Same.refl H))
    | lst h t => exact iteT (q H (Same.refl H))
    | dct h t => exact iteT (q H (Same.refl H))
def sp_check_form (K : PySem.W.Frag) : Sp := fun vs H Q _ => ∃ p vf f, vs = [.int p, vf] ∧ FmT K H vf f ∧ Fok p f ∧ f.length < 1000 ∧ ∀ H', Same H H' → Q .non H'
theorem fm_q {H : Hp} {v : V} {f : Fm} (h : FmT K H v f) : Ow.Dq K H v (fmD f) := Ow.Dp.q h.dp
theorem D_check_form (T : Tx K mg) : Ow.Df P w K mg base CX0 5 "check_form" s_check_form ["prime", "value"] (sp_check_form K) := by
  refine Ow.df_of T.f_check_form sc_check_form bd_check_form (fun vs H Q E h => ?_) (fun cdv A outer s H vs Q E f hG hR h => ?_)
  · obtain ⟨_, _, _, rfl, _⟩ := h
    rfl
  · obtain ⟨p, vf, f, rfl, hf, fo, hn, q⟩ := h
    have hu := hR.units
    have hu1 := hu_of hR
    refine ⟨_, (pss_one (ps_if (pt_not (pt_val (Ow.pe_d (D_is_form_of T) hR (by decide) hG pass0 (by rfl) (pa_cons (pv 0) (pa_cons (pv 1) pa_nil)))))
      (pss_one ps_never)
      pss_nil)), ?_⟩
    refine ⟨_, rfl, _, rfl, p, vf, fmD f, rfl, fm_q hf, (by show (f.map prD).length < 1000; rw [List.length_map]; exact hn), fun H1 s1 => ?_⟩
    rw [formD_fm fo]
    exact ⟨_, rfl, iteF (q H1 s1)⟩
def sp_check_two (K : PySem.W.Frag) : Sp := fun vs H Q _ => ∃ p vf vg f g, vs = [.int p, vf, vg] ∧ Pr p ∧ FmT K H vf f ∧ FmT K H vg g ∧ Fok p f ∧ Fok p g ∧ f.length < 1000 ∧ g.length < 1000 ∧ ∀ H', Same H H' → Q .non H'
theorem D_check_two (T : Tx K mg) : Ow.Df P w K mg base CX0 6 "check_two" s_check_two ["prime", "form", "against"] (sp_check_two K) := by
  refine Ow.df_of T.f_check_two sc_check_two bd_check_two (fun vs H Q E h => ?_) (fun cdv A outer s H vs Q E f hG hR h => ?_)
  · obtain ⟨_, _, _, _, _, rfl, _⟩ := h
    rfl
  · obtain ⟨p, vf, vg, f, g, rfl, hp, hf, hg, fo, go, ln, lm, q⟩ := h
    have hu := hR.units
    have hu1 := hu_of hR
    refine ⟨_, (pss_cons (ps_expr (Ow.pe_d (D_check_prime T) hR (by decide) hG pass0 (by rfl) (pa_cons (pv 0) pa_nil)))
      (pss_cons (ps_expr (Ow.pe_d (D_check_form T) hR (by decide) hG pass0 (by rfl) (pa_cons (pv 0) (pa_cons (pv 1) pa_nil))))
      (pss_one (ps_expr (Ow.pe_d (D_check_form T) hR (by decide) hG pass0 (by rfl) (pa_cons (pv 0) (pa_cons (pv 2) pa_nil))))))), ?_⟩
    exact ⟨_, rfl, p, rfl, hp, _, rfl, _, rfl, p, vf, f, rfl, hf, fo, ln, fun H1 s1 => ⟨_, rfl, _, rfl, p, vg, g, rfl, hg.sm s1, go, lm, fun H2 s2 => q H2 (s1.trans s2)⟩⟩
def sp_is_form (K : PySem.W.Frag) : Sp := fun vs H Q _ => ∃ p v d, vs = [.int p, v] ∧ Pr p ∧ Ow.Dq K H v d ∧ (seqD d).length < 1000 ∧ ∀ H', Same H H' → Q (.bl (formD p d)) H'
theorem D_is_form (T : Tx K mg) : Ow.Df P w K mg base CX0 5 "is_form" s_is_form ["prime", "value"] (sp_is_form K) := by
  refine Ow.df_of T.f_is_form sc_is_form bd_is_form (fun vs H Q E h => ?_) (fun cdv A outer s H vs Q E f hG hR h => ?_)
  · obtain ⟨_, _, _, rfl, _⟩ := h
    rfl
  · obtain ⟨p, v, d, rfl, hp, hd, hn, q⟩ := h
    have hu := hR.units
    have hu1 := hu_of hR
    refine ⟨_, (pss_cons (ps_expr (Ow.pe_d (D_check_prime T) hR (by decide) hG pass0 (by rfl) (pa_cons (pv 0) pa_nil)))
      (pss_one (ps_ret (Ow.pe_d (D_is_form_of T) hR (by decide) hG pass0 (by rfl) (pa_cons (pv 0) (pa_cons (pv 1) pa_nil)))))), ?_⟩
    exact ⟨_, rfl, p, rfl, hp, _, rfl, _, rfl, p, v, d, rfl, hd, hn, q⟩
def sp_form_two (K : PySem.W.Frag) (n : Int) : Sp := fun vs H Q _ => ∃ p vf vg f g, vs = [.int p, vf, vg] ∧ Pr p ∧ FmF K H vf f ∧ FmT K H vg g ∧ Fok p f ∧ Fok p g ∧ f.length + g.length < 64 ∧ Made K p (fun c => look f c + n * look g c) (f.length + g.length) H Q
theorem D_form_plus (T : Tx K mg) : Ow.Df P w K mg base CX0 7 "form_plus" s_form_plus ["prime", "form", "against"] (sp_form_two K 1) := by
  refine Ow.df_of T.f_form_plus sc_form_plus bd_form_plus (fun vs H Q E h => ?_) (fun cdv A outer s H vs Q E f hG hR h => ?_)
  · obtain ⟨_, _, _, _, _, rfl, _⟩ := h
    rfl
  · obtain ⟨p, vf, vg, f, g, rfl, hp, hf, hg, fo, go, ln, q⟩ := h
    have hu := hR.units
    have hu1 := hu_of hR
    refine ⟨_, (pss_cons (ps_expr (Ow.pe_d (D_check_two T) hR (by decide) hG pass0 (by rfl) (pa_cons (pv 0) (pa_cons (pv 1) (pa_cons (pv 2) pa_nil)))))
      (pss_one (ps_ret (Ow.pe_d (D_sum_with T) hR (by decide) hG pass0 (by rfl) (pa_cons (pv 0) (pa_cons (pv 1) (pa_cons (pv 2) (pa_cons pe_int pa_nil)))))))), ?_⟩
    have lo := hp.lo
    exact ⟨_, rfl, _, rfl, _, rfl, p, vf, vg, f, g, rfl, hp, hf.t, hg, fo, go, by omega, by omega, fun H1 s1 => ⟨_, rfl, _, rfl, _, rfl, p, vf, vg, f, g, 1, rfl, by omega, hf.sm s1, hg.sm s1, fo.up, go.up, fo.cells, go.cells, ⟨by decide, by decide⟩, ln, q.mono s1 (Nat.le_refl _)⟩⟩
theorem D_form_less (T : Tx K mg) : Ow.Df P w K mg base CX0 7 "form_less" s_form_less ["prime", "form", "against"] (sp_form_two K (-1)) := by
  refine Ow.df_of T.f_form_less sc_form_less bd_form_less (fun vs H Q E h => ?_) (fun cdv A outer s H vs Q E f hG hR h => ?_)
  · obtain ⟨_, _, _, _, _, rfl, _⟩ := h
    rfl
  · obtain ⟨p, vf, vg, f, g, rfl, hp, hf, hg, fo, go, ln, q⟩ := h
    have hu := hR.units
    have hu1 := hu_of hR
    refine ⟨_, (pss_cons (ps_expr (Ow.pe_d (D_check_two T) hR (by decide) hG pass0 (by rfl) (pa_cons (pv 0) (pa_cons (pv 1) (pa_cons (pv 2) pa_nil)))))
      (pss_one (ps_ret (Ow.pe_d (D_sum_with T) hR (by decide) hG pass0 (by rfl) (pa_cons (pv 0) (pa_cons (pv 1) (pa_cons (pv 2) (pa_cons (pe_un un_neg pe_int) pa_nil)))))))), ?_⟩
    have lo := hp.lo
    exact ⟨_, rfl, _, rfl, _, rfl, p, vf, vg, f, g, rfl, hp, hf.t, hg, fo, go, by omega, by omega, fun H1 s1 => ⟨_, rfl, _, rfl, _, rfl, _, rfl, p, vf, vg, f, g, -1, rfl, by omega, hf.sm s1, hg.sm s1, fo.up, go.up, fo.cells, go.cells, ⟨by decide, by decide⟩, ln, q.mono s1 (Nat.le_refl _)⟩⟩
def sp_form_times (K : PySem.W.Frag) : Sp := fun vs H Q _ => ∃ p vf f n, vs = [.int p, vf, .int n] ∧ Pr p ∧ FmT K H vf f ∧ Fok p f ∧ Nm p n ∧ f.length < 64 ∧ Made K p (fun c => look f c * n) f.length H Q
theorem D_form_times (T : Tx K mg) : Ow.Df P w K mg base CX0 6 "form_times" s_form_times ["prime", "form", "number"] (sp_form_times K) := by
  refine Ow.df_of T.f_form_times sc_form_times bd_form_times (fun vs H Q E h => ?_) (fun cdv A outer s H vs Q E f hG hR h => ?_)
  · obtain ⟨_, _, _, _, rfl, _⟩ := h
    rfl
  · obtain ⟨p, vf, f, n, rfl, hp, hf, fo, hn, ln, q⟩ := h
    have hu := hR.units
    have hu1 := hu_of hR
    refine ⟨_, (pss_cons (ps_expr (Ow.pe_d (D_check_prime T) hR (by decide) hG pass0 (by rfl) (pa_cons (pv 0) pa_nil)))
      (pss_cons (ps_expr (Ow.pe_d (D_check_form T) hR (by decide) hG pass0 (by rfl) (pa_cons (pv 0) (pa_cons (pv 1) pa_nil))))
      (pss_cons (ps_expr (Ow.pe_d (D_check_number T) hR (by decide) hG pass0 (by rfl) (pa_cons (pv 0) (pa_cons (pv 2) pa_nil))))
      (pss_one (ps_ret (Ow.pe_d (D_so_many T) hR (by decide) hG pass0 (by rfl) (pa_cons (pv 0) (pa_cons (pv 1) (pa_cons (pv 2) pa_nil))))))))), ?_⟩
    have lo := hp.lo
    have hi := hp.hi
    have n0 := hn.1
    have n1 := hn.2
    exact ⟨_, rfl, p, rfl, hp, _, rfl, _, rfl, p, vf, f, rfl, hf, fo, by omega, fun H1 s1 => ⟨_, rfl, _, rfl, p, n, rfl, hn, _, rfl, _, rfl, _, rfl, p, vf, f, n, rfl, by omega, hf.sm s1, fo.up, fo.cells, ⟨by omega, by omega⟩, ln, q.mono s1 (Nat.le_refl _)⟩⟩
def sp_form_put (K : PySem.W.Frag) : Sp := fun vs H Q _ => ∃ p vf vg f g c, vs = [.int p, vf, .int c, vg] ∧ Pr p ∧ FmF K H vf f ∧ FmT K H vg g ∧ Fok p f ∧ Fok p g ∧ 1 ≤ c ∧ c ≤ 999 ∧ f.length + g.length < 64 ∧
  Made K p (fun d => look (bare f c) d + look f c * look g d) (f.length + g.length) H Q
theorem D_form_put (T : Tx K mg) : Ow.Df P w K mg base CX0 6 "form_put" s_form_put ["prime", "form", "cell", "against"] (sp_form_put K) := by
  refine Ow.df_of T.f_form_put sc_form_put bd_form_put (fun vs H Q E h => ?_) (fun cdv A outer s H vs Q E f hG hR h => ?_)
  · obtain ⟨_, _, _, _, _, _, rfl, _⟩ := h
    rfl
  · obtain ⟨p, vf, vg, f, g, c, rfl, hp, hf, hg, fo, go, c0, c1, ln, q⟩ := h
    have hu := hR.units
    have hu1 := hu_of hR
    refine ⟨_, (pss_cons (ps_expr (Ow.pe_d (D_check_prime T) hR (by decide) hG pass0 (by rfl) (pa_cons (pv 0) pa_nil)))
      (pss_cons (ps_expr (Ow.pe_d (D_check_form T) hR (by decide) hG pass0 (by rfl) (pa_cons (pv 0) (pa_cons (pv 1) pa_nil))))
      (pss_cons (ps_if (pt_not (pt_val (Ow.pe_d (D_is_within T) hR (by decide) hG pass0 (by rfl) (pa_cons (pv 2) (pa_cons pe_int (pa_cons (Ow.pe_gi rfl T.c_MOST_CELL) pa_nil))))))
      (pss_one ps_never)
      pss_nil)
      (pss_cons (ps_expr (Ow.pe_d (D_check_form T) hR (by decide) hG pass0 (by rfl) (pa_cons (pv 0) (pa_cons (pv 3) pa_nil))))
      (pss_one (ps_ret (Ow.pe_d (D_put_by T) hR (by decide) hG pass0 (by rfl) (pa_cons (pv 0) (pa_cons (pv 1) (pa_cons (pv 2) (pa_cons (pv 3) pa_nil))))))))))), ?_⟩
    have lo := hp.lo
    have hi := hp.hi
    refine ⟨_, rfl, p, rfl, hp, _, rfl, _, rfl, p, vf, f, rfl, hf.t, fo, by omega, fun H1 s1 => ?_⟩
    refine ⟨_, rfl, .int c, .int c, 1, 999, rfl, .int c, ?_⟩
    have e : withinD (.int c) 1 999 = true := by
      show (decide (1 ≤ c) && decide (c ≤ 999)) = true
      rw [decide_eq_true c0, decide_eq_true c1]
      rfl
    rw [e]
    refine ⟨_, rfl, iteF ⟨_, rfl, _, rfl, p, vg, g, rfl, hg.sm s1, go, by omega, fun H2 s2 => ?_⟩⟩
    have st := s1.trans s2
    exact ⟨_, rfl, _, rfl, _, rfl, _, rfl, p, vf, vg, f, g, c, rfl, by omega, by omega, hf.sm st, hg.sm st, fo, go.up, go.cells, ln, q.mono st (Nat.le_refl _)⟩
end

end Eqr
namespace Eqr
open PySem PySem.Spec L2
/-! ### forms: rows, values, leads, sums with weights -/
section
variable {P : Program} {w : World} {K : PySem.W.Frag} {mg : Str → Option Value} {base : Heap}
def sp_are_numbers (K : PySem.W.Frag) : Sp := fun vs H Q _ => ∃ p v d, vs = [.int p, v] ∧ Ow.Dq K H v d ∧ (seqD d).length < 1000 ∧ ∀ H', Same H H' → Q (.bl (numsD p d)) H'
theorem D_are_numbers (T : Tx K mg) : Ow.Df P w K mg base CX0 4 "are_numbers" s_are_numbers ["prime", "value"] (sp_are_numbers K) := by
  refine Ow.df_of T.f_are_numbers sc_are_numbers bd_are_numbers (fun vs H Q E h => ?_) (fun cdv A outer s H vs Q E f hG hR h => ?_)
  · obtain ⟨_, _, _, rfl, _⟩ := h
    rfl
  · obtain ⟨p, v, d, rfl, hd, hn, q⟩ := h
    have hu := hR.units
    have hu1 := hu_of hR
    refine ⟨_, (pss_one (ps_ret (pe_and (Ow.pe_d (D_is_list T) hR (by decide) hG pass0 (by rfl) (pa_cons (pv 1) pa_nil)) (pe_one (pe_callB (cr_all rfl) (by rfl) T.b_all (by decide +kernel) (pa_cons (pe_lc (own := [("one", 2)]) (g := gName 2) rfl sc_are_numbers.nd (Ow.pi_or (pi_list (pv 1)) (pi_tup (pv 1))) (blkOk_by (N := ["prime", "value", "one"]) (sc := defScope s_are_numbers) (by decide +kernel)) (fun _ _ _ _ _ => pg_name (i := 2) sc_are_numbers.nd rfl (Or.inl rfl)) (fun _ _ _ _ _ => pts_nil) (fun _ _ _ _ _ => (Ow.pe_d (D_is_number_of T) hR (by decide) hG pass0 (by rfl) (pa_cons (pv 0) (pa_cons (pv 2) pa_nil))))) pa_nil)))))), ?_⟩
    refine ⟨_, rfl, v, d, rfl, hd, fun H1 s1 => ⟨_, rfl, ?_⟩⟩
    have en : numsD p d = (isSeq d && (seqD d).all fun x => withinD x 0 (p - 1)) := rfl
    rw [en] at q
    cases hd with
    | lst h t =>
      rename_i a xs ds
      have hl := t.length
      have hn : ds.length < 1000 := hn
      refine iteT (.inl ⟨_, rfl, a, rfl, ⟨_, Ow.SqL.sm h s1⟩, fun D hD => ?_⟩)
      refine comp_it (walk_list (K := K) (a := a) (xs := xs)) (fun i acc Hh => acc = ((ds.take i).map fun x => withinD x 0 (p - 1)).map V.bl) (Fair.same hD) hD (by omega) rfl (fun H' s => Ow.SqL.sm h (s1.trans s)) ?_ ?_
      · rintro i x acc H2 H3 Nx hi hl2 s2 eD rfl ⟨rfl, hx⟩ hyes hno
        obtain ⟨dx, hdx⟩ : ∃ dx, ds[i]? = some dx := ⟨_, List.getElem?_eq_getElem (show i < ds.length by omega)⟩
        obtain ⟨x', hx', hq⟩ := t.at i hdx
        rw [hx] at hx'
        cases hx'
        refine ⟨rfl, iteT (B := Nx H3) ⟨_, rfl, _, rfl, p, x, dx, rfl, hq.sm (s1.trans s2), hyes _ H3 s2 eD ?_⟩⟩
        rw [List.take_succ, hdx]
        simp
      · rintro acc H2 hl2 s2 eD rfl
        rw [hl, List.take_length] at eD
        refine ⟨D, _, rfl, .of eD, ?_⟩
        rw [List.all_map]
        exact q H2 (s1.trans s2)
    | tup h t =>
      rename_i a xs ds
      have hl := t.length
      have hn : ds.length < 1000 := hn
      refine iteT (.inr ⟨_, rfl, a, rfl, ⟨_, Ow.SqT.sm h s1⟩, fun D hD => ?_⟩)
      refine comp_it (walk_tup (K := K) (a := a) (xs := xs)) (fun i acc Hh => acc = ((ds.take i).map fun x => withinD x 0 (p - 1)).map V.bl) (Fair.same hD) hD (by omega) rfl (fun H' s => Ow.SqT.sm h (s1.trans s)) ?_ ?_
      · rintro i x acc H2 H3 Nx hi hl2 s2 eD rfl ⟨rfl, hx⟩ hyes hno
        obtain ⟨dx, hdx⟩ : ∃ dx, ds[i]? = some dx := ⟨_, List.getElem?_eq_getElem (show i < ds.length by omega)⟩
        obtain ⟨x', hx', hq⟩ := t.at i hdx
        rw [hx] at hx'
        cases hx'
        refine ⟨rfl, iteT (B := Nx H3) ⟨_, rfl, _, rfl, p, x, dx, rfl, hq.sm (s1.trans s2), hyes _ H3 s2 eD ?_⟩⟩
        rw [List.take_succ, hdx]
        simp
      · rintro acc H2 hl2 s2 eD rfl
        rw [hl, List.take_length] at eD
        refine ⟨D, _, rfl, .of eD, ?_⟩
        rw [List.all_map]
        exact q H2 (s1.trans s2)
    | non => exact iteF (q H1 s1)
    | bl b => exact iteF (q H1 s1)
    | int i => exact iteF (q H1 s1)
    | str x => exact iteF (q H1 s1)
    | dct h t => exact iteF (q H1 s1)
/-- a row: whole numbers of the prime, the first is 1 -/
structure Row (p : Int) (ns : List Int) : Prop where
  nm : ∀ n ∈ ns, Nm p n
  one : ns.head? = some 1
def rowD (ns : List Int) : List PyData := ns.map PyData.int
theorem dq_ints {H : Hp} : ∀ {ns : List Int}, Ow.DqAll K H (ns.map V.int) (rowD ns)
  | [] => .nil
  | n :: _ => .cons (.int n) dq_ints
theorem RwS.dq {H : Hp} {v : V} {ns : List Int} (h : RwS K H v ns) : ∃ d, Ow.Dq K H v d ∧ seqD d = rowD ns ∧ isSeq d = true := by
  obtain ⟨a, rfl, h | h⟩ := h
  · exact ⟨_, .lst h dq_ints, rfl, rfl⟩
  · exact ⟨_, .tup h dq_ints, rfl, rfl⟩
theorem nums_ok {p : Int} {ns : List Int} {d : PyData} (h : ∀ n ∈ ns, Nm p n) (e : seqD d = rowD ns) (s : isSeq d = true) : numsD p d = true := by
  unfold numsD
  rw [e, s, Bool.true_and, List.all_eq_true]
  intro x hx
  obtain ⟨n, hn, rfl⟩ := List.mem_map.mp hx
  exact (h n hn).within
def sp_are_row (K : PySem.W.Frag) : Sp := fun vs H Q _ => ∃ p v ns, vs = [.int p, v] ∧ RwS K H v ns ∧ Row p ns ∧ ns.length < 1000 ∧ ∀ H', Same H H' → Q (.bl true) H'
theorem D_are_row (T : Tx K mg) : Ow.Df P w K mg base CX0 5 "are_row" s_are_row ["prime", "value"] (sp_are_row K) := by
  refine Ow.df_of T.f_are_row sc_are_row bd_are_row (fun vs H Q E h => ?_) (fun cdv A outer s H vs Q E f hG hR h => ?_)
  · obtain ⟨_, _, _, rfl, _⟩ := h
    rfl
  · obtain ⟨p, v, ns, rfl, hr, ro, hn, q⟩ := h
    have hu := hR.units
    have hu1 := hu_of hR
    refine ⟨_, (pss_one (ps_ret (pe_and (Ow.pe_d (D_are_numbers T) hR (by decide) hG pass0 (by rfl) (pa_cons (pv 0) (pa_cons (pv 1) pa_nil))) (pe_and (pe_cmpR op_gt (pe_callB call_len_seq (by rfl) T.b_len (by decide +kernel) (pa_cons (pv 1) pa_nil)) pe_int (nomark _)) (pe_one (pe_cmpR op_eq (pe_ix ix_seq (pv 1) pe_int (fun _ _ => rfl)) pe_int (nomark _))))))), ?_⟩
    obtain ⟨d, hd, ed, sd⟩ := hr.dq
    refine ⟨_, rfl, _, rfl, p, v, d, rfl, hd, by rw [ed]; unfold rowD; rw [List.length_map]; exact hn, fun H1 s1 => ?_⟩
    rw [nums_ok ro.nm ed sd]
    refine ⟨_, rfl, iteT ?_⟩
    obtain ⟨a, rfl, hs⟩ := hr.sm s1
    have h0 : 0 < ns.length := by
      have := ro.one
      cases ns with
      | nil => cases this
      | cons n r => simp
    have h1 : (ns.map V.int)[0]? = some (.int 1) := by
      have := ro.one
      cases ns with
      | nil => cases this
      | cons n r =>
        have e : n = 1 := Option.some.inj this
        rw [e]
        rfl
    refine ⟨_, rfl, a, _, rfl, hs, _, _, rfl, rfl, _, rfl, ?_⟩
    rw [List.length_map, decide_eq_true (by omega)]
    refine iteT ⟨_, rfl, ?_⟩
    rcases hs with hs | hs
    · exact .inl ⟨a, _, 0, _, rfl, rfl, hs, at_of (j := 0) rfl h1, rfl, q H1 s1⟩
    · exact .inr (.inl ⟨a, _, 0, _, rfl, rfl, hs, at_of (j := 0) rfl h1, rfl, q H1 s1⟩)
def sp_form_value (K : PySem.W.Frag) : Sp := fun vs H Q _ => ∃ p vf vr f ns, vs = [.int p, vf, vr] ∧ Pr p ∧ FmT K H vf f ∧ Fok p f ∧ RwS K H vr ns ∧ Row p ns ∧ ns.length < 1000 ∧ f.length < 1000 ∧ SeqAt.shaped (fmD f) = true ∧ Below ns.length f ∧ ∀ H', Same H H' → Q (.int (valF f (rowF ns) % p)) H'
theorem D_form_value (T : Tx K mg) : Ow.Df P w K mg base CX0 6 "form_value" s_form_value ["prime", "form", "row"] (sp_form_value K) := by
  refine Ow.df_of T.f_form_value sc_form_value bd_form_value (fun vs H Q E h => ?_) (fun cdv A outer s H vs Q E f hG hR h => ?_)
  · obtain ⟨_, _, _, _, _, rfl, _⟩ := h
    rfl
  · obtain ⟨p, vf, vr, f, ns, rfl, hp, hf, fo, hr, ro, hn, hl, hsh, bl, q⟩ := h
    have hu := hR.units
    have hu1 := hu_of hR
    refine ⟨_, (pss_cons (ps_expr (Ow.pe_d (D_check_prime T) hR (by decide) hG pass0 (by rfl) (pa_cons (pv 0) pa_nil)))
      (pss_cons (ps_expr (Ow.pe_d (D_check_form T) hR (by decide) hG pass0 (by rfl) (pa_cons (pv 0) (pa_cons (pv 1) pa_nil))))
      (pss_cons (ps_if (PW.pt (pw_or (pt_not (pt_val (Ow.pe_d (D_are_row T) hR (by decide) hG pass0 (by rfl) (pa_cons (pv 0) (pa_cons (pv 2) pa_nil))))) (pw_or (pt_cmpR op_gt (pe_callB call_len_seq (by rfl) T.b_len (by decide +kernel) (pa_cons (pv 2) pa_nil)) (Ow.pe_gi rfl T.c_MOST_ROW) (nomark _)) (pw_or1 (PW.pt (pw_and (pt_cmpR (op_neD hu) (pv 1) (Ow.pe_tupF pa_nil) (nomark _)) (pw_and1 (pt_cmpR op_ge (pe_ix ix_tup (pe_ix ix_tup (pv 1) (pe_un un_neg pe_int) (fun _ _ => rfl)) pe_int (fun _ _ => rfl)) (pe_callB call_len_seq (by rfl) T.b_len (by decide +kernel) (pa_cons (pv 2) pa_nil)) (nomark _)))))))))
      (pss_one ps_never)
      pss_nil)
      (pss_one (ps_ret (Ow.pe_d (D_value_of_form T) hR (by decide) hG pass0 (by rfl) (pa_cons (pv 0) (pa_cons (pv 1) (pa_cons (pv 2) pa_nil))))))))), ?_⟩
    have lo := hp.lo
    have hi := hp.hi
    have lr : (ns.map V.int).length = ns.length := List.length_map ..
    refine ⟨_, rfl, p, rfl, hp, _, rfl, _, rfl, p, vf, f, rfl, hf, fo, hl, fun H1 s1 => ?_⟩
    refine ⟨_, rfl, _, rfl, p, vr, ns, rfl, hr.sm s1, ro, hn, fun H2 s2 => ⟨_, rfl, iteF ?_⟩⟩
    have s12 := s1.trans s2
    obtain ⟨b, rfl, hs⟩ := id hr
    have hs2 : SqL K H2 b (ns.map V.int) ∨ SqT K H2 b (ns.map V.int) := hs.imp (fun z => Ow.SqL.sm z s12) fun z => Ow.SqT.sm z s12
    refine ⟨_, rfl, b, _, rfl, hs2, _, _, rfl, rfl, _, rfl, ?_⟩
    rw [lr, decide_eq_false (by omega)]
    refine iteF ⟨_, rfl, Nat.zero_le _, ?_⟩
    intro t0 ob_t0 hob_t0 hp_t0
    generalize hx_t0 : upd _ t0 _ = H3
    obtain ⟨s3, e3⟩ := fresh_of hp_t0 hx_t0
    clear hx_t0
    have s13 := s12.trans s3
    obtain ⟨a, ps, rfl, sf, qf⟩ := id hf
    have fin : ∀ H', Same H3 H' → sp_value_of_form K [.int p, .ref a, .ref b] H' Q E := fun H' s => ⟨p, .ref a, .ref b, f, ns, rfl, by omega, hf.sm (s13.trans s), hr.sm (s13.trans s), bl, hl, fun x hx => by have := fo.ok x hx; omega, fun H4 s4 => q H4 (s13.trans (s.trans s4))⟩
    refine ⟨fmD f, .tuple [], (hf.sm s13).dp, .tup (.inl (.inr ⟨_, e3⟩)) .nil, hsh, nilT_shows.shaped (by decide), _, rfl, ?_⟩
    cases f with
    | nil => exact iteF ⟨_, rfl, _, rfl, _, rfl, fin H3 (Same.refl _)⟩
    | cons x r =>
      refine iteT ?_
      obtain ⟨y, hy⟩ : ∃ y, (x :: r).getLast? = some y := by
        cases h : (x :: r).getLast? with
        | none => simp at h
        | some y => exact ⟨y, rfl⟩
      obtain ⟨t, ht, hpr⟩ := last_pr qf hy
      have by' := bl y (List.mem_of_getLast? hy)
      have g1 := atI_lst ht
      refine ⟨_, rfl, _, rfl, a, _, -1, _, rfl, rfl, Ow.SqT.sm sf s13, g1, t, _, 0, _, rfl, rfl, hpr.sm s13, at_of (j := 0) rfl rfl, _, rfl, b, _, rfl, hs2.imp (fun z => Ow.SqL.sm z s3) (fun z => Ow.SqT.sm z s3), _, _, rfl, rfl, _, rfl, ?_⟩
      rw [lr, decide_eq_false (by omega)]
      exact iteF ⟨_, rfl, _, rfl, _, rfl, fin H3 (Same.refl _)⟩
def sp_lead_of (K : PySem.W.Frag) : Sp := fun vs H Q _ => ∃ p vf f, vs = [.int p, vf] ∧ Pr p ∧ FmT K H vf f ∧ Fok p f ∧ f.length < 1000 ∧ SeqAt.shaped (fmD f) = true ∧ ∀ H', Same H H' → Q (leadV f) H'
theorem D_lead_of (T : Tx K mg) : Ow.Df P w K mg base CX0 6 "lead_of" s_lead_of ["prime", "form"] (sp_lead_of K) := by
  refine Ow.df_of T.f_lead_of sc_lead_of bd_lead_of (fun vs H Q E h => ?_) (fun cdv A outer s H vs Q E f hG hR h => ?_)
  · obtain ⟨_, _, _, rfl, _⟩ := h
    rfl
  · obtain ⟨p, vf, f, rfl, hp, hf, fo, hl, hs, q⟩ := h
    have hu := hR.units
    have hu1 := hu_of hR
    refine ⟨_, (pss_cons (ps_expr (Ow.pe_d (D_check_prime T) hR (by decide) hG pass0 (by rfl) (pa_cons (pv 0) pa_nil)))
      (pss_cons (ps_expr (Ow.pe_d (D_check_form T) hR (by decide) hG pass0 (by rfl) (pa_cons (pv 0) (pa_cons (pv 1) pa_nil))))
      (pss_one (ps_ret (Ow.pe_d (D_lead_by T) hR (by decide) hG pass0 (by rfl) (pa_cons (pv 1) pa_nil)))))), ?_⟩
    exact ⟨_, rfl, p, rfl, hp, _, rfl, _, rfl, p, vf, f, rfl, hf, fo, hl, fun H1 s1 => ⟨_, rfl, vf, f, rfl, hf.sm s1, hl, hs, fun H2 s2 => q H2 (s1.trans s2)⟩⟩
def sp_is_constant (K : PySem.W.Frag) : Sp := fun vs H Q _ => ∃ p vf f, vs = [.int p, vf] ∧ Pr p ∧ FmT K H vf f ∧ Fok p f ∧ f.length < 1000 ∧ SeqAt.shaped (fmD f) = true ∧ ∀ H', Same H H' → Q (.bl (decide (leadV f = .non))) H'
theorem D_is_constant (T : Tx K mg) : Ow.Df P w K mg base CX0 6 "is_constant" s_is_constant ["prime", "form"] (sp_is_constant K) := by
  refine Ow.df_of T.f_is_constant sc_is_constant bd_is_constant (fun vs H Q E h => ?_) (fun cdv A outer s H vs Q E f hG hR h => ?_)
  · obtain ⟨_, _, _, rfl, _⟩ := h
    rfl
  · obtain ⟨p, vf, f, rfl, hp, hf, fo, hl, hs, q⟩ := h
    have hu := hR.units
    have hu1 := hu_of hR
    refine ⟨_, (pss_cons (ps_expr (Ow.pe_d (D_check_prime T) hR (by decide) hG pass0 (by rfl) (pa_cons (pv 0) pa_nil)))
      (pss_cons (ps_expr (Ow.pe_d (D_check_form T) hR (by decide) hG pass0 (by rfl) (pa_cons (pv 0) (pa_cons (pv 1) pa_nil))))
      (pss_one (ps_ret (pe_cmpR op_isN (Ow.pe_d (D_lead_by T) hR (by decide) hG pass0 (by rfl) (pa_cons (pv 1) pa_nil)) pe_non (nomark _)))))), ?_⟩
    exact ⟨_, rfl, p, rfl, hp, _, rfl, _, rfl, p, vf, f, rfl, hf, fo, hl, fun H1 s1 => ⟨_, rfl, vf, f, rfl, hf.sm s1, hl, hs, fun H2 s2 => ⟨rfl, q H2 (s1.trans s2)⟩⟩⟩
end

end Eqr
namespace Eqr
open PySem PySem.Spec L2
/-! ### forms: sums with weights -/
def wsum : List Fm → List Int → Int → Int
  | f :: fs, w :: ws, c => w * look f c + wsum fs ws c
  | _, _, _ => 0
def lsum (fs : List Fm) : Nat := (fs.map List.length).sum
theorem wsum_take : ∀ {fs : List Fm} {ws : List Int} {i : Nat} {f : Fm} {w : Int}, fs[i]? = some f → ws[i]? = some w → ∀ c, wsum (fs.take (i + 1)) (ws.take (i + 1)) c = wsum (fs.take i) (ws.take i) c + w * look f c
  | [], _, i, _, _, h, _, _ => by simp at h
  | _ :: _, [], i, _, _, _, h, _ => by simp at h
  | g :: fs, v :: ws, 0, f, w, h1, h2, c => by
    have e1 : g = f := Option.some.inj h1
    have e2 : v = w := Option.some.inj h2
    subst e1 e2
    show v * look g c + wsum (fs.take 0) (ws.take 0) c = 0 + v * look g c
    rw [List.take_zero, List.take_zero]
    show v * look g c + 0 = _
    omega
  | g :: fs, v :: ws, i + 1, f, w, h1, h2, c => by
    have := wsum_take (fs := fs) (ws := ws) (i := i) (f := f) (w := w) (by simpa using h1) (by simpa using h2) c
    show v * look g c + wsum (fs.take (i + 1)) (ws.take (i + 1)) c = v * look g c + wsum (fs.take i) (ws.take i) c + w * look f c
    rw [this]
    omega
theorem lsum_take {fs : List Fm} {i : Nat} {f : Fm} (h : fs[i]? = some f) : lsum (fs.take (i + 1)) = lsum (fs.take i) + f.length := by
  unfold lsum
  rw [List.take_succ, h, List.map_append, List.sum_append]
  simp
theorem lsum_le (fs : List Fm) (i : Nat) : lsum (fs.take i) ≤ lsum fs := by
  unfold lsum
  rw [List.map_take]
  have e := List.take_append_drop i (fs.map List.length)
  have : ((fs.map List.length).take i).sum + ((fs.map List.length).drop i).sum = (fs.map List.length).sum := by
    rw [← List.sum_append, e]
  omega
/-- a list or a tuple, as told -/
def Sq2 (K : PySem.W.Frag) (H : Hp) : Bool → Addr → List V → Prop
  | false, a, xs => SqL K H a xs
  | true, a, xs => SqT K H a xs
theorem Sq2.sm {K : PySem.W.Frag} {H H' : Hp} {t : Bool} {a : Addr} {xs : List V} (h : Sq2 K H t a xs) (s : Same H H') : Sq2 K H' t a xs := by
  cases t
  · exact Ow.SqL.sm h s
  · exact Ow.SqT.sm h s
theorem Sq2.or {K : PySem.W.Frag} {H : Hp} {t : Bool} {a : Addr} {xs : List V} (h : Sq2 K H t a xs) : SqL K H a xs ∨ SqT K H a xs := by
  cases t
  · exact .inl h
  · exact .inr h
def Fms (K : PySem.W.Frag) (H : Hp) (t : Bool) (v : V) (fs : List Fm) : Prop := ∃ a vs, v = .ref a ∧ Sq2 K H t a vs ∧ Paired (FmT K H) vs fs
def Rwk (K : PySem.W.Frag) (H : Hp) (t : Bool) (v : V) (ns : List Int) : Prop := ∃ a, v = .ref a ∧ Sq2 K H t a (ns.map V.int)
theorem Fms.sm {K : PySem.W.Frag} {H H' : Hp} {t : Bool} {v : V} {fs : List Fm} (h : Fms K H t v fs) (s : Same H H') : Fms K H' t v fs := by
  obtain ⟨a, vs, e, x, q⟩ := h
  exact ⟨a, vs, e, x.sm s, paired_map q fun _ _ z => z.sm s⟩
theorem Rwk.sm {K : PySem.W.Frag} {H H' : Hp} {t : Bool} {v : V} {ns : List Int} (h : Rwk K H t v ns) (s : Same H H') : Rwk K H' t v ns := by
  obtain ⟨a, e, x⟩ := h
  exact ⟨a, e, x.sm s⟩
theorem Rwk.s {K : PySem.W.Frag} {H : Hp} {t : Bool} {v : V} {ns : List Int} (h : Rwk K H t v ns) : RwS K H v ns := by
  obtain ⟨a, e, x⟩ := h
  exact ⟨a, e, x.or⟩
theorem fms_dq {K : PySem.W.Frag} {H : Hp} : ∀ {vs : List V} {fs : List Fm}, Paired (FmT K H) vs fs → Ow.DqAll K H vs (fs.map fmD)
  | _, _, .nil => .nil
  | _, _, .cons h r => .cons (fm_q h) (fms_dq r)
theorem Fms.dq {K : PySem.W.Frag} {H : Hp} {t : Bool} {v : V} {fs : List Fm} (h : Fms K H t v fs) : ∃ d, Ow.Dq K H v d ∧ isSeq d = true := by
  obtain ⟨a, vs, rfl, x, q⟩ := h
  cases t
  · exact ⟨_, .lst x (fms_dq q), rfl⟩
  · exact ⟨_, .tup x (fms_dq q), rfl⟩
section
variable {P : Program} {w : World} {K : PySem.W.Frag} {mg : Str → Option Value} {base : Heap}
def sp_check_forms (K : PySem.W.Frag) : Sp := fun vs H Q _ => ∃ p t v fs, vs = [.int p, v] ∧ Fms K H t v fs ∧ (∀ f ∈ fs, Fok p f ∧ f.length < 1000) ∧ fs.length ≤ 60 ∧ ∀ H', Same H H' → Q .non H'
theorem D_check_forms (T : Tx K mg) : Ow.Df P w K mg base CX0 5 "check_forms" s_check_forms ["prime", "value"] (sp_check_forms K) := by
  refine Ow.df_of T.f_check_forms sc_check_forms bd_check_forms (fun vs H Q E h => ?_) (fun cdv A outer s H vs Q E f hG hR h => ?_)
  · obtain ⟨_, _, _, _, rfl, _⟩ := h
    rfl
  · obtain ⟨p, t, v, fs, rfl, hf, fo, hn, q⟩ := h
    have hu := hR.units
    have hu1 := hu_of hR
    refine ⟨_, (pss_one (ps_if (PW.pt (pw_or (pt_not (pt_val (Ow.pe_d (D_is_list T) hR (by decide) hG pass0 (by rfl) (pa_cons (pv 1) pa_nil)))) (pw_or (pt_cmpR op_gt (pe_callB call_len_seq (by rfl) T.b_len (by decide +kernel) (pa_cons (pv 1) pa_nil)) (Ow.pe_gi rfl T.c_MOST_FORMS) (nomark _)) (pw_or1 (pt_not (pt_val (pe_callB (cr_all rfl) (by rfl) T.b_all (by decide +kernel) (pa_cons (pe_lc (own := [("one", 2)]) (g := gName 2) rfl sc_check_forms.nd (Ow.pi_or (pi_list (pv 1)) (pi_tup (pv 1))) (blkOk_by (N := ["prime", "value", "one"]) (sc := defScope s_check_forms) (by decide +kernel)) (fun _ _ _ _ _ => pg_name (i := 2) sc_check_forms.nd rfl (Or.inl rfl)) (fun _ _ _ _ _ => pts_nil) (fun _ _ _ _ _ => (Ow.pe_d (D_is_form_of T) hR (by decide) hG pass0 (by rfl) (pa_cons (pv 0) (pa_cons (pv 2) pa_nil))))) pa_nil))))))))
      (pss_one ps_never)
      pss_nil)), ?_⟩
    obtain ⟨d, hd, sd⟩ := hf.dq
    obtain ⟨a, xs, rfl, hs, hp⟩ := hf
    have hl := paired_len hp
    refine ⟨_, rfl, .ref a, d, rfl, hd, fun H1 s1 => ⟨_, rfl, ?_⟩⟩
    rw [sd]
    refine iteF ⟨_, rfl, a, _, rfl, (hs.sm s1).or, _, _, rfl, rfl, _, rfl, ?_⟩
    rw [decide_eq_false (by omega)]
    refine iteF ?_
    cases t with
    | false =>
      refine .inl ⟨_, rfl, a, rfl, ⟨_, Ow.SqL.sm hs s1⟩, fun D hD => ?_⟩
      refine comp_it (walk_list (K := K) (a := a) (xs := xs)) (fun i acc Hh => acc = ((fs.take i).map fun _ => true).map V.bl) (Fair.same hD) hD (by omega) rfl (fun H' s => Ow.SqL.sm hs (s1.trans s)) ?_ ?_
      · rintro i x acc H2 H3 Nx hi hl2 s2 eD rfl ⟨rfl, hx⟩ hyes hno
        obtain ⟨f, hf⟩ : ∃ f, fs[i]? = some f := ⟨_, List.getElem?_eq_getElem (show i < fs.length by omega)⟩
        obtain ⟨x', hx', hq⟩ := paired_at hp i hf
        rw [hx] at hx'
        cases hx'
        obtain ⟨fo1, fl⟩ := fo f (List.mem_of_getElem? hf)
        refine ⟨rfl, iteT (B := Nx H3) ⟨_, rfl, _, rfl, p, x, fmD f, rfl, fm_q (hq.sm (s1.trans s2)), by show (f.map prD).length < 1000; rw [List.length_map]; exact fl, fun H4 s4 => ?_⟩⟩
        rw [formD_fm fo1]
        refine hyes _ H4 (s2.trans s4) (s4 _ _ eD) ?_
        rw [List.take_succ, hf]
        simp
      · rintro acc H2 hl2 s2 eD rfl
        refine ⟨D, _, rfl, .of eD, _, rfl, ?_⟩
        have e : ((fs.take xs.length).map fun _ => true).all id = true := List.all_eq_true.mpr fun b hb => by
          obtain ⟨_, _, rfl⟩ := List.mem_map.mp hb
          rfl
        rw [e]
        exact iteF (q H2 (s1.trans s2))
    | true =>
      refine .inr ⟨_, rfl, a, rfl, ⟨_, Ow.SqT.sm hs s1⟩, fun D hD => ?_⟩
      refine comp_it (walk_tup (K := K) (a := a) (xs := xs)) (fun i acc Hh => acc = ((fs.take i).map fun _ => true).map V.bl) (Fair.same hD) hD (by omega) rfl (fun H' s => Ow.SqT.sm hs (s1.trans s)) ?_ ?_
      · rintro i x acc H2 H3 Nx hi hl2 s2 eD rfl ⟨rfl, hx⟩ hyes hno
        obtain ⟨f, hf⟩ : ∃ f, fs[i]? = some f := ⟨_, List.getElem?_eq_getElem (show i < fs.length by omega)⟩
        obtain ⟨x', hx', hq⟩ := paired_at hp i hf
        rw [hx] at hx'
        cases hx'
        obtain ⟨fo1, fl⟩ := fo f (List.mem_of_getElem? hf)
        refine ⟨rfl, iteT (B := Nx H3) ⟨_, rfl, _, rfl, p, x, fmD f, rfl, fm_q (hq.sm (s1.trans s2)), by show (f.map prD).length < 1000; rw [List.length_map]; exact fl, fun H4 s4 => ?_⟩⟩
        rw [formD_fm fo1]
        refine hyes _ H4 (s2.trans s4) (s4 _ _ eD) ?_
        rw [List.take_succ, hf]
        simp
      · rintro acc H2 hl2 s2 eD rfl
        refine ⟨D, _, rfl, .of eD, _, rfl, ?_⟩
        have e : ((fs.take xs.length).map fun _ => true).all id = true := List.all_eq_true.mpr fun b hb => by
          obtain ⟨_, _, rfl⟩ := List.mem_map.mp hb
          rfl
        rw [e]
        exact iteF (q H2 (s1.trans s2))
def sp_weighed_by (K : PySem.W.Frag) : Sp := fun vs H Q _ => ∃ p t vf vw fs ws, vs = [.int p, vf, vw] ∧ 0 < p ∧ Fms K H t vf fs ∧ Rwk K H t vw ws ∧ fs.length = ws.length ∧ (∀ f ∈ fs, Fok p f) ∧ (∀ n ∈ ws, -(2 ^ 64) < n ∧ n < 2 ^ 64) ∧ lsum fs < 64 ∧ Made K p (wsum fs ws) (lsum fs) H Q
theorem sum_mod {p a b : Int} : (a % p + b) % p = (a + b) % p := by rw [Int.emod_add_emod]
theorem D_weighed_by (T : Tx K mg) : Ow.Df P w K mg base CX0 3 "weighed_by" s_weighed_by ["prime", "forms", "weights"] (sp_weighed_by K) := by
  refine Ow.df_of T.f_weighed_by sc_weighed_by bd_weighed_by (fun vs H Q E h => ?_) (fun cdv A outer s H vs Q E f hG hR h => ?_)
  · obtain ⟨_, _, _, _, _, _, rfl, _⟩ := h
    rfl
  · obtain ⟨p, t, vf, vw, fs, ws, rfl, p0, hf, hw, hlen, fo, hws, h64, q⟩ := h
    have hu := hR.units
    have hu1 := hu_of hR
    refine ⟨_, (pss_cons (ps_set (i := 3) sc_weighed_by.nd rfl (Or.inl rfl) (Ow.pe_tupF pa_nil))
      (pss_cons (ps_for PassesOwn.never rfl (RZ.pi_zipA (by rfl) T.b_zip (pa_cons (pv 1) (pa_cons (pv 2) pa_nil))) (pg_tup rfl (pgs_cons (pg_name (i := 4) sc_weighed_by.nd rfl (Or.inl rfl)) (pgs_cons (pg_name (i := 5) sc_weighed_by.nd rfl (Or.inl rfl)) pgs_nil)))
      (pss_one (ps_set (i := 3) sc_weighed_by.nd rfl (Or.inl rfl) (Ow.pe_d (D_sum_with T) hR (by decide) hG pass0 (by rfl) (pa_cons (pv 0) (pa_cons (pv 3) (pa_cons (pv 4) (pa_cons (pv 5) pa_nil))))))))
      (pss_one (ps_ret (pv 3))))), ?_⟩
    obtain ⟨a, xs, rfl, hs, hp⟩ := id hf
    obtain ⟨b, rfl, hb⟩ := hw
    have hl := paired_len hp
    refine ⟨Nat.zero_le _, ?_⟩
    intro e0 ob_e0 hob_e0 hp_e0
    generalize hx_e0 : upd _ e0 _ = H1
    obtain ⟨s1, e1⟩ := fresh_of hp_e0 hx_e0
    clear hx_e0
    have lmin : fs.length = min xs.length (ws.map V.int).length := by rw [List.length_map]; omega
    refine ⟨_, rfl, _, rfl, a, b, xs, ws.map V.int, rfl, ?_⟩
    cases t with
    | false =>
      refine .inl ⟨Ow.SqL.sm hs s1, Ow.SqL.sm hb s1, ?_⟩
      refine for_it (walk_zip (K := K) (a := a) (b := b) (xs := xs) (ys := ws.map V.int) lmin) (fun i σ H' => Same H H' ∧ ∃ v f o4 o5, σ = [some (.int p), some (.ref a), some (.ref b), some v, o4, o5] ∧ FmF K H' v f ∧ Fok p f ∧ (∀ c, look f c = wsum (fs.take i) (ws.take i) c % p) ∧ f.length ≤ lsum (fs.take i))
        ⟨s1, _, [], _, _, rfl, ⟨e0, [], rfl, ⟨_, hob_e0, e1⟩, .nil⟩, ⟨.nil, fun x hx => (nomatch hx)⟩, fun c => ?_, Nat.zero_le _⟩ (fun i σ H' _ h => ⟨Ow.SqL.sm hs h.1, Ow.SqL.sm hb h.1⟩) ?_ ?_
      · show (0 : Int) = 0 % p
        rw [Int.zero_emod]
      · rintro i v σ H2 H3 hi ⟨s2, v1, f1, o4, o5, rfl, hf1, fo1, lk1, ln1⟩ ⟨T, x, y, rfl, hT, rfl, hx, hy⟩
        have hx : xs[i]? = some x := hx
        have hy : (ws.map V.int)[i]? = some y := hy
        rw [List.getElem?_map] at hy
        obtain ⟨n, hn, rfl⟩ := Option.map_eq_some_iff.mp hy
        obtain ⟨g, hg⟩ : ∃ g, fs[i]? = some g := ⟨_, List.getElem?_eq_getElem hi⟩
        obtain ⟨x', hx', hq⟩ := paired_at hp i hg
        rw [hx] at hx'
        cases hx'
        have st : Same H2 (upd H2 T (.tup [x, .int n])) := same_new hT
        have hl1 := lsum_take hg
        have hl2 := lsum_le fs (i + 1)
        have go := fo g (List.mem_of_getElem? hg)
        refine ⟨T, _, rfl, .inl (.inl upd_same), rfl, _, _, rfl, _, _, rfl, rfl, ?_⟩
        refine ⟨_, rfl, _, rfl, _, rfl, _, rfl, p, v1, x, f1, g, n, rfl, p0, hf1.sm st, hq.sm (s2.trans st), fo1.up, go.up, fo1.cells, go.cells, hws n (List.mem_of_getElem? hn), by omega, fun v2 f2 H4 s4 hf2 fo2 lk2 ln2 => ?_⟩
        refine ⟨s2.trans (st.trans s4), v2, f2, _, _, rfl, hf2, fo2, fun c => ?_, by omega⟩
        have e2 : look f2 c = (look f1 c + n * look g c) % p := lk2 c
        rw [e2, lk1, wsum_take hg hn, sum_mod]
      · rintro σ H2 ⟨s2, v1, f1, o4, o5, rfl, hf1, fo1, lk1, ln1⟩
        rw [List.take_length] at lk1 ln1
        have e : ws.take fs.length = ws := by rw [hlen, List.take_length]
        rw [e] at lk1
        exact ⟨_, rfl, q v1 f1 H2 s2 hf1 fo1 lk1 ln1⟩
    | true =>
      refine .inr ⟨Ow.SqT.sm hs s1, Ow.SqT.sm hb s1, ?_⟩
      refine for_it (Ow.walk_zipT (K := K) (a := a) (b := b) (xs := xs) (ys := ws.map V.int) lmin) (fun i σ H' => Same H H' ∧ ∃ v f o4 o5, σ = [some (.int p), some (.ref a), some (.ref b), some v, o4, o5] ∧ FmF K H' v f ∧ Fok p f ∧ (∀ c, look f c = wsum (fs.take i) (ws.take i) c % p) ∧ f.length ≤ lsum (fs.take i))
        ⟨s1, _, [], _, _, rfl, ⟨e0, [], rfl, ⟨_, hob_e0, e1⟩, .nil⟩, ⟨.nil, fun x hx => (nomatch hx)⟩, fun c => ?_, Nat.zero_le _⟩ (fun i σ H' _ h => ⟨Ow.SqT.sm hs h.1, Ow.SqT.sm hb h.1⟩) ?_ ?_
      · show (0 : Int) = 0 % p
        rw [Int.zero_emod]
      · rintro i v σ H2 H3 hi ⟨s2, v1, f1, o4, o5, rfl, hf1, fo1, lk1, ln1⟩ ⟨T, x, y, rfl, hT, rfl, hx, hy⟩
        have hx : xs[i]? = some x := hx
        have hy : (ws.map V.int)[i]? = some y := hy
        rw [List.getElem?_map] at hy
        obtain ⟨n, hn, rfl⟩ := Option.map_eq_some_iff.mp hy
        obtain ⟨g, hg⟩ : ∃ g, fs[i]? = some g := ⟨_, List.getElem?_eq_getElem hi⟩
        obtain ⟨x', hx', hq⟩ := paired_at hp i hg
        rw [hx] at hx'
        cases hx'
        have st : Same H2 (upd H2 T (.tup [x, .int n])) := same_new hT
        have hl1 := lsum_take hg
        have hl2 := lsum_le fs (i + 1)
        have go := fo g (List.mem_of_getElem? hg)
        refine ⟨T, _, rfl, .inl (.inl upd_same), rfl, _, _, rfl, _, _, rfl, rfl, ?_⟩
        refine ⟨_, rfl, _, rfl, _, rfl, _, rfl, p, v1, x, f1, g, n, rfl, p0, hf1.sm st, hq.sm (s2.trans st), fo1.up, go.up, fo1.cells, go.cells, hws n (List.mem_of_getElem? hn), by omega, fun v2 f2 H4 s4 hf2 fo2 lk2 ln2 => ?_⟩
        refine ⟨s2.trans (st.trans s4), v2, f2, _, _, rfl, hf2, fo2, fun c => ?_, by omega⟩
        have e2 : look f2 c = (look f1 c + n * look g c) % p := lk2 c
        rw [e2, lk1, wsum_take hg hn, sum_mod]
      · rintro σ H2 ⟨s2, v1, f1, o4, o5, rfl, hf1, fo1, lk1, ln1⟩
        rw [List.take_length] at lk1 ln1
        have e : ws.take fs.length = ws := by rw [hlen, List.take_length]
        rw [e] at lk1
        exact ⟨_, rfl, q v1 f1 H2 s2 hf1 fo1 lk1 ln1⟩
def sp_weighed (K : PySem.W.Frag) : Sp := fun vs H Q _ => ∃ p t vf vw fs ws, vs = [.int p, vf, vw] ∧ Pr p ∧ Fms K H t vf fs ∧ Rwk K H t vw ws ∧ fs.length = ws.length ∧ fs.length ≤ 60 ∧ (∀ f ∈ fs, Fok p f) ∧ (∀ n ∈ ws, Nm p n) ∧ lsum fs < 64 ∧ Made K p (wsum fs ws) (lsum fs) H Q
theorem len_lsum {fs : List Fm} {f : Fm} (h : f ∈ fs) : f.length ≤ lsum fs := by
  unfold lsum
  induction fs with
  | nil => cases h
  | cons g fs ih =>
    rw [List.map_cons, List.sum_cons]
    rcases List.mem_cons.mp h with e | h
    · rw [e]
      omega
    · have := ih h
      omega
theorem D_weighed (T : Tx K mg) : Ow.Df P w K mg base CX0 6 "weighed" s_weighed ["prime", "forms", "weights"] (sp_weighed K) := by
  refine Ow.df_of T.f_weighed sc_weighed bd_weighed (fun vs H Q E h => ?_) (fun cdv A outer s H vs Q E f hG hR h => ?_)
  · obtain ⟨_, _, _, _, _, _, rfl, _⟩ := h
    rfl
  · obtain ⟨p, t, vf, vw, fs, ws, rfl, hp, hf, hw, hlen, h60, fo, hws, h64, q⟩ := h
    have hu := hR.units
    have hu1 := hu_of hR
    refine ⟨_, (pss_cons (ps_expr (Ow.pe_d (D_check_prime T) hR (by decide) hG pass0 (by rfl) (pa_cons (pv 0) pa_nil)))
      (pss_cons (ps_expr (Ow.pe_d (D_check_forms T) hR (by decide) hG pass0 (by rfl) (pa_cons (pv 0) (pa_cons (pv 1) pa_nil))))
      (pss_cons (ps_if (PW.pt (pw_or (pt_not (pt_val (Ow.pe_d (D_are_numbers T) hR (by decide) hG pass0 (by rfl) (pa_cons (pv 0) (pa_cons (pv 2) pa_nil))))) (pw_or1 (pt_cmpR op_ne (pe_callB call_len_seq (by rfl) T.b_len (by decide +kernel) (pa_cons (pv 2) pa_nil)) (pe_callB call_len_seq (by rfl) T.b_len (by decide +kernel) (pa_cons (pv 1) pa_nil)) (nomark _)))))
      (pss_one ps_never)
      pss_nil)
      (pss_one (ps_ret (Ow.pe_d (D_weighed_by T) hR (by decide) hG pass0 (by rfl) (pa_cons (pv 0) (pa_cons (pv 1) (pa_cons (pv 2) pa_nil))))))))), ?_⟩
    have lo := hp.lo
    have hi := hp.hi
    refine ⟨_, rfl, p, rfl, hp, _, rfl, _, rfl, p, t, vf, fs, rfl, hf, fun f hf2 => ⟨fo f hf2, by have := len_lsum hf2; omega⟩, h60, fun H1 s1 => ?_⟩
    obtain ⟨d, hd, ed, sd⟩ := (hw.s.sm s1).dq
    refine ⟨_, rfl, _, rfl, p, vw, d, rfl, hd, by rw [ed]; unfold rowD; rw [List.length_map]; omega, fun H2 s2 => ?_⟩
    rw [nums_ok hws ed sd]
    have s12 := s1.trans s2
    obtain ⟨a, xs, rfl, hs, hpr⟩ := id hf
    obtain ⟨b, rfl, hb⟩ := id hw
    have hl := paired_len hpr
    refine ⟨_, rfl, iteF ⟨_, rfl, b, _, rfl, (hb.sm s12).or, _, rfl, a, _, rfl, (hs.sm s12).or, rfl, _, rfl, iteNS (congrArg V.int (by rw [List.length_map]; omega)) ?_⟩⟩
    exact ⟨_, rfl, _, rfl, _, rfl, p, t, .ref a, .ref b, fs, ws, rfl, by omega, hf.sm s12, hw.sm s12, hlen, fo, fun n hn => by have := hws n hn; have a := this.1; have b := this.2; omega, h64, q.mono s12 (Nat.le_refl _)⟩
end

end Eqr
namespace Eqr
open PySem PySem.Spec L2
/-! ### numbers of a prime: sums, differences, products -/
section
variable {P : Program} {w : World} {K : PySem.W.Frag} {mg : Str → Option Value} {base : Heap}
def sp_check_pair : Sp := fun vs H Q _ => ∃ p a b, vs = [.int p, .int a, .int b] ∧ Pr p ∧ Nm p a ∧ Nm p b ∧ Q .non H
theorem D_check_pair (T : Tx K mg) : Ow.Df P w K mg base CX0 5 "check_pair" s_check_pair ["prime", "one", "other"] (sp_check_pair) := by
  refine Ow.df_of T.f_check_pair sc_check_pair bd_check_pair (fun vs H Q E h => ?_) (fun cdv A outer s H vs Q E f hG hR h => ?_)
  · obtain ⟨_, _, _, rfl, _⟩ := h
    rfl
  · obtain ⟨p, a, b, rfl, hp, ha, hb, q⟩ := h
    have hu := hR.units
    have hu1 := hu_of hR
    refine ⟨_, (pss_cons (ps_expr (Ow.pe_d (D_check_prime T) hR (by decide) hG pass0 (by rfl) (pa_cons (pv 0) pa_nil)))
      (pss_cons (ps_expr (Ow.pe_d (D_check_number T) hR (by decide) hG pass0 (by rfl) (pa_cons (pv 0) (pa_cons (pv 1) pa_nil))))
      (pss_one (ps_expr (Ow.pe_d (D_check_number T) hR (by decide) hG pass0 (by rfl) (pa_cons (pv 0) (pa_cons (pv 2) pa_nil))))))), ?_⟩
    exact ⟨_, rfl, p, rfl, hp, _, rfl, _, rfl, p, a, rfl, ha, _, rfl, _, rfl, p, b, rfl, hb, q⟩
/-- two numbers and what is made of them -/
def sp_two (f : Int → Int → Int → Int) : Sp := fun vs H Q _ => ∃ p a b, vs = [.int p, .int a, .int b] ∧ Pr p ∧ Nm p a ∧ Nm p b ∧ Q (.int (f p a b)) H
theorem D_plus (T : Tx K mg) : Ow.Df P w K mg base CX0 6 "plus" s_plus ["prime", "one", "other"] (sp_two fun p a b => (a + b) % p) := by
  refine Ow.df_of T.f_plus sc_plus bd_plus (fun vs H Q E h => ?_) (fun cdv A outer s H vs Q E f hG hR h => ?_)
  · obtain ⟨_, _, _, rfl, _⟩ := h
    rfl
  · obtain ⟨p, a, b, rfl, hp, ha, hb, q⟩ := h
    have hu := hR.units
    have hu1 := hu_of hR
    refine ⟨_, (pss_cons (ps_expr (Ow.pe_d (D_check_pair T) hR (by decide) hG pass0 (by rfl) (pa_cons (pv 0) (pa_cons (pv 1) (pa_cons (pv 2) pa_nil)))))
      (pss_one (ps_ret (pe_op op_mod (pe_op op_add (pv 1) (pv 2)) (pv 0))))), ?_⟩
    have lo := hp.lo
    exact ⟨_, rfl, _, rfl, _, rfl, p, a, b, rfl, hp, ha, hb, _, rfl, _, rfl, _, _, rfl, rfl, _, rfl, _, _, rfl, rfl, (show 0 < p by omega), q⟩
theorem D_minus (T : Tx K mg) : Ow.Df P w K mg base CX0 6 "minus" s_minus ["prime", "one", "other"] (sp_two fun p a b => (a - b) % p) := by
  refine Ow.df_of T.f_minus sc_minus bd_minus (fun vs H Q E h => ?_) (fun cdv A outer s H vs Q E f hG hR h => ?_)
  · obtain ⟨_, _, _, rfl, _⟩ := h
    rfl
  · obtain ⟨p, a, b, rfl, hp, ha, hb, q⟩ := h
    have hu := hR.units
    have hu1 := hu_of hR
    refine ⟨_, (pss_cons (ps_expr (Ow.pe_d (D_check_pair T) hR (by decide) hG pass0 (by rfl) (pa_cons (pv 0) (pa_cons (pv 1) (pa_cons (pv 2) pa_nil)))))
      (pss_one (ps_ret (pe_op op_mod (pe_op op_sub (pv 1) (pv 2)) (pv 0))))), ?_⟩
    have lo := hp.lo
    exact ⟨_, rfl, _, rfl, _, rfl, p, a, b, rfl, hp, ha, hb, _, rfl, _, rfl, _, _, rfl, rfl, _, rfl, _, _, rfl, rfl, (show 0 < p by omega), q⟩
theorem D_times (T : Tx K mg) : Ow.Df P w K mg base CX0 6 "times" s_times ["prime", "one", "other"] (sp_two fun p a b => a * b % p) := by
  refine Ow.df_of T.f_times sc_times bd_times (fun vs H Q E h => ?_) (fun cdv A outer s H vs Q E f hG hR h => ?_)
  · obtain ⟨_, _, _, rfl, _⟩ := h
    rfl
  · obtain ⟨p, a, b, rfl, hp, ha, hb, q⟩ := h
    have hu := hR.units
    have hu1 := hu_of hR
    refine ⟨_, (pss_cons (ps_expr (Ow.pe_d (D_check_pair T) hR (by decide) hG pass0 (by rfl) (pa_cons (pv 0) (pa_cons (pv 1) (pa_cons (pv 2) pa_nil)))))
      (pss_one (ps_ret (pe_op op_mod (pe_op op_mul (pv 1) (pv 2)) (pv 0))))), ?_⟩
    have lo := hp.lo
    have hi := hp.hi
    exact ⟨_, rfl, _, rfl, _, rfl, p, a, b, rfl, hp, ha, hb, _, rfl, _, rfl, _, _, rfl, rfl, .inl ⟨by have := ha.1; omega, by have := ha.2; omega⟩, _, rfl, _, _, rfl, rfl, (show 0 < p by omega), q⟩
end

end Eqr
namespace Eqr
open PySem PySem.Spec L2
/-! ### the law's own forms -/
section
variable {P : Program} {w : World} {K : PySem.W.Frag} {mg : Str → Option Value} {base : Heap}
theorem D_law_form (T : Tx K mg) : Ow.Df P w K mg base CX0 1 "_law_form" s_law_form ["prime", "table"] (sp_of_dict K) := by
  refine Ow.df_of T.f_law_form sc_law_form bd_law_form (fun vs H Q E h => ?_) (fun cdv A outer s H vs Q E f hG hR h => ?_)
  · obtain ⟨_, _, _, _, _, rfl, _⟩ := h
    rfl
  · obtain ⟨p, a, kvs, ks, g, rfl, p0, ea, hI, h64, hks, q⟩ := h
    have hu := hR.units
    have hu1 := hu_of hR
    refine ⟨_, (pss_one (ps_ret (pe_callTy Ow.call_tupleF (by rfl) T.b_tuple (by decide +kernel) (pa_cons (pe_lc (own := [("cell", 2)]) (g := gName 2) rfl sc_law_form.nd (pi_list (pe_callB (call_sortedDI rfl) (by rfl) T.b_sorted (by decide +kernel) (pa_cons (pv 1) pa_nil))) (blkOk_by (N := ["prime", "table", "cell"]) (sc := defScope s_law_form) (by decide +kernel)) (fun _ _ _ _ _ => pg_name (i := 2) sc_law_form.nd rfl (Or.inl rfl)) (fun _ _ _ _ _ => pts_one (pt_cmpR op_ne (pe_op op_mod (pe_callTy Ow.call_int (by rfl) T.b_int (by decide +kernel) (pa_cons (pe_dget hu1 (pv 1) (pv 2) (fun _ _ => rfl)) pa_nil)) (pv 0)) pe_int (nomark _))) (fun _ _ _ _ _ => (Ow.pe_tupF (pa_cons (pv 2) (pa_cons (pe_op op_mod (pe_callTy Ow.call_int (by rfl) T.b_int (by decide +kernel) (pa_cons (pe_dget hu1 (pv 1) (pv 2) (fun _ _ => rfl)) pa_nil)) (pv 0)) pa_nil))))) pa_nil)))), ?_⟩
    refine ⟨_, rfl, a, kvs, ks, rfl, .inl ea, hI.keys, h64, ?_⟩
    intro ys l hperm hsort
    intro hp_l
    generalize hx_l : upd _ l _ = H1
    obtain ⟨s1, e1⟩ := fresh_of hp_l hx_l
    clear hx_l
    have hup := strict_of hperm hsort hI.one
    have hlen : ys.length = ks.length := hperm.length_eq
    refine ⟨l, rfl, ⟨_, .of e1⟩, fun D hD => ?_⟩
    refine comp_it (walk_list (K := K) (a := l) (xs := ys.map V.int)) (fun i acc Hh => ∃ ps, acc = ps.map V.ref ∧ Paired (PrT K Hh) ps (made p g (ys.take i))) (Fair.same hD) hD (by rw [List.length_map]; omega) ⟨[], rfl, .nil⟩ (fun H' s => s.seq (.of e1)) ?_ ?_
    · rintro i x acc H2 H3 Nx hi hl s2 eD ⟨ps, rfl, hps⟩ ⟨rfl, hx⟩ hyes hno
      rw [List.getElem?_map] at hx
      obtain ⟨c, hc, rfl⟩ := Option.map_eq_some_iff.mp hx
      have hck : c ∈ ks := hperm.mem_iff.mp (List.mem_of_getElem? hc)
      have ga := hI.get hck (s2 _ _ (s1 _ _ ea))
      refine ⟨rfl, ?_⟩
      refine ⟨_, rfl, _, rfl, a, _, rfl, ga, _, rfl, _, rfl, _, _, rfl, rfl, p0, rfl, _, rfl, iteN2 (fun z => ?_) (fun z => ?_)⟩
      · have z : g c % p ≠ 0 := fun e => z (congrArg V.int e)
        refine ⟨_, rfl, _, rfl, _, rfl, a, _, rfl, ga, _, rfl, _, rfl, _, _, rfl, rfl, p0, (by show 2 ≤ sizeLine; decide), ?_⟩
        intro t ob_t hob_t hp_t
        generalize hx_t : upd _ t _ = H4
        obtain ⟨s4, e4⟩ := fresh_of hp_t hx_t
        clear hx_t
        refine hyes _ H4 (s2.trans s4) (s4 _ _ eD) ⟨ps ++ [t], by rw [List.map_append]; rfl, ?_⟩
        rw [made_step hc, made_one, if_pos z]
        refine paired_app (paired_map hps fun _ _ w => w.sm (hid_mono s4)) (.cons ?_ .nil)
        exact .inl (.inr ⟨ob_t, hid_of (s4 _ _ eD) e4 fun _ w => by cases w⟩)
      · have z : g c % p = 0 := V.int.inj z
        refine hno _ s2 eD ⟨ps, rfl, ?_⟩
        rw [made_step hc, made_one, if_neg (fun w => w z), List.append_nil]
        exact hps
    · rintro acc H2 hl s2 eD ⟨ps, rfl, hps⟩
      rw [List.length_map, List.take_length] at hps
      refine ⟨D, _, rfl, .inl ⟨.of eD, ?_⟩⟩
      intro t ob_t hob_t hp_t
      generalize hx_t : upd _ t _ = H3
      obtain ⟨s3, e3⟩ := fresh_of hp_t hx_t
      clear hx_t
      refine q _ (made p g ys) H3 (s1.trans (s2.trans s3)) ⟨t, ps, rfl, ⟨ob_t, hob_t, e3⟩, paired_map hps fun _ _ w => w.sm (hid_sm.trans s3)⟩ (made_ok p0 hup fun c hc => hks c (hperm.mem_iff.mp hc)) (fun c => look_made hup c ?_) (Nat.le_trans (made_len p g ys) (by omega))
      by_cases hc : c ∈ ks
      · exact .inl (hperm.mem_iff.mpr hc)
      · rw [(hI.no c hc).2, Int.zero_emod]
        exact .inr rfl
def sp_law_weighed (K : PySem.W.Frag) : Sp := fun vs H Q _ => ∃ p vf vw fs ws, vs = [.int p, vf, vw] ∧ 0 < p ∧ Fms K H false vf fs ∧ Rwk K H false vw ws ∧ fs.length = ws.length ∧ (∀ f ∈ fs, Fok p f ∧ p ≤ 10000) ∧ (∀ n ∈ ws, -(2 ^ 64) < n ∧ n < 2 ^ 64) ∧ lsum fs < 64 ∧ Made K p (wsum fs ws) (lsum fs) H Q
theorem D_law_weighed (T : Tx K mg) : Ow.Df P w K mg base CX0 2 "_law_weighed" s_law_weighed ["prime", "forms", "weights"] (sp_law_weighed K) := by
  refine Ow.df_of T.f_law_weighed sc_law_weighed bd_law_weighed (fun vs H Q E h => ?_) (fun cdv A outer s H vs Q E f hG hR h => ?_)
  · obtain ⟨_, _, _, _, _, rfl, _⟩ := h
    rfl
  · obtain ⟨p, vf, vw, fs, ws, rfl, p0, hf, hw, hlen, fo, hws, h64, q⟩ := h
    have hu := hR.units
    have hu1 := hu_of hR
    refine ⟨_, (pss_cons (ps_set (i := 3) sc_law_weighed.nd rfl (Or.inl rfl) pe_dnewK)
      (pss_cons (ps_for PassesOwn.never rfl (RZ.pi_zipA (by rfl) T.b_zip (pa_cons (pv 1) (pa_cons (pv 2) pa_nil))) (pg_tup rfl (pgs_cons (pg_name (i := 4) sc_law_weighed.nd rfl (Or.inl rfl)) (pgs_cons (pg_name (i := 5) sc_law_weighed.nd rfl (Or.inl rfl)) pgs_nil)))
      (pss_one (ps_for PassesOwn.never rfl (pi_tup (pv 4)) (pg_tup rfl (pgs_cons (pg_name (i := 6) sc_law_weighed.nd rfl (Or.inl rfl)) (pgs_cons (pg_name (i := 7) sc_law_weighed.nd rfl (Or.inl rfl)) pgs_nil)))
        (pss_one (ps_dput hu1 (pv 3) (pv 6) (pe_op op_add (pe_dget2 hu1 (pv 3) (pv 6) pe_int ⟨rfl, rfl, rfl, rfl⟩) (pe_op op_mul (pv 7) (pv 5))) rfl)))))
      (pss_one (ps_ret (Ow.pe_d (D_law_form T) hR (by decide) hG pass0 (by rfl) (pa_cons (pv 0) (pa_cons (pv 3) pa_nil))))))), ?_⟩
    obtain ⟨a, xs, rfl, hs, hp⟩ := id hf
    obtain ⟨b, rfl, hb⟩ := hw
    have hl := paired_len hp
    intro d hp_d
    generalize hx_d : upd _ d _ = H1
    obtain ⟨s1, e1⟩ := fresh_of hp_d hx_d
    clear hx_d
    have lmin : fs.length = min xs.length (ws.map V.int).length := by rw [List.length_map]; omega
    refine ⟨_, rfl, _, rfl, a, b, xs, ws.map V.int, rfl, .inl ⟨Ow.SqL.sm hs s1, Ow.SqL.sm hb s1, ?_⟩⟩
    refine for_it (walk_zip (K := K) (a := a) (b := b) (xs := xs) (ys := ws.map V.int) lmin) (fun i σ H' => Same H H' ∧ ∃ kvs ks o4 o5 o6 o7, σ = [some (.int p), some (.ref a), some (.ref b), some (.ref d), o4, o5, o6, o7] ∧ H' d = some (.dK kvs) ∧ IntD kvs ks (wsum (fs.take i) (ws.take i)) ∧ ks.length ≤ lsum (fs.take i) ∧ ∀ c ∈ ks, 0 ≤ c ∧ c ≤ 999)
      ⟨s1, [], [], _, _, _, _, rfl, e1, IntD.nil, Nat.zero_le _, fun c hc => (nomatch hc)⟩ (fun i σ H' _ h => ⟨Ow.SqL.sm hs h.1, Ow.SqL.sm hb h.1⟩) ?_ ?_
    · rintro i v σ H2 H3 hi ⟨s2, kvs, ks, o4, o5, o6, o7, rfl, e2, hI, ln1, hc⟩ ⟨T, x, y, rfl, hT, rfl, hx, hy⟩
      have hx : xs[i]? = some x := hx
      have hy : (ws.map V.int)[i]? = some y := hy
      rw [List.getElem?_map] at hy
      obtain ⟨n, hn, rfl⟩ := Option.map_eq_some_iff.mp hy
      obtain ⟨g, hg⟩ : ∃ g, fs[i]? = some g := ⟨_, List.getElem?_eq_getElem hi⟩
      obtain ⟨x', hx', hq⟩ := paired_at hp i hg
      rw [hx] at hx'
      cases hx'
      have st : Same H2 (upd H2 T (.tup [x, .int n])) := same_new hT
      have hl1 := lsum_take hg
      have hl2 := lsum_le fs (i + 1)
      obtain ⟨go, p1⟩ := fo g (List.mem_of_getElem? hg)
      have wn := hws n (List.mem_of_getElem? hn)
      obtain ⟨c, qs, rfl, sg, qg⟩ := hq.sm (s2.trans st)
      have lq : (qs.map V.ref).length = g.length := by rw [List.length_map, paired_len qg]
      refine ⟨T, _, rfl, .inl (.inl upd_same), rfl, _, _, rfl, _, _, rfl, rfl, ?_⟩
      refine ⟨_, rfl, c, rfl, ⟨_, sg⟩, for_it (walk_tup (K := K) (a := c) (xs := qs.map V.ref)) (fun j σ H' => Same H H' ∧ SqT K H' c (qs.map V.ref) ∧ Paired (PrT K H') qs g ∧ ∃ kvs ks o6 o7, σ = [some (.int p), some (.ref a), some (.ref b), some (.ref d), some (.ref c), some (.int n), o6, o7] ∧ H' d = some (.dK kvs) ∧
          IntD kvs ks (fun e => wsum (fs.take i) (ws.take i) e + n * look (g.take j) e) ∧ ks.length ≤ lsum (fs.take i) + j ∧ ∀ c ∈ ks, 0 ≤ c ∧ c ≤ 999) ⟨s2.trans st, sg, qg, kvs, ks, _, _, rfl, st _ _ e2, ?_, by omega, hc⟩ (fun j σ H' _ h => h.2.1) ?_ ?_⟩
      · have e : (fun e => wsum (fs.take i) (ws.take i) e + n * look (g.take 0) e) = wsum (fs.take i) (ws.take i) := by
          funext e
          show wsum (fs.take i) (ws.take i) e + n * 0 = _
          omega
        rw [e]
        exact hI
      · rintro j v σ H4 H5 hj ⟨s4, sg4, qg4, kvs, ks, o6, o7, rfl, e4, hI, ln4, hc⟩ ⟨rfl, hv⟩
        rw [List.getElem?_map] at hv
        obtain ⟨t, ht, rfl⟩ := Option.map_eq_some_iff.mp hv
        obtain ⟨x, hx⟩ : ∃ x, g[j]? = some x := ⟨_, List.getElem?_eq_getElem (show j < g.length by omega)⟩
        obtain ⟨t', ht', hpr⟩ := paired_at qg4 j hx
        rw [ht] at ht'
        cases ht'
        have cx := go.ok x (List.mem_of_getElem? hx)
        refine ⟨t, _, rfl, hpr, rfl, _, _, rfl, _, _, rfl, rfl, ?_⟩
        refine ⟨_, rfl, d, rfl, .inl ⟨_, .inl e4⟩, _, rfl, _, DGet.k (k := .inl x.1) e4, _, rfl, _, rfl, _, _, rfl, rfl, .inr wn, _, _, get_val hI x.1, rfl, ?_⟩
        obtain ⟨ks', hI', hl', hk'⟩ := hI.put x.1 (wsum (fs.take i) (ws.take i) x.1 + n * look (g.take j) x.1 + x.2 * n)
        have keep : ∀ (o : HO) b u, b ≠ d → H5 b = some u → (upd H5 d o) b = some u := fun o b u nb e => by rw [upd_ne nb]; exact e
        have ncd : ∀ {b : Addr} {xs : List V}, SqT K H5 b xs → SqT K (upd H5 d (.dK (putK kvs (.inl x.1) (.int (wsum (fs.take i) (ws.take i) x.1 + n * look (g.take j) x.1 + x.2 * n))))) b xs := by
          intro b xs hb
          rcases hb with (z | ⟨ob, z⟩) | z
          · exact .inl (.inl (keep _ _ _ (fun e => by rw [e, e4] at z; cases z) z))
          · exact .inl (.inr ⟨ob, keep _ _ _ (fun e => by rw [e, e4] at z; cases z) z⟩)
          · exact .inr z
        refine ⟨_, rfl, _, rfl, d, _, rfl, DPut.k (k := .inl x.1) e4 (by rw [hI.len]; exact Evl.sz_lt (by omega)), fun b o e => ?_, ncd sg4, paired_map qg4 fun _ _ z => ncd z, _, ks', _, _, rfl, upd_same, ?_, by omega, ?_⟩
        · rw [upd_ne (ne_of_none e hp_d)]
          exact s4 _ _ e
        · have e : (fun e => wsum (fs.take i) (ws.take i) e + n * look (g.take (j + 1)) e) = fun c => if c = x.1 then wsum (fs.take i) (ws.take i) x.1 + n * look (g.take j) x.1 + x.2 * n else wsum (fs.take i) (ws.take i) c + n * look (g.take j) c := by
            funext c
            rw [look_take go.up hx]
            by_cases z : c = x.1
            · rw [if_pos z, if_pos z, z, Int.mul_add, Int.mul_comm x.2 n]
              omega
            · rw [if_neg z, if_neg z, Int.add_zero]
          rw [e]
          exact hI'
        · intro c hc'
          rcases (hk' c).mp hc' with z | z
          · exact hc c z
          · rw [z]
            exact ⟨cx.1, cx.2.1⟩
      · rintro σ H4 ⟨s4, sg4, qg4, kvs, ks, o6, o7, rfl, e4, hI, ln4, hc⟩
        rw [lq, List.take_length] at hI
        refine ⟨s4, kvs, ks, _, _, _, _, rfl, e4, ?_, by omega, hc⟩
        have e : wsum (fs.take (i + 1)) (ws.take (i + 1)) = fun e => wsum (fs.take i) (ws.take i) e + n * look g e := by
          funext c
          exact wsum_take hg hn c
        rw [e]
        exact hI
    · rintro σ H2 ⟨s2, kvs, ks, o4, o5, o6, o7, rfl, e2, hI, ln1, hc⟩
      have e : ws.take fs.length = ws := by rw [hlen, List.take_length]
      rw [List.take_length] at hI ln1
      rw [e] at hI
      exact ⟨_, rfl, _, rfl, p, d, kvs, ks, _, rfl, p0, e2, hI, by omega, hc, q.mono s2 ln1⟩
def sp_law_value (K : PySem.W.Frag) : Sp := fun vs H Q _ => ∃ p vf vr f ns, vs = [.int p, vf, vr] ∧ 0 < p ∧ FmT K H vf f ∧ Rwk K H false vr ns ∧ Below ns.length f ∧ f.length < 1000 ∧ (∀ x ∈ f, 0 ≤ x.2 ∧ x.2 ≤ 10000) ∧ ∀ H', Same H H' → Q (.int (valF f (rowF ns) % p)) H'
theorem D_law_value (T : Tx K mg) : Ow.Df P w K mg base CX0 1 "_law_value" s_law_value ["prime", "form", "row"] (sp_law_value K) := by
  refine Ow.df_of T.f_law_value sc_law_value bd_law_value (fun vs H Q E h => ?_) (fun cdv A outer s H vs Q E f hG hR h => ?_)
  · obtain ⟨_, _, _, _, _, rfl, _⟩ := h
    rfl
  · obtain ⟨p, vf, vr, f, ns, rfl, p0, hf, hr, bf, hl, hs, q⟩ := h
    have hu := hR.units
    have hu1 := hu_of hR
    refine ⟨_, (pss_one (ps_ret (pe_op op_mod (pe_callTy Ow.call_int (by rfl) T.b_int (by decide +kernel) (pa_cons (pe_callB (cr_sum rfl) (by rfl) T.b_sum (by decide +kernel) (pa_cons (pe_lc (own := [("cell", 3), ("number", 4)]) (g := gTup K 2 (gCons (gName 3) (gCons (gName 4) gNil))) rfl sc_law_value.nd (pi_tup (pv 1)) (blkOk_by (N := ["prime", "form", "row", "cell", "number"]) (sc := defScope s_law_value) (by decide +kernel)) (fun _ _ _ _ _ => pg_tup rfl (pgs_cons (pg_name (i := 3) sc_law_value.nd rfl (Or.inl rfl)) (pgs_cons (pg_name (i := 4) sc_law_value.nd rfl (Or.inl rfl)) pgs_nil))) (fun _ _ _ _ _ => pts_nil) (fun _ _ _ _ _ => (pe_op op_mul (pv 4) (pe_ix (Ow.ixLK K rfl) (pv 2) (pv 3) (fun _ _ => rfl))))) pa_nil)) pa_nil)) (pv 0)))), ?_⟩
    obtain ⟨a, ps, rfl, sf, qf⟩ := hf
    obtain ⟨b, rfl, hr⟩ := hr
    have hr : SqL K H b (ns.map V.int) := hr
    have lp : (ps.map V.ref).length = f.length := by rw [List.length_map, paired_len qf]
    refine ⟨_, rfl, a, rfl, ⟨_, sf⟩, fun D hD => ?_⟩
    refine comp_it (walk_tup (K := K) (a := a) (xs := ps.map V.ref)) (fun i acc Hh => acc = ((f.take i).map fun x => x.2 * rowF ns x.1).map V.int) (Fair.same hD) hD (by omega) rfl (fun H' s => Ow.SqT.sm sf s) ?_ ?_
    · rintro i v acc H2 H3 Nx hi hl s2 eD rfl ⟨rfl, hv⟩ hyes hno
      rw [List.getElem?_map] at hv
      obtain ⟨t, ht, rfl⟩ := Option.map_eq_some_iff.mp hv
      obtain ⟨x, hx⟩ : ∃ x, f[i]? = some x := ⟨_, List.getElem?_eq_getElem (show i < f.length by omega)⟩
      obtain ⟨t', ht', hp⟩ := paired_at qf i hx
      rw [ht] at ht'
      cases ht'
      have bx := bf x (List.mem_of_getElem? hx)
      have sx := hs x (List.mem_of_getElem? hx)
      refine ⟨t, _, rfl, hp.sm s2, rfl, _, _, rfl, _, _, rfl, rfl, rfl, iteT (B := Nx H3) ?_⟩
      have fin := hyes (.int (x.2 * rowF ns x.1)) H3 s2 eD (by rw [List.take_succ, hx]; simp)
      exact ⟨_, rfl, _, rfl, _, rfl, b, _, x.1, _, rfl, rfl, Ow.SqL.sm hr s2, rowF_at bx.1 bx.2, _, _, rfl, rfl, .inl ⟨by omega, by omega⟩, fin⟩
    · rintro acc H2 hl2 s2 eD rfl
      rw [lp, List.take_length] at eD
      exact ⟨D, _, rfl, .of eD, _, rfl, _, rfl, _, _, rfl, rfl, p0, q H2 s2⟩
def sp_law_drawn_form (K : PySem.W.Frag) : Sp := fun vs H Q _ => ∃ a p m n, vs = [.ref a, .int p, .int m, .int n] ∧ PotAt H a ∧ 0 < p ∧ p ≤ 10000 ∧ 0 < m ∧ m ≤ 1000 ∧ 0 ≤ n ∧ n < 60 ∧ ∀ v f H', Stp a H H' → FmF K H' v f → Fok p f → f.length ≤ n.toNat → (∀ x ∈ f, x.1 < m) → Q v H'
theorem stp_upd {a d : Addr} {H H' : Hp} {o : HO} (s : Stp a H H') (h : H d = none) (n : d ≠ a) : Stp a H (upd H' d o) := by
  refine ⟨fun b u nb e => ?_, ?_⟩
  · rw [upd_ne (ne_of_none e h)]
    exact s.kp b u nb e
  · obtain ⟨x, y, e, r⟩ := s.pot
    exact ⟨x, y, by rw [upd_ne n.symm]; exact e, r⟩
theorem D_law_drawn_form (T : Tx K mg) : Ow.Df P w K mg base CX0 2 "_law_drawn_form" s_law_drawn_form ["pot", "prime", "cells", "most"] (sp_law_drawn_form K) := by
  refine Ow.df_of T.f_law_drawn_form sc_law_drawn_form bd_law_drawn_form (fun vs H Q E h => ?_) (fun cdv A outer s H vs Q E f hG hR h => ?_)
  · obtain ⟨_, _, _, _, rfl, _⟩ := h
    rfl
  · obtain ⟨a, p, m, n, rfl, hpot, p0, p1, m0, m1, n0, n1, q⟩ := h
    have hu := hR.units
    have hu1 := hu_of hR
    refine ⟨_, (pss_cons (ps_set (i := 4) sc_law_drawn_form.nd rfl (Or.inl rfl) pe_dnewK)
      (pss_cons (ps_for PassesOwn.never rfl (pi_range1 (by rfl) T.b_range (pa_cons (Ow.pe_d (D_law_draw T) hR (by decide) hG pass0 (by rfl) (pa_cons (pv 0) (pa_cons (pe_op op_add (pv 3) pe_int) pa_nil))) pa_nil)) (pg_name (i := 5) sc_law_drawn_form.nd rfl (Or.inl rfl))
      (pss_one (ps_dput hu1 (pv 4) (Ow.pe_d (D_law_draw T) hR (by decide) hG pass0 (by rfl) (pa_cons (pv 0) (pa_cons (pv 2) pa_nil))) (Ow.pe_d (D_law_draw T) hR (by decide) hG pass0 (by rfl) (pa_cons (pv 0) (pa_cons (pv 1) pa_nil))) rfl)))
      (pss_one (ps_ret (Ow.pe_d (D_law_form T) hR (by decide) hG pass0 (by rfl) (pa_cons (pv 1) (pa_cons (pv 4) pa_nil))))))), ?_⟩
    intro d hp_d
    generalize hx_d : upd _ d _ = H1
    obtain ⟨s1, e1⟩ := fresh_of hp_d hx_d
    clear hx_d
    have pot1 := hpot.same s1
    have nda := hpot.ne hp_d
    refine ⟨_, rfl, _, rfl, _, _, rfl, rfl, a, n + 1, rfl, pot1, by omega, by omega, fun k H2 s2 k0 k1 => ?_⟩
    have st2 := (Stp.of hpot s1).trans s2
    refine ⟨k, rfl, by omega, by omega, for_range (lo := 0) (n := k.toNat) (fun i σ H' => Stp a H H' ∧ ∃ kvs ks g o5, σ = [some (.ref a), some (.int p), some (.int m), some (.int n), some (.ref d), o5] ∧ H' d = some (.dK kvs) ∧ IntD kvs ks g ∧ ks.length ≤ i ∧ ∀ c ∈ ks, 0 ≤ c ∧ c < m)
      ⟨st2, [], [], _, _, rfl, s2.kp _ _ nda e1, IntD.nil, Nat.zero_le _, fun c hc => (nomatch hc)⟩ ?_ ?_⟩
    · rintro i σ H3 hi ⟨st3, kvs, ks, g, o5, rfl, e3, hI, hl, hc⟩
      refine ⟨_, rfl, _, rfl, a, p, rfl, st3.pot, by omega, by omega, fun v H4 s4 v0 v1 => ?_⟩
      refine ⟨_, rfl, _, rfl, _, rfl, a, m, rfl, s4.pot, by omega, by omega, fun c H5 s5 c0 c1 => ?_⟩
      have st5 := st3.trans (s4.trans s5)
      have e5 := s5.kp _ _ nda (s4.kp _ _ nda e3)
      obtain ⟨ks', hI', hl', hk'⟩ := hI.put c v
      refine ⟨d, _, rfl, DPut.k (k := .inl c) e5 (by rw [hI.len]; exact Evl.sz_lt (by omega)), stp_upd st5 hp_d nda, _, ks', _, _, rfl, upd_same, hI', by omega, fun z hz => ?_⟩
      rcases (hk' z).mp hz with y | y
      · exact hc z y
      · rw [y]
        exact ⟨c0, c1⟩
    · rintro σ H3 ⟨st3, kvs, ks, g, o5, rfl, e3, hI, hl, hc⟩
      refine ⟨_, rfl, _, rfl, p, d, kvs, ks, g, rfl, p0, e3, hI, by omega, fun c hc2 => by have := hc c hc2; omega, fun v f H4 s4 hf fo lk ln => ?_⟩
      refine q v f H4 (st3.same s4) hf fo (by omega) fun x hx => ?_
      have nz := fo.nz hx
      rw [lk] at nz
      by_cases z : x.1 ∈ ks
      · exact (hc _ z).2
      · rw [(hI.no _ z).2, Int.zero_emod] at nz
        exact absurd rfl nz
end

end Eqr
namespace Eqr
open PySem PySem.Spec L2
/-! ### the law's walk -/
section
variable {P : Program} {w : World} {K : PySem.W.Frag} {mg : Str → Option Value} {base : Heap}
theorem tup_stp {a b : Addr} {H H' : Hp} {xs : List V} (h : SqT K H b xs) (p : PotAt H a) (s : Stp a H H') : SqT K H' b xs := by
  obtain ⟨x, y, e, _⟩ := p
  rcases h with (z | ⟨ob, z⟩) | z
  · exact .inl (.inl (s.kp _ _ (fun q => by rw [q, e] at z; cases z) z))
  · exact .inl (.inr ⟨ob, s.kp _ _ (fun q => by rw [q, e] at z; cases z) z⟩)
  · exact .inr z
theorem FmT.stp {a : Addr} {H H' : Hp} {v : V} {f : Fm} (h : FmT K H v f) (p : PotAt H a) (s : Stp a H H') : FmT K H' v f := by
  obtain ⟨b, ps, e, x, q⟩ := h
  exact ⟨b, ps, e, tup_stp x p s, paired_map q fun _ _ z => tup_stp z p s⟩
theorem FmF.stp {a : Addr} {H H' : Hp} {v : V} {f : Fm} (h : FmF K H v f) (p : PotAt H a) (s : Stp a H H') : FmF K H' v f := by
  obtain ⟨b, ps, e, ⟨ob, ho, z⟩, q⟩ := h
  obtain ⟨x, y, e2, _⟩ := id p
  exact ⟨b, ps, e, ⟨ob, ho, s.kp _ _ (fun q => by rw [q, e2] at z; cases z) z⟩, paired_map q fun _ _ z => tup_stp z p s⟩
/-- lists of forms that can be shown -/
theorem shw_list {ds : List PyData} (h : ∀ d ∈ ds, Ow.Shows 2 100 d) (hn : ds.length ≤ 20) : (PyData.list ds).hasDict = false ∧ (PyData.list ds).showable = true ∧ (PyData.list ds).depth ≤ 60 ∧ (PyData.list ds).shown.length ≤ sizeLine := by
  refine (Ow.Shows.list (Ow.ShowsAll.of h)).ok (by decide) ?_
  have : ds.length * (100 + 1) ≤ 20 * 101 := Nat.mul_le_mul_right 101 hn
  omega
theorem fm_shw {p : Int} {f : Fm} (h : Fok p f) (hp : p ≤ 10000) (hn : f.length ≤ 30) : Ow.Shows 2 100 (fmD f) := (fmD_shows h hp hn).mono (Nat.le_refl _) (by omega)
theorem shw2 {d e : PyData} (h : Ow.Shows 2 100 d) (g : Ow.Shows 2 100 e) : ∀ x ∈ [d, e], Ow.Shows 2 100 x := fun x hx => by
  simp only [List.mem_cons, List.not_mem_nil, or_false] at hx
  rcases hx with rfl | rfl <;> assumption
theorem shw3 {d e f : PyData} (h : Ow.Shows 2 100 d) (g : Ow.Shows 2 100 e) (k : Ow.Shows 2 100 f) : ∀ x ∈ [d, e, f], Ow.Shows 2 100 x := fun x hx => by
  simp only [List.mem_cons, List.not_mem_nil, or_false] at hx
  rcases hx with rfl | rfl | rfl <;> assumption
theorem shw_int {i : Int} (h0 : -(10 ^ 38) < i) (h1 : i < 10 ^ 38) : Ow.Shows 2 100 (.int i) := (Ow.Shows.int h0 h1).mono (by omega) (by omega)
theorem same_fm {p : Int} {f g : Fm} (hf : Fok p f) (hg : Fok p g) {h k : Int → Int} (e1 : ∀ c, look f c = h c % p) (e2 : ∀ c, look g c = k c % p) (e : ∀ c, h c = k c) : f = g := hf.ext hg fun c => by rw [e1, e2, e]
theorem below_of {p : Int} {n : Nat} {r f g : Fm} (hr : Fok p r) (bf : Below n f) (bg : Below n g) (h : ∀ c, look f c = 0 → look g c = 0 → look r c = 0) : Below n r := fun x hx => by
  have nz := hr.nz hx
  by_cases z : look f x.1 = 0
  · by_cases y : look g x.1 = 0
    · exact absurd (h _ z y) nz
    · exact bg (x.1, look g x.1) (look_in y)
  · exact bf (x.1, look f x.1) (look_in z)
theorem v_sum {p k : Int} {n : Nat} {r f g : Fm} {row : Int → Int} (hr : Fok p r) (hf : Rise f) (hg : Rise g) (br : Below n r) (bf : Below n f) (bg : Below n g) (e : ∀ c, look r c = (look f c + k * look g c) % p) :
    valF r row % p = (valF f row % p + k * (valF g row % p)) % p := by
  have c := valF_lin (k := k) hr.up hf hg br bf bg (fun c => by rw [e]; exact Cg.rest p _) row
  rw [c.emod]
  exact (((Cg.rest p (valF f row)).add ((Cg.refl p k).mul (Cg.rest p (valF g row)))).emod).symm
theorem ints_ex {xs : List V} {R : Int → Prop} (h : ∀ (k : Nat) v, xs[k]? = some v → ∃ d, v = .int d ∧ R d) : ∃ ns : List Int, xs = ns.map V.int ∧ ns.length = xs.length ∧ ∀ n ∈ ns, R n := by
  induction xs with
  | nil => exact ⟨[], rfl, rfl, fun n hn => (nomatch hn)⟩
  | cons x xs ih =>
    obtain ⟨d, e, r⟩ := h 0 x rfl
    obtain ⟨ns, e2, l, a⟩ := ih fun k v hv => h (k + 1) v (by simpa using hv)
    refine ⟨d :: ns, by rw [e, e2]; rfl, by simp [l], fun n hn => ?_⟩
    rcases List.mem_cons.mp hn with z | z
    · rw [z]
      exact r
    · exact a n z
theorem cut_to {xs : List V} {k : Nat} (h : k ≤ xs.length) : cutV xs none (some (k : Int)) = xs.take k := by
  unfold cutV
  have e1 : HT.sIx xs.length xs.length (some (k : Int)) = min k xs.length := HT.sIx_nat xs.length xs.length k
  rw [e1, HT.sIx_none, Nat.min_eq_left h]
  rfl
theorem cut_from {xs : List V} {k : Nat} (h : k ≤ xs.length) : cutV xs (some (k : Int)) none = xs.drop k := by
  unfold cutV
  have e1 : HT.sIx xs.length 0 (some (k : Int)) = min k xs.length := HT.sIx_nat xs.length 0 k
  rw [e1, HT.sIx_none, Nat.min_eq_left h, List.take_of_length_le]
  rw [List.length_drop]
  omega
/-- a row with another number at one place -/
def putR (ns : List Int) (k : Nat) (v : Int) : List Int := ns.take k ++ [v] ++ ns.drop (k + 1)
theorem putR_len {ns : List Int} {k : Nat} (h : k < ns.length) (v : Int) : (putR ns k v).length = ns.length := by
  unfold putR
  simp
  omega
theorem putR_at {ns : List Int} {k : Nat} (h : k < ns.length) (v : Int) {c : Int} (c0 : 0 ≤ c) : rowF (putR ns k v) c = if c = (k : Int) then v else rowF ns c := by
  unfold rowF putR
  rw [List.getD_eq_getElem?_getD, List.getD_eq_getElem?_getD]
  have lt : (ns.take k).length = k := by rw [List.length_take]; omega
  by_cases z : c = (k : Int)
  · rw [if_pos z, List.append_assoc, List.getElem?_append_right (by omega)]
    have : c.toNat - (ns.take k).length = 0 := by omega
    rw [this]
    rfl
  · rw [if_neg z]
    rcases Int.lt_or_le c k with y | y
    · rw [List.append_assoc, List.getElem?_append_left (by omega), List.getElem?_take_of_lt (by omega)]
    · rw [List.getElem?_append_right (by simp; omega), List.getElem?_drop]
      congr 2
      simp
      omega
theorem valF_put {f : Fm} {ns : List Int} {k : Nat} (hf : Rise f) (bf : Below ns.length f) (hk : k < ns.length) (v : Int) : valF f (rowF (putR ns k v)) = valF (bare f (k : Int)) (rowF ns) + look f (k : Int) * v := by
  have bb : Below ns.length (bare f (k : Int)) := fun x hx => bf x (List.mem_filter.mp hx).1
  rw [valF_sum hf bf, valF_sum (bare_rise hf) bb, ← sumN_one (n := ns.length) (k := (k : Int)) (by omega) (by omega) (look f (k : Int) * v), ← sumN_add]
  refine sumN_congr fun c c0 c1 => ?_
  rw [putR_at hk v c0, look_bare hf]
  by_cases z : c = (k : Int)
  · rw [if_pos z, if_pos z, if_pos z, z, Int.zero_mul, Int.zero_add]
  · rw [if_neg z, if_neg z, if_neg z, Int.add_zero]
def leadD (f : Fm) : PyData := match f.getLast? with
  | none => .none
  | some x => if 0 < x.1 then .int x.1 else .none
theorem lead_dp {H : Hp} (f : Fm) : Dp K H (leadV f) (leadD f) := by
  unfold leadV leadD
  cases f.getLast? with
  | none => exact .non
  | some x =>
    by_cases z : 0 < x.1
    · simp only [if_pos z]
      exact .int _
    · simp only [if_neg z]
      exact .non
theorem lead_shw {p : Int} {f : Fm} (h : Fok p f) : Ow.Shows 2 100 (leadD f) := by
  unfold leadD
  cases e : f.getLast? with
  | none => exact Ow.Shows.none.mono (by omega) (by omega)
  | some x =>
    have := h.ok x (List.mem_of_getLast? e)
    by_cases z : 0 < x.1
    · simp only [if_pos z]
      exact shw_int (by omega) (by omega)
    · simp only [if_neg z]
      exact Ow.Shows.none.mono (by omega) (by omega)
theorem bool_shw (b : Bool) : Ow.Shows 2 100 (.bool b) := (Ow.Shows.bool b).mono (by omega) (by omega)
def wval : List Fm → List Int → (Int → Int) → Int
  | f :: fs, w :: ws, row => w * valF f row + wval fs ws row
  | _, _, _ => 0
theorem wval_take : ∀ {fs : List Fm} {ws : List Int} {i : Nat} {f : Fm} {w : Int}, fs[i]? = some f → ws[i]? = some w → ∀ row, wval (fs.take (i + 1)) (ws.take (i + 1)) row = wval (fs.take i) (ws.take i) row + w * valF f row
  | [], _, i, _, _, h, _, _ => by simp at h
  | _ :: _, [], i, _, _, _, h, _ => by simp at h
  | g :: fs, v :: ws, 0, f, w, h1, h2, row => by
    have e1 : g = f := Option.some.inj h1
    have e2 : v = w := Option.some.inj h2
    subst e1 e2
    show v * valF g row + wval (fs.take 0) (ws.take 0) row = 0 + v * valF g row
    rw [List.take_zero, List.take_zero]
    show v * valF g row + 0 = _
    omega
  | g :: fs, v :: ws, i + 1, f, w, h1, h2, row => by
    have := wval_take (fs := fs) (ws := ws) (i := i) (f := f) (w := w) (by simpa using h1) (by simpa using h2) row
    show v * valF g row + wval (fs.take (i + 1)) (ws.take (i + 1)) row = v * valF g row + wval (fs.take i) (ws.take i) row + w * valF f row
    rw [this]
    omega
theorem wval_sum {n : Nat} (row : Int → Int) : ∀ {fs : List Fm} {ws : List Int}, (∀ f ∈ fs, Rise f ∧ Below n f) → sumN n (fun c => wsum fs ws c * row c) = wval fs ws row
  | [], ws, _ => by
    have e : (fun c => wsum [] ws c * row c) = fun _ => 0 := by
      funext c
      exact Int.zero_mul _
    rw [e, sumN_zero]
    rfl
  | f :: fs, [], _ => by
    have e : (fun c => wsum (f :: fs) [] c * row c) = fun _ => 0 := by
      funext c
      exact Int.zero_mul _
    rw [e, sumN_zero]
    rfl
  | f :: fs, w :: ws, h => by
    have ih := wval_sum row (fs := fs) (ws := ws) fun g hg => h g (List.mem_cons_of_mem _ hg)
    obtain ⟨hr, hb⟩ := h f List.mem_cons_self
    show sumN n (fun c => (w * look f c + wsum fs ws c) * row c) = w * valF f row + wval fs ws row
    rw [← ih, valF_sum hr hb, ← sumN_mul, ← sumN_add]
    refine sumN_congr fun c _ _ => ?_
    rw [Int.add_mul, Int.mul_assoc]
theorem v_wsum {p : Int} {n : Nat} {r : Fm} {fs : List Fm} {ws : List Int} {row : Int → Int} (hr : Fok p r) (br : Below n r) (h : ∀ f ∈ fs, Rise f ∧ Below n f) (e : ∀ c, look r c = wsum fs ws c % p) : valF r row % p = wval fs ws row % p := by
  rw [valF_sum hr.up br, ← wval_sum row h]
  refine (sumN_cg (p := p) fun c => ?_).emod
  rw [e]
  exact (Cg.rest p _).mul (Cg.refl p _)
theorem wsum_zero {c : Int} : ∀ {fs : List Fm} {ws : List Int}, (∀ f ∈ fs, look f c = 0) → wsum fs ws c = 0
  | [], _, _ => rfl
  | _ :: _, [], _ => rfl
  | f :: fs, w :: ws, h => by
    show w * look f c + wsum fs ws c = 0
    rw [h f List.mem_cons_self, wsum_zero fun g hg => h g (List.mem_cons_of_mem _ hg)]
    simp
theorem below_w {p : Int} {n : Nat} {r : Fm} {fs : List Fm} {ws : List Int} (hr : Fok p r) (h : ∀ f ∈ fs, Below n f) (e : ∀ c, look r c = wsum fs ws c % p) : Below n r := fun x hx => by
  have nz := hr.nz hx
  by_cases z : ∀ f ∈ fs, look f x.1 = 0
  · rw [e, wsum_zero z, Int.zero_emod] at nz
    exact absurd rfl nz
  · obtain ⟨f, hz⟩ := Classical.not_forall.mp z
    obtain ⟨hf, hz⟩ := Classical.not_imp.mp hz
    exact h f hf (x.1, look f x.1) (look_in hz)
theorem paired_take {α β : Type} {F : α → β → Prop} : ∀ {as : List α} {bs : List β} (n : Nat), Paired F as bs → Paired F (as.take n) (bs.take n)
  | _, _, 0, _ => by
    rw [List.take_zero, List.take_zero]
    exact .nil
  | _, _, _ + 1, .nil => .nil
  | _, _, n + 1, .cons h t => .cons h (paired_take n t)
def sp_law_right : Sp := fun vs H Q _ => ∃ a, vs = [.ref a] ∧ PotAt H a ∧ ∀ H', Stp a H H' → Q (.bl true) H'
theorem D_law_right (T : Tx K mg) : Ow.Df P w K mg base CX0 8 "_law_right" s_law_right ["pot"] (sp_law_right) := by
  refine Ow.df_of T.f_law_right sc_law_right bd_law_right (fun vs H Q E h => ?_) (fun cdv A outer s H vs Q E f hG hR h => ?_)
  · obtain ⟨_, rfl, _⟩ := h
    rfl
  · obtain ⟨a, rfl, hpot, q⟩ := h
    have hu := hR.units
    have hu1 := hu_of hR
    refine ⟨_, (pss_cons (ps_set (i := 1) sc_law_right.nd rfl (Or.inr rfl) (Ow.pe_d (D_law_pick T) hR (by decide) hG pass0 (by rfl) (pa_cons (pv 0) (pa_cons (pe_lst (pa_cons pe_int (pa_cons pe_int (pa_cons pe_int (pa_cons pe_int (pa_cons pe_int pa_nil)))))) pa_nil))))
      (pss_cons (ps_par (i := 2) (j := 3) rfl sc_law_right.nd rfl rfl (by decide) rfl rfl (pa_cons (Ow.pe_d (D_law_drawn_form T) hR (by decide) hG pass0 (by rfl) (pa_cons (pv 0) (pa_cons (pv 1) (pa_cons (Ow.pe_d (D_law_pick T) hR (by decide) hG pass0 (by rfl) (pa_cons (pv 0) (pa_cons (pe_lst (pa_cons pe_int (pa_cons pe_int pa_nil))) pa_nil))) (pa_cons pe_int pa_nil))))) (pa_cons (Ow.pe_d (D_law_drawn_form T) hR (by decide) hG pass0 (by rfl) (pa_cons (pv 0) (pa_cons (pv 1) (pa_cons (Ow.pe_d (D_law_pick T) hR (by decide) hG pass0 (by rfl) (pa_cons (pv 0) (pa_cons (pe_lst (pa_cons pe_int (pa_cons pe_int pa_nil))) pa_nil))) (pa_cons pe_int pa_nil))))) pa_nil)) (by rfl))
      (Evl.pss_cut (ps_par (i := 4) (j := 5) rfl sc_law_right.nd rfl rfl (by decide) rfl rfl (pa_cons (Ow.pe_d (D_law_draw T) hR (by decide) hG pass0 (by rfl) (pa_cons (pv 0) (pa_cons (pv 1) pa_nil))) (pa_cons (pe_callB (Ow.call_show hu hG) (by rfl) T.b_repr (by decide +kernel) (pa_cons (pe_lst (pa_cons (pv 2) (pa_cons (pv 3) pa_nil))) pa_nil)) pa_nil)) (by rfl))
      (pss_cons (ps_set (i := 6) sc_law_right.nd rfl (Or.inl rfl) (pe_lst (pa_cons (Ow.pe_d (D_law_weighed T) hR (by decide) hG pass0 (by rfl) (pa_cons (pv 1) (pa_cons (pe_lst (pa_cons (pv 2) (pa_cons (pv 3) pa_nil))) (pa_cons (pe_lst (pa_cons pe_int (pa_cons pe_int pa_nil))) pa_nil)))) (pa_cons (Ow.pe_d (D_law_weighed T) hR (by decide) hG pass0 (by rfl) (pa_cons (pv 1) (pa_cons (pe_lst (pa_cons (pv 2) (pa_cons (pv 3) pa_nil))) (pa_cons (pe_lst (pa_cons pe_int (pa_cons (pe_un un_neg pe_int) pa_nil))) pa_nil)))) (pa_cons (Ow.pe_d (D_law_weighed T) hR (by decide) hG pass0 (by rfl) (pa_cons (pv 1) (pa_cons (pe_lst (pa_cons (pv 2) pa_nil)) (pa_cons (pe_lst (pa_cons (pv 4) pa_nil)) pa_nil)))) pa_nil)))))
      (pss_cons (ps_if (PW.pt (pw_or (pt_cmpR op_ne (pe_callB (Ow.call_show hu hG) (by rfl) T.b_repr (by decide +kernel) (pa_cons (pe_lst (pa_cons (Ow.pe_d (D_form_plus T) hR (by decide) hG pass0 (by rfl) (pa_cons (pv 1) (pa_cons (pv 2) (pa_cons (pv 3) pa_nil)))) (pa_cons (Ow.pe_d (D_form_less T) hR (by decide) hG pass0 (by rfl) (pa_cons (pv 1) (pa_cons (pv 2) (pa_cons (pv 3) pa_nil)))) (pa_cons (Ow.pe_d (D_form_times T) hR (by decide) hG pass0 (by rfl) (pa_cons (pv 1) (pa_cons (pv 2) (pa_cons (pv 4) pa_nil)))) pa_nil)))) pa_nil)) (pe_callB (Ow.call_show hu hG) (by rfl) T.b_repr (by decide +kernel) (pa_cons (pv 6) pa_nil)) (nomark _)) (pw_or1 (pt_not (pt_val (pe_callB (cr_all rfl) (by rfl) T.b_all (by decide +kernel) (pa_cons (pe_lc (own := [("one", 7)]) (g := gName 7) rfl sc_law_right.nd (pi_list (pv 6)) (blkOk_by (N := ["pot", "prime", "form", "other", "number", "shown", "dues", "one", "row", "turn", "near", "far", "cell", "late", "due", "lead", "forms", "weights", "total", "weight"]) (sc := defScope s_law_right) (by decide +kernel)) (fun _ _ _ _ _ => pg_name (i := 7) sc_law_right.nd rfl (Or.inl rfl)) (fun _ _ _ _ _ => pts_nil) (fun _ _ _ _ _ => (Ow.pe_d (D_is_form T) hR (by decide) hG pass0 (by rfl) (pa_cons (pv 1) (pa_cons (pv 7) pa_nil))))) pa_nil)))))))
      (pss_one (ps_ret pe_bl))
      pss_nil)
      (pss_cons (ps_if (pt_cmpR op_ne (pe_callB (Ow.call_show hu hG) (by rfl) T.b_repr (by decide +kernel) (pa_cons (pe_lst (pa_cons (Ow.pe_dk0 (D_form_plus T) hR (by decide) hG pass0 w_form_plus_0_against_form_prime (by rfl) (pk_cons (pv 3) (pk_cons (pv 2) (pk_cons (pv 1) pk_nil)))) (pa_cons (Ow.pe_dk0 (D_form_less T) hR (by decide) hG pass0 w_form_less_0_against_form_prime (by rfl) (pk_cons (pv 3) (pk_cons (pv 2) (pk_cons (pv 1) pk_nil)))) (pa_cons (Ow.pe_dk0 (D_form_times T) hR (by decide) hG pass0 w_form_times_0_number_form_prime (by rfl) (pk_cons (pv 4) (pk_cons (pv 2) (pk_cons (pv 1) pk_nil)))) pa_nil)))) pa_nil)) (pe_callB (Ow.call_show hu hG) (by rfl) T.b_repr (by decide +kernel) (pa_cons (pv 6) pa_nil)) (nomark _))
      (pss_one (ps_ret pe_bl))
      pss_nil)
      (pss_cons (ps_set (i := 8) sc_law_right.nd rfl (Or.inr rfl) (pe_op op_cat (pe_lst (pa_cons pe_int pa_nil)) (pe_lc (own := [("turn", 9)]) (g := gName 9) rfl sc_law_right.nd (pi_range1 (by rfl) T.b_range (pa_cons pe_int pa_nil)) (blkOk_by (N := ["pot", "prime", "form", "other", "number", "shown", "dues", "one", "row", "turn", "near", "far", "cell", "late", "due", "lead", "forms", "weights", "total", "weight"]) (sc := defScope s_law_right) (by decide +kernel)) (fun _ _ _ _ _ => pg_name (i := 9) sc_law_right.nd rfl (Or.inl rfl)) (fun _ _ _ _ _ => pts_nil) (fun _ _ _ _ _ => (Ow.pe_d (D_law_draw T) hR (by decide) hG pass0 (by rfl) (pa_cons (pv 0) (pa_cons (pv 1) pa_nil)))))))
      (Evl.pss_cut (ps_par (i := 10) (j := 11) rfl sc_law_right.nd rfl rfl (by decide) rfl rfl (pa_cons (Ow.pe_d (D_law_value T) hR (by decide) hG pass0 (by rfl) (pa_cons (pv 1) (pa_cons (pv 2) (pa_cons (pv 8) pa_nil)))) (pa_cons (Ow.pe_d (D_law_value T) hR (by decide) hG pass0 (by rfl) (pa_cons (pv 1) (pa_cons (pv 3) (pa_cons (pv 8) pa_nil)))) pa_nil)) (by rfl))
      (pss_cons (ps_if (pt_cmpR op_ne (pe_callB (Ow.call_show hu hG) (by rfl) T.b_repr (by decide +kernel) (pa_cons (pe_lst (pa_cons (Ow.pe_d (D_form_value T) hR (by decide) hG pass0 (by rfl) (pa_cons (pv 1) (pa_cons (pv 2) (pa_cons (pv 8) pa_nil)))) (pa_cons (Ow.pe_dk0 (D_form_value T) hR (by decide) hG pass0 w_form_value_0_row_form_prime (by rfl) (pk_cons (pe_callTy Ow.call_tupleF (by rfl) T.b_tuple (by decide +kernel) (pa_cons (pv 8) pa_nil)) (pk_cons (pv 3) (pk_cons (pv 1) pk_nil)))) pa_nil))) pa_nil)) (pe_callB (Ow.call_show hu hG) (by rfl) T.b_repr (by decide +kernel) (pa_cons (pe_lst (pa_cons (pv 10) (pa_cons (pv 11) pa_nil))) pa_nil)) (nomark _))
      (pss_one (ps_ret pe_bl))
      pss_nil)
      (pss_cons (ps_if (pt_cmpR (op_neD hu) (pe_lc (own := [("one", 7)]) (g := gName 7) rfl sc_law_right.nd (pi_list (pv 6)) (blkOk_by (N := ["pot", "prime", "form", "other", "number", "shown", "dues", "one", "row", "turn", "near", "far", "cell", "late", "due", "lead", "forms", "weights", "total", "weight"]) (sc := defScope s_law_right) (by decide +kernel)) (fun _ _ _ _ _ => pg_name (i := 7) sc_law_right.nd rfl (Or.inl rfl)) (fun _ _ _ _ _ => pts_nil) (fun _ _ _ _ _ => (Ow.pe_d (D_law_value T) hR (by decide) hG pass0 (by rfl) (pa_cons (pv 1) (pa_cons (pv 7) (pa_cons (pv 8) pa_nil)))))) (pe_lst (pa_cons (Ow.pe_d (D_plus T) hR (by decide) hG pass0 (by rfl) (pa_cons (pv 1) (pa_cons (pv 10) (pa_cons (pv 11) pa_nil)))) (pa_cons (Ow.pe_d (D_minus T) hR (by decide) hG pass0 (by rfl) (pa_cons (pv 1) (pa_cons (pv 10) (pa_cons (pv 11) pa_nil)))) (pa_cons (Ow.pe_d (D_times T) hR (by decide) hG pass0 (by rfl) (pa_cons (pv 1) (pa_cons (pv 4) (pa_cons (pv 10) pa_nil)))) pa_nil)))) (nomark _))
      (pss_one (ps_ret pe_bl))
      pss_nil)
      (pss_cons (ps_set (i := 12) sc_law_right.nd rfl (Or.inr rfl) (pe_op op_add pe_int (Ow.pe_d (D_law_draw T) hR (by decide) hG pass0 (by rfl) (pa_cons (pv 0) (pa_cons pe_int pa_nil)))))
      (Evl.pss_cut (ps_set (i := 13) sc_law_right.nd rfl (Or.inl rfl) (pe_op op_cat (pe_op op_cat (pe_slice sl_list (pv 8) po_none (po_some (pv 12))) (pe_lst (pa_cons (pv 11) pa_nil))) (pe_slice sl_list (pv 8) (po_some (pe_op op_add (pv 12) pe_int)) po_none)))
      (pss_cons (ps_set (i := 14) sc_law_right.nd rfl (Or.inl rfl) (Ow.pe_d (D_law_weighed T) hR (by decide) hG pass0 (by rfl) (pa_cons (pv 1) (pa_cons (pe_lst (pa_cons (pe_callTy Ow.call_tupleF (by rfl) T.b_tuple (by decide +kernel) (pa_cons (pe_lc (own := [("one", 7)]) (g := gName 7) rfl sc_law_right.nd (pi_tup (pv 2)) (blkOk_by (N := ["pot", "prime", "form", "other", "number", "shown", "dues", "one", "row", "turn", "near", "far", "cell", "late", "due", "lead", "forms", "weights", "total", "weight"]) (sc := defScope s_law_right) (by decide +kernel)) (fun _ _ _ _ _ => pg_name (i := 7) sc_law_right.nd rfl (Or.inl rfl)) (fun _ _ _ _ _ => pts_one (pt_cmpR op_ne (pe_ix (Ow.ixTK K rfl) (pv 7) pe_int (fun _ _ => rfl)) (pv 12) (nomark _))) (fun _ _ _ _ _ => (pv 7))) pa_nil)) (pa_cons (pv 3) pa_nil))) (pa_cons (pe_lst (pa_cons pe_int (pa_cons (pe_dget2 hu1 (pe_callTy (Ow.call_dictF rfl) (by rfl) T.b_dict (by decide +kernel) (pa_cons (pv 2) pa_nil)) (pv 12) pe_int ⟨rfl, rfl, rfl, rfl⟩) pa_nil))) pa_nil)))))
      (pss_cons (ps_if (pt_cmpR op_ne (pe_callB (Ow.call_show hu hG) (by rfl) T.b_repr (by decide +kernel) (pa_cons (pe_lst (pa_cons (Ow.pe_d (D_form_put T) hR (by decide) hG pass0 (by rfl) (pa_cons (pv 1) (pa_cons (pv 2) (pa_cons (pv 12) (pa_cons (pv 3) pa_nil))))) (pa_cons (Ow.pe_dk0 (D_form_put T) hR (by decide) hG pass0 w_form_put_0_against_cell_form_prime (by rfl) (pk_cons (pv 3) (pk_cons (pv 12) (pk_cons (pv 2) (pk_cons (pv 1) pk_nil))))) pa_nil))) pa_nil)) (pe_callB (Ow.call_show hu hG) (by rfl) T.b_repr (by decide +kernel) (pa_cons (pe_lst (pa_cons (pv 14) (pa_cons (pv 14) pa_nil))) pa_nil)) (nomark _))
      (pss_one (ps_ret pe_bl))
      pss_nil)
      (pss_cons (ps_if (PW.pt (pw_or (pt_cmpR op_ne (Ow.pe_d (D_form_value T) hR (by decide) hG pass0 (by rfl) (pa_cons (pv 1) (pa_cons (pv 14) (pa_cons (pv 8) pa_nil)))) (Ow.pe_d (D_law_value T) hR (by decide) hG pass0 (by rfl) (pa_cons (pv 1) (pa_cons (pv 2) (pa_cons (pv 13) pa_nil)))) (nomark _)) (pw_or1 (pt_cmpR (op_neD hu) (Ow.pe_d (D_form_put T) hR (by decide) hG pass0 (by rfl) (pa_cons (pv 1) (pa_cons (pv 2) (pa_cons (pv 12) (pa_cons (Ow.pe_tupF (pa_cons (Ow.pe_tupF (pa_cons (pv 12) (pa_cons pe_int pa_nil))) pa_nil)) pa_nil))))) (pv 2) (nomark _)))))
      (pss_one (ps_ret pe_bl))
      pss_nil)
      (Evl.pss_cut (ps_set (i := 15) sc_law_right.nd rfl (Or.inl rfl) (pe_ifExp (PW.pt (pw_and (pt_cmpR (op_neD hu) (pv 2) (Ow.pe_tupF pa_nil) (nomark _)) (pw_and1 (pt_cmpR op_gt (pe_ix ix_tup (pe_ix ix_tup (pv 2) (pe_un un_neg pe_int) (fun _ _ => rfl)) pe_int (fun _ _ => rfl)) pe_int (nomark _))))) (pe_ix ix_tup (pe_ix ix_tup (pv 2) (pe_un un_neg pe_int) (fun _ _ => rfl)) pe_int (fun _ _ => rfl)) pe_non))
      (pss_cons (ps_if (PW.pt (pw_or (pt_cmpR op_ne (pe_callB (Ow.call_show hu hG) (by rfl) T.b_repr (by decide +kernel) (pa_cons (pe_lst (pa_cons (Ow.pe_d (D_lead_of T) hR (by decide) hG pass0 (by rfl) (pa_cons (pv 1) (pa_cons (pv 2) pa_nil))) (pa_cons (Ow.pe_dk0 (D_lead_of T) hR (by decide) hG pass0 w_lead_of_0_form_prime (by rfl) (pk_cons (pv 2) (pk_cons (pv 1) pk_nil))) pa_nil))) pa_nil)) (pe_callB (Ow.call_show hu hG) (by rfl) T.b_repr (by decide +kernel) (pa_cons (pe_lst (pa_cons (pv 15) (pa_cons (pv 15) pa_nil))) pa_nil)) (nomark _)) (pw_or1 (pt_cmpR op_ne (pe_callB (Ow.call_show hu hG) (by rfl) T.b_repr (by decide +kernel) (pa_cons (pe_lst (pa_cons (Ow.pe_d (D_is_constant T) hR (by decide) hG pass0 (by rfl) (pa_cons (pv 1) (pa_cons (pv 2) pa_nil))) (pa_cons (Ow.pe_dk0 (D_is_constant T) hR (by decide) hG pass0 w_is_constant_0_form_prime (by rfl) (pk_cons (pv 2) (pk_cons (pv 1) pk_nil))) pa_nil))) pa_nil)) (pe_callB (Ow.call_show hu hG) (by rfl) T.b_repr (by decide +kernel) (pa_cons (pe_op op_rep (pe_lst (pa_cons (pe_cmpR op_isN (pv 15) pe_non (nomark _)) pa_nil)) pe_int) pa_nil)) (nomark _)))))
      (pss_one (ps_ret pe_bl))
      pss_nil)
      (pss_cons (ps_set (i := 16) sc_law_right.nd rfl (Or.inl rfl) (pe_slice sl_list (pe_lst (pa_cons (pv 2) (pa_cons (pv 3) (pa_cons (Ow.pe_d (D_law_drawn_form T) hR (by decide) hG pass0 (by rfl) (pa_cons (pv 0) (pa_cons (pv 1) (pa_cons pe_int (pa_cons pe_int pa_nil))))) pa_nil)))) po_none (po_some (Ow.pe_d (D_law_draw T) hR (by decide) hG pass0 (by rfl) (pa_cons (pv 0) (pa_cons pe_int pa_nil))))))
      (pss_cons (ps_setLc (i := 17) (own := [("one", 7)]) (g := gName 7) rfl sc_law_right.nd rfl rfl (sw_true rfl rfl rfl (by decide +kernel)) (pi_list (pv 16)) (blkOk_by (N := ["pot", "prime", "form", "other", "number", "shown", "dues", "one", "row", "turn", "near", "far", "cell", "late", "due", "lead", "forms", "weights", "total", "weight"]) (sc := defScope s_law_right) (by decide +kernel)) (fun _ _ _ _ _ => pg_name (i := 7) sc_law_right.nd rfl (Or.inl rfl)) (fun _ _ _ _ _ => pts_nil) (fun _ _ _ _ _ => (Ow.pe_d (D_law_draw T) hR (by decide) hG pass0 (by rfl) (pa_cons (pv 0) (pa_cons (pv 1) pa_nil)))))
      (pss_cons (ps_set (i := 14) sc_law_right.nd rfl (Or.inl rfl) (Ow.pe_d (D_law_weighed T) hR (by decide) hG pass0 (by rfl) (pa_cons (pv 1) (pa_cons (pv 16) (pa_cons (pv 17) pa_nil)))))
      (pss_cons (ps_if (pt_cmpR op_ne (pe_callB (Ow.call_show hu hG) (by rfl) T.b_repr (by decide +kernel) (pa_cons (pe_lst (pa_cons (Ow.pe_d (D_weighed T) hR (by decide) hG pass0 (by rfl) (pa_cons (pv 1) (pa_cons (pv 16) (pa_cons (pv 17) pa_nil)))) (pa_cons (Ow.pe_dk0 (D_weighed T) hR (by decide) hG pass0 w_weighed_0_weights_forms_prime (by rfl) (pk_cons (pe_callTy Ow.call_tupleF (by rfl) T.b_tuple (by decide +kernel) (pa_cons (pv 17) pa_nil)) (pk_cons (pe_callTy Ow.call_tupleF (by rfl) T.b_tuple (by decide +kernel) (pa_cons (pv 16) pa_nil)) (pk_cons (pv 1) pk_nil)))) pa_nil))) pa_nil)) (pe_callB (Ow.call_show hu hG) (by rfl) T.b_repr (by decide +kernel) (pa_cons (pe_lst (pa_cons (pv 14) (pa_cons (pv 14) pa_nil))) pa_nil)) (nomark _))
      (pss_one (ps_ret pe_bl))
      pss_nil)
      (pss_cons (ps_set (i := 18) sc_law_right.nd rfl (Or.inl rfl) pe_int)
      (pss_cons (ps_for PassesOwn.never rfl (RZ.pi_zipA (by rfl) T.b_zip (pa_cons (pv 16) (pa_cons (pv 17) pa_nil))) (pg_tup rfl (pgs_cons (pg_name (i := 7) sc_law_right.nd rfl (Or.inl rfl)) (pgs_cons (pg_name (i := 19) sc_law_right.nd rfl (Or.inl rfl)) pgs_nil)))
      (pss_one (ps_set (i := 18) sc_law_right.nd rfl (Or.inl rfl) (Ow.pe_d (D_plus T) hR (by decide) hG pass0 (by rfl) (pa_cons (pv 1) (pa_cons (pv 18) (pa_cons (Ow.pe_d (D_times T) hR (by decide) hG pass0 (by rfl) (pa_cons (pv 1) (pa_cons (pv 19) (pa_cons (Ow.pe_d (D_form_value T) hR (by decide) hG pass0 (by rfl) (pa_cons (pv 1) (pa_cons (pv 7) (pa_cons (pv 8) pa_nil)))) pa_nil)))) pa_nil)))))))
      (pss_one (ps_ret (pe_and (pe_cmpR op_eq (Ow.pe_d (D_form_value T) hR (by decide) hG pass0 (by rfl) (pa_cons (pv 1) (pa_cons (pv 14) (pa_cons (pv 8) pa_nil)))) (pv 18) (nomark _)) (pe_one (pe_cmpR op_eq (pe_callB (Ow.call_show hu hG) (by rfl) T.b_repr (by decide +kernel) (pa_cons (pe_lst (pa_cons (pv 2) (pa_cons (pv 3) pa_nil))) pa_nil)) (pv 5) (nomark _))))))))))))))))))))))))))))), ?_⟩
    refine ⟨_, rfl, (by show 5 ≤ sizeLine; decide), ?_⟩
    intro l0 hp_l0
    generalize hx_l0 : upd _ l0 _ = H1
    obtain ⟨s1, e1⟩ := fresh_of hp_l0 hx_l0
    clear hx_l0
    have st1 := Stp.of hpot s1
    refine ⟨a, l0, _, rfl, st1.pot, e1, hpot.ne hp_l0, by show 0 < 5; omega, by show 5 < 1000; omega, fun v H2 s2 hv => ?_⟩
    have st2 := st1.trans s2
    obtain ⟨p, rfl, hp⟩ : ∃ p, v = .int p ∧ Pr p := by
      simp only [List.mem_cons, List.not_mem_nil, or_false] at hv
      rcases hv with rfl | rfl | rfl | rfl | rfl <;> exact ⟨_, rfl, by show prV _ = true; decide +kernel⟩
    have lo := hp.lo
    have hi := hp.hi
    refine ⟨_, rfl, _, rfl, _, rfl, (by show 2 ≤ sizeLine; decide), ?_⟩
    intro l1 hp_l1
    generalize hx_l1 : upd _ l1 _ = H3
    obtain ⟨s3, e3⟩ := fresh_of hp_l1 hx_l1
    clear hx_l1
    refine ⟨a, l1, _, rfl, st2.pot.same s3, e3, st2.pot.ne hp_l1, by show 0 < 2; omega, by show 2 < 1000; omega, fun v H4 s4 hv => ?_⟩
    obtain ⟨m, rfl, hm⟩ : ∃ m, v = .int m ∧ (m = 3 ∨ m = 30) := by
      simp only [List.mem_cons, List.not_mem_nil, or_false] at hv
      rcases hv with rfl | rfl
      · exact ⟨_, rfl, .inl rfl⟩
      · exact ⟨_, rfl, .inr rfl⟩
    have st4 := (st2.same s3).trans s4
    refine ⟨a, p, m, 6, rfl, st4.pot, by omega, by omega, by omega, by omega, by omega, by omega, fun vf f H5 s5 hf fo lf cf => ?_⟩
    have st5 := st4.trans s5
    refine ⟨_, rfl, _, rfl, _, rfl, (by show 2 ≤ sizeLine; decide), ?_⟩
    intro l2 hp_l2
    generalize hx_l2 : upd _ l2 _ = H6
    obtain ⟨s6, e6⟩ := fresh_of hp_l2 hx_l2
    clear hx_l2
    refine ⟨a, l2, _, rfl, st5.pot.same s6, e6, st5.pot.ne hp_l2, by show 0 < 2; omega, by show 2 < 1000; omega, fun v H7 s7 hv => ?_⟩
    obtain ⟨m2, rfl, hm2⟩ : ∃ m, v = .int m ∧ (m = 3 ∨ m = 30) := by
      simp only [List.mem_cons, List.not_mem_nil, or_false] at hv
      rcases hv with rfl | rfl
      · exact ⟨_, rfl, .inl rfl⟩
      · exact ⟨_, rfl, .inr rfl⟩
    have st7 := (st5.same s6).trans s7
    have hf7 := (hf.sm s6).stp (st5.pot.same s6) s7
    refine ⟨a, p, m2, 6, rfl, st7.pot, by omega, by omega, by omega, by omega, by omega, by omega, fun vg g H8 s8 hg go lg cg => ⟨_, _, rfl, ?_⟩⟩
    have st8 := st7.trans s8
    have hf8 := hf7.stp st7.pot s8
    have lf : f.length ≤ 6 := lf
    have lg : g.length ≤ 6 := lg
    have bf : Below 30 f := fun x hx => ⟨(fo.ok x hx).1, by have := cf x hx; omega⟩
    have bg : Below 30 g := fun x hx => ⟨(go.ok x hx).1, by have := cg x hx; omega⟩
    have sf := fm_shw fo (by omega) (by omega)
    have sg := fm_shw go (by omega) (by omega)
    have kShown := shw_list (shw2 sf sg) (by show 2 ≤ 20; omega)
    refine ⟨fun σ H' => ∃ n : Int, σ = [some (.ref a), some (.int p), some vf, some vg, some (.int n), some (.str (PyData.list [fmD f, fmD g]).shown), none, none, none, none, none, none, none, none, none, none, none, none, none, none] ∧ Stp a H H' ∧ FmF K H' vf f ∧ FmF K H' vg g ∧ 0 ≤ n ∧ n < p, ?_, ?_⟩
    · refine ⟨_, rfl, _, rfl, a, p, rfl, st8.pot, by omega, by omega, fun n H9 s9 n0 n1 => ?_⟩
      have st9 := st8.trans s9
      have hf9 := hf8.stp st8.pot s9
      have hg9 := hg.stp st8.pot s9
      refine ⟨_, rfl, _, rfl, (by show 2 ≤ sizeLine; decide), ?_⟩
      intro l3 hp_l3
      generalize hx_l3 : upd _ l3 _ = H10
      obtain ⟨s10, e10⟩ := fresh_of hp_l3 hx_l3
      clear hx_l3
      exact ⟨.ref l3, _, rfl, .lst (.of e10) (.cons (hf9.sm s10).t.dp (.cons (hg9.sm s10).t.dp .nil)), kShown, _, _, rfl, n, rfl, st9.same s10, hf9.sm s10, hg9.sm s10, n0, n1⟩
    clear hf hf7 hf8 hg cf cg s1 s2 s3 s4 s5 s6 s7 s8 st1 st2 st4 st5 st7 st8
    rintro σ H9 ⟨n, rfl, st9, hf9, hg9, n0, n1⟩
    have s10 := Same.refl H9
    have dShown : ∀ {l H'}, Same H9 H' → H' l = some (.lst [vf, vg]) → Dp K H' (.ref l) (.list [fmD f, fmD g]) := fun s e => .lst (.of e) (.cons (hf9.sm s).t.dp (.cons (hg9.sm s).t.dp .nil))
    -- what is due
    have ws1 : ∀ n : Int, n ∈ [(1 : Int), 1] → -(2 ^ 64) < n ∧ n < 2 ^ 64 := fun n hn => by
      simp only [List.mem_cons, List.not_mem_nil, or_false] at hn
      rcases hn with rfl | rfl <;> exact ⟨by decide, by decide⟩
    have ws2 : ∀ n : Int, n ∈ [(1 : Int), -1] → -(2 ^ 64) < n ∧ n < 2 ^ 64 := fun n hn => by
      simp only [List.mem_cons, List.not_mem_nil, or_false] at hn
      rcases hn with rfl | rfl <;> exact ⟨by decide, by decide⟩
    have ws3 : ∀ k : Int, k ∈ [n] → -(2 ^ 64) < k ∧ k < 2 ^ 64 := fun k hk => by
      simp only [List.mem_cons, List.not_mem_nil, or_false] at hk
      rw [hk]
      omega
    have fo2 : ∀ x ∈ [f, g], Fok p x ∧ p ≤ 10000 := fun x hx => by
      simp only [List.mem_cons, List.not_mem_nil, or_false] at hx
      rcases hx with rfl | rfl
      · exact ⟨fo, by omega⟩
      · exact ⟨go, by omega⟩
    have fo1 : ∀ x ∈ [f], Fok p x ∧ p ≤ 10000 := fun x hx => by
      simp only [List.mem_cons, List.not_mem_nil, or_false] at hx
      rw [hx]
      exact ⟨fo, by omega⟩
    have ls2 : lsum [f, g] = f.length + g.length := by unfold lsum; simp
    have ls1 : lsum [f] = f.length := by unfold lsum; simp
    refine ⟨_, rfl, _, rfl, _, rfl, (by show 2 ≤ sizeLine; decide), ?_⟩
    intro l4 hp_l4
    generalize hx_l4 : upd _ l4 _ = H11
    obtain ⟨s11, e11⟩ := fresh_of hp_l4 hx_l4
    clear hx_l4
    refine ⟨(by show 2 ≤ sizeLine; decide), ?_⟩
    intro l5 hp_l5
    generalize hx_l5 : upd _ l5 _ = H12
    obtain ⟨s12, e12⟩ := fresh_of hp_l5 hx_l5
    clear hx_l5
    have k12 := s10.trans (s11.trans s12)
    refine ⟨p, .ref l4, .ref l5, [f, g], [1, 1], rfl, by omega, ⟨l4, _, rfl, .of (s12 _ _ e11), .cons (hf9.sm k12).t (.cons (hg9.sm k12).t .nil)⟩, ⟨l5, rfl, .of e12⟩, rfl, fo2, ws1, by omega, fun v1 d1 H13 s13 hd1 do1 dk1 dl1 => ?_⟩
    refine ⟨_, rfl, _, rfl, _, rfl, (by show 2 ≤ sizeLine; decide), ?_⟩
    intro l6 hp_l6
    generalize hx_l6 : upd _ l6 _ = H14
    obtain ⟨s14, e14⟩ := fresh_of hp_l6 hx_l6
    clear hx_l6
    refine ⟨_, rfl, (by show 2 ≤ sizeLine; decide), ?_⟩
    intro l7 hp_l7
    generalize hx_l7 : upd _ l7 _ = H15
    obtain ⟨s15, e15⟩ := fresh_of hp_l7 hx_l7
    clear hx_l7
    have k15 := k12.trans (s13.trans (s14.trans s15))
    refine ⟨p, .ref l6, .ref l7, [f, g], [1, -1], rfl, by omega, ⟨l6, _, rfl, .of (s15 _ _ e14), .cons (hf9.sm k15).t (.cons (hg9.sm k15).t .nil)⟩, ⟨l7, rfl, .of e15⟩, rfl, fo2, ws2, by omega, fun v2 d2 H16 s16 hd2 do2 dk2 dl2 => ?_⟩
    refine ⟨_, rfl, _, rfl, (by show 1 ≤ sizeLine; decide), ?_⟩
    intro l8 hp_l8
    generalize hx_l8 : upd _ l8 _ = H17
    obtain ⟨s17, e17⟩ := fresh_of hp_l8 hx_l8
    clear hx_l8
    refine ⟨_, rfl, (by show 1 ≤ sizeLine; decide), ?_⟩
    intro l9 hp_l9
    generalize hx_l9 : upd _ l9 _ = H18
    obtain ⟨s18, e18⟩ := fresh_of hp_l9 hx_l9
    clear hx_l9
    have k18 := k15.trans (s16.trans (s17.trans s18))
    refine ⟨p, .ref l8, .ref l9, [f], [n], rfl, by omega, ⟨l8, _, rfl, .of (s18 _ _ e17), .cons (hf9.sm k18).t .nil⟩, ⟨l9, rfl, .of e18⟩, rfl, fo1, ws3, by omega, fun v3 d3 H19 s19 hd3 do3 dk3 dl3 => ?_⟩
    rw [ls2] at dl1 dl2
    rw [ls1] at dl3
    have dk1 : ∀ c, look d1 c = (look f c + 1 * look g c) % p := fun c => by
      rw [dk1]
      show (1 * look f c + (1 * look g c + 0)) % p = _
      congr 1
      omega
    have dk2 : ∀ c, look d2 c = (look f c + -1 * look g c) % p := fun c => by
      rw [dk2]
      show (1 * look f c + (-1 * look g c + 0)) % p = _
      congr 1
      omega
    have dk3 : ∀ c, look d3 c = (look f c * n) % p := fun c => by
      rw [dk3]
      show (n * look f c + 0) % p = _
      rw [Int.add_zero, Int.mul_comm]
    have k19 := k18.trans s19
    have hd1 := hd1.sm (s14.trans (s15.trans (s16.trans (s17.trans (s18.trans s19)))))
    have hd2 := hd2.sm (s17.trans (s18.trans s19))
    have hf19 := hf9.sm k19
    have hg19 := hg9.sm k19
    have st19 := st9.same k19
    refine ⟨(by show 3 ≤ sizeLine; decide), ?_⟩
    clear e1 e3 e6 e11 e12 e14 e15 e17 e18 ws1 ws2 ws3 fo1 s14 s15 s16 s17 s18 s13 s11 s12 k12 k15 k18
    intro ld hp_ld
    generalize hx_ld : upd _ ld _ = H20
    obtain ⟨s20, e20⟩ := fresh_of hp_ld hx_ld
    clear hx_ld
    have sd1 := fm_shw do1 (by omega) (by omega)
    have sd2 := fm_shw do2 (by omega) (by omega)
    have sd3 := fm_shw do3 (by omega) (by omega)
    have kD := shw_list (shw3 sd1 sd2 sd3) (by show 3 ≤ 20; omega)
    have dD : ∀ {l H'}, Same H19 H' → H' l = some (.lst [v1, v2, v3]) → Dp K H' (.ref l) (.list [fmD d1, fmD d2, fmD d3]) := fun s e => .lst (.of e) (.cons (hd1.sm s).t.dp (.cons (hd2.sm s).t.dp (.cons (hd3.sm s).t.dp .nil)))
    have hd1' := hd1.sm s20
    have hd2' := hd2.sm s20
    have hd3' := hd3.sm s20
    have hf20 := hf19.sm s20
    have hg20 := hg19.sm s20
    have e20' : ∀ {H'}, Same H20 H' → H' ld = some (.lst [v1, v2, v3]) := fun s => s _ _ e20
    refine ⟨_, rfl, _, rfl, _, rfl, p, vf, vg, f, g, rfl, hp, hf20, hg20.t, fo, go, by omega, fun u1 r1 H21 s21 hr1 ro1 rk1 rl1 => ?_⟩
    have q1 := same_fm ro1 do1 rk1 dk1 fun c => rfl
    subst q1
    refine ⟨_, rfl, _, rfl, _, rfl, p, vf, vg, f, g, rfl, hp, hf20.sm s21, (hg20.sm s21).t, fo, go, by omega, fun u2 r2 H22 s22 hr2 ro2 rk2 rl2 => ?_⟩
    have q2 := same_fm ro2 do2 rk2 dk2 fun c => rfl
    subst q2
    have k22 := s21.trans s22
    refine ⟨_, rfl, _, rfl, _, rfl, p, vf, f, n, rfl, hp, (hf20.sm k22).t, fo, ⟨n0, n1⟩, by omega, fun u3 r3 H23 s23 hr3 ro3 rk3 rl3 => ⟨(by show 3 ≤ sizeLine; decide), ?_⟩⟩
    have q3 := same_fm ro3 do3 rk3 dk3 fun c => rfl
    subst q3
    intro l10 hp_l10
    generalize hx_l10 : upd _ l10 _ = H24
    obtain ⟨s24, e24⟩ := fresh_of hp_l10 hx_l10
    clear hx_l10
    have k24 := k22.trans (s23.trans s24)
    refine ⟨.ref l10, .list [fmD r1, fmD r2, fmD r3], rfl, .lst (.of e24) (.cons (hr1.sm (s22.trans (s23.trans s24))).t.dp (.cons (hr2.sm (s23.trans s24)).t.dp (.cons (hr3.sm s24).t.dp .nil))), kD, ?_⟩
    refine ⟨_, rfl, .ref ld, _, rfl, dD (s20.trans k24) (e20' k24), kD, rfl, _, rfl, iteNS rfl ?_⟩
    -- each of them is a form
    have pD : Paired (FmT K H24) [v1, v2, v3] [r1, r2, r3] := .cons (hd1'.sm k24).t (.cons (hd2'.sm k24).t (.cons (hd3'.sm k24).t .nil))
    have oD : ∀ x ∈ [r1, r2, r3], Fok p x ∧ x.length < 1000 := fun x hx => by
      simp only [List.mem_cons, List.not_mem_nil, or_false] at hx
      rcases hx with rfl | rfl | rfl
      · exact ⟨do1, by omega⟩
      · exact ⟨do2, by omega⟩
      · exact ⟨do3, by omega⟩
    refine ⟨_, rfl, ld, rfl, ⟨_, .of (e20' k24)⟩, fun D hD => ?_⟩
    refine comp_it (walk_list (K := K) (a := ld) (xs := [v1, v2, v3])) (fun i acc Hh => acc = (([r1, r2, r3].take i).map fun _ => true).map V.bl) (Fair.same hD) hD (by show 3 < 1000; omega) rfl (fun H' s => .of (e20' (k24.trans s))) ?_ ?_
    · rintro i x acc H25 H26 Nx hi' hl s25 eD rfl ⟨rfl, hx⟩ hyes hno
      obtain ⟨h, hh⟩ : ∃ h, [r1, r2, r3][i]? = some h := ⟨_, List.getElem?_eq_getElem (show i < [r1, r2, r3].length from hi')⟩
      obtain ⟨x', hx', hq⟩ := paired_at pD i hh
      rw [hx] at hx'
      cases hx'
      obtain ⟨ho, hl2⟩ := oD h (List.mem_of_getElem? hh)
      refine ⟨rfl, iteT (B := Nx H26) ⟨_, rfl, _, rfl, p, x, fmD h, rfl, hp, fm_q (hq.sm s25), by show (h.map prD).length < 1000; rw [List.length_map]; exact hl2, fun H27 s27 => ?_⟩⟩
      rw [formD_fm ho]
      refine hyes _ H27 (s25.trans s27) (s27 _ _ eD) ?_
      rw [List.take_succ, hh]
      simp
    intro acc H25 hl s25 eD hacc
    subst hacc
    refine ⟨D, _, rfl, .of eD, _, rfl, ?_⟩
    have e : ((([r1, r2, r3] : List Fm).take ([v1, v2, v3] : List V).length).map fun _ => true).all id = true := List.all_eq_true.mpr fun b hb => by
      obtain ⟨_, _, rfl⟩ := List.mem_map.mp hb
      rfl
    rw [e]
    refine iteF ?_
    clear e eD pD oD hr1 hr2 hr3 e24
    -- by names
    have k25 := k24.trans s25
    have hf25 := hf20.sm k25
    have hg25 := hg20.sm k25
    refine ⟨_, rfl, _, rfl, _, rfl, rfl, rfl, p, vf, vg, f, g, rfl, hp, hf25, hg25.t, fo, go, by omega, fun u1 x1 H26 s26 hr1 xo1 xk1 xl1 => ?_⟩
    have q1 := same_fm xo1 do1 xk1 dk1 fun c => rfl
    subst q1
    refine ⟨_, rfl, _, rfl, _, rfl, rfl, rfl, p, vf, vg, f, g, rfl, hp, hf25.sm s26, (hg25.sm s26).t, fo, go, by omega, fun u2 x2 H27 s27 hr2 xo2 xk2 xl2 => ?_⟩
    have q2 := same_fm xo2 do2 xk2 dk2 fun c => rfl
    subst q2
    have k27 := s26.trans s27
    refine ⟨_, rfl, _, rfl, _, rfl, rfl, rfl, p, vf, f, n, rfl, hp, (hf25.sm k27).t, fo, ⟨n0, n1⟩, by omega, fun u3 x3 H28 s28 hr3 xo3 xk3 xl3 => ⟨(by show 3 ≤ sizeLine; decide), ?_⟩⟩
    have q3 := same_fm xo3 do3 xk3 dk3 fun c => rfl
    subst q3
    intro l11 hp_l11
    generalize hx_l11 : upd _ l11 _ = H29
    obtain ⟨s29, e29⟩ := fresh_of hp_l11 hx_l11
    clear hx_l11
    have k29 := k25.trans (k27.trans (s28.trans s29))
    refine ⟨.ref l11, .list [fmD x1, fmD x2, fmD x3], rfl, .lst (.of e29) (.cons (hr1.sm (s27.trans (s28.trans s29))).t.dp (.cons (hr2.sm (s28.trans s29)).t.dp (.cons (hr3.sm s29).t.dp .nil))), kD, ?_⟩
    refine ⟨_, rfl, .ref ld, _, rfl, dD (s20.trans k29) (e20' k29), kD, rfl, _, rfl, iteNS rfl ?_⟩
    have e29' := e20' k29
    have st29 := st19.same (s20.trans k29)
    have hf29 := hf20.sm k29
    have hg29 := hg20.sm k29
    have hd1 := hd1'.sm k29
    have hd2 := hd2'.sm k29
    have hd3 := hd3'.sm k29
    have nda : ld ≠ a := st19.pot.ne hp_ld
    clear hr1 hr2 hr3 hf25 hg25 e29 hd1' hd2' hd3' hf20 hg20 hf19 hg19 dD e20' s26 s27 s28 s29 s21 s22 s23 s24 s25 k22 k24 k25 k27
    -- a row
    refine ⟨(by show 1 ≤ sizeLine; decide), ?_⟩
    intro l12 hp_l12
    generalize hx_l12 : upd _ l12 _ = H30
    obtain ⟨s30, e30⟩ := fresh_of hp_l12 hx_l12
    clear hx_l12
    have st30 := st29.same s30
    refine ⟨29, rfl, by decide, by decide, fun D hD => ?_⟩
    refine comp_range (S := Stp a) (fun _ v => ∃ d, v = .int d ∧ Nm p d) (Fair.pot hD st30.pot) (by show 29 < 1000; omega) (fun x => rfl) ?_ ?_
    · intro i H' _ s Q' k
      exact ⟨_, rfl, _, rfl, a, p, rfl, s.pot, by omega, by omega, fun d H3 s3 d0 d1 => k _ _ s3 ⟨d, rfl, d0, d1⟩⟩
    intro xs H31 hlen hxs s31 eD
    obtain ⟨ns0, rfl, ln0, hns0⟩ := ints_ex hxs
    have ln0 : ns0.length = 29 := ln0.trans hlen
    refine ⟨l12, D, _, _, rfl, rfl, s31.kp _ _ (st29.pot.ne hp_l12) e30, eD, by show 1 + (ns0.map V.int).length ≤ sizeLine; rw [List.length_map, ln0]; decide, ?_⟩
    intro lr hp_lr
    generalize hx_lr : upd _ lr _ = H32
    obtain ⟨s32, er⟩ := fresh_of hp_lr hx_lr
    clear hx_lr
    have st32 := (st30.trans s31).same s32
    have hf32 := ((hf29.sm s30).stp st30.pot s31).sm s32
    have hg32 := ((hg29.sm s30).stp st30.pot s31).sm s32
    have hd1 := ((hd1.sm s30).stp st30.pot s31).sm s32
    have hd2 := ((hd2.sm s30).stp st30.pot s31).sm s32
    have hd3 := ((hd3.sm s30).stp st30.pot s31).sm s32
    have e32 := s32 _ _ (s31.kp _ _ nda (s30 _ _ e29'))
    have nra : lr ≠ a := (st30.trans s31).pot.ne hp_lr
    clear e29' e30 eD hf29 hg29
    have er : H32 lr = some (.lst ((1 :: ns0).map V.int)) := er
    have hns : ∀ n ∈ 1 :: ns0, Nm p n := fun n hn => by
      rcases List.mem_cons.mp hn with z | z
      · rw [z]
        exact ⟨by omega, by omega⟩
      · exact hns0 n z
    have ro : Row p (1 :: ns0) := ⟨hns, rfl⟩
    have lns : (1 :: ns0).length = 30 := by simp [ln0]
    revert er ro lns hns
    generalize 1 :: ns0 = ns
    intro er hns ro lns
    have bf : Below ns.length f := by rw [lns]; exact bf
    have bg : Below ns.length g := by rw [lns]; exact bg
    have small : ∀ {h : Fm}, Fok p h → ∀ x ∈ h, 0 ≤ x.2 ∧ x.2 ≤ 10000 := fun ho x hx => by have := ho.ok x hx; omega
    have rw1 : ∀ {H'}, Same H32 H' → Rwk K H' false (.ref lr) ns := fun s => ⟨lr, rfl, .of (s _ _ er)⟩
    refine ⟨fun σ H' => σ = [some (.ref a), some (.int p), some vf, some vg, some (.int n), some (.str (PyData.list [fmD f, fmD g]).shown), some (.ref ld), none, some (.ref lr), none, some (.int (valF f (rowF ns) % p)), some (.int (valF g (rowF ns) % p)), none, none, none, none, none, none, none, none] ∧ Same H32 H', ?_, ?_⟩
    · refine ⟨_, rfl, _, rfl, _, rfl, p, vf, .ref lr, f, ns, rfl, by omega, hf32.t, rw1 (Same.refl _), bf, by omega, small fo, fun H33 s33 => ?_⟩
      exact ⟨_, rfl, _, rfl, _, rfl, p, vg, .ref lr, g, ns, rfl, by omega, (hg32.sm s33).t, rw1 s33, bg, by omega, small go, fun H34 s34 => ⟨_, _, rfl, rfl, s33.trans s34⟩⟩
    rintro σ H34 ⟨rfl, k34⟩
    have shf := sf.shaped (by decide)
    have shg := sg.shaped (by decide)
    refine ⟨_, rfl, _, rfl, _, rfl, p, vf, .ref lr, f, ns, rfl, hp, (hf32.sm k34).t, fo, (rw1 k34).s, ro, by omega, by omega, shf, bf, fun H35 s35 => ?_⟩
    have k35 := k34.trans s35
    refine ⟨_, rfl, lr, _, rfl, .inl ⟨.of (k35 _ _ er), ?_⟩⟩
    intro t1 ob_t1 hob_t1 hp_t1
    generalize hx_t1 : upd _ t1 _ = H36
    obtain ⟨s36, e36⟩ := fresh_of hp_t1 hx_t1
    clear hx_t1
    have k36 := k35.trans s36
    refine ⟨_, rfl, _, rfl, rfl, rfl, p, vg, .ref t1, g, ns, rfl, hp, (hg32.sm k36).t, go, ⟨t1, rfl, .inr (.inl (.inr ⟨_, e36⟩))⟩, ro, by omega, by omega, shg, bg, fun H37 s37 => ⟨(by show 2 ≤ sizeLine; decide), ?_⟩⟩
    intro l13 hp_l13
    generalize hx_l13 : upd _ l13 _ = H38
    obtain ⟨s38, e38⟩ := fresh_of hp_l13 hx_l13
    clear hx_l13
    have m0 : ∀ {x : Int}, 0 ≤ x % p ∧ x % p < p := fun {x} => ⟨Int.emod_nonneg _ (by omega), Int.emod_lt_of_pos _ (by omega)⟩
    have sv : ∀ {x : Int}, Ow.Shows 2 100 (.int (x % p)) := fun {x} => shw_int (by have := (m0 (x := x)).1; omega) (by have := (m0 (x := x)).2; omega)
    refine ⟨.ref l13, .list [.int (valF f (rowF ns) % p), .int (valF g (rowF ns) % p)], rfl, .lst (.of e38) (.cons (.int _) (.cons (.int _) .nil)), shw_list (shw2 sv sv) (by show 2 ≤ 20; omega), ?_⟩
    refine ⟨_, rfl, _, rfl, (by show 2 ≤ sizeLine; decide), ?_⟩
    intro l14 hp_l14
    generalize hx_l14 : upd _ l14 _ = H39
    obtain ⟨s39, e39⟩ := fresh_of hp_l14 hx_l14
    clear hx_l14
    refine ⟨.ref l14, .list [.int (valF f (rowF ns) % p), .int (valF g (rowF ns) % p)], rfl, .lst (.of e39) (.cons (.int _) (.cons (.int _) .nil)), shw_list (shw2 sv sv) (by show 2 ≤ 20; omega), rfl, _, rfl, iteNS rfl ?_⟩
    have k39 := k36.trans (s37.trans (s38.trans s39))
    clear e36 e38 e39 s35 s36 s37 s38 s39 k34 k35 k36
    -- the values of what is due
    have b1 : Below ns.length x1 := below_of do1 bf bg fun c y z => by rw [dk1, y, z]; simp
    have b2 : Below ns.length x2 := below_of do2 bf bg fun c y z => by rw [dk2, y, z]; simp
    have b3 : Below ns.length x3 := below_of do3 bf bg fun c y z => by rw [dk3, y]; simp
    have w1 := v_sum (row := rowF ns) do1 fo.up go.up b1 bf bg dk1
    have w2 := v_sum (row := rowF ns) do2 fo.up go.up b2 bf bg dk2
    have w3 := v_sum (row := rowF ns) (k := n) (f := []) do3 .nil fo.up b3 (fun x hx => (nomatch hx)) bf (fun c => by rw [dk3, Int.mul_comm]; show _ = (0 + n * look f c) % p; rw [Int.zero_add])
    have w2 : valF x2 (rowF ns) % p = (valF f (rowF ns) % p - valF g (rowF ns) % p) % p := by
      rw [w2]
      congr 1
      omega
    have w1 : valF x1 (rowF ns) % p = (valF f (rowF ns) % p + valF g (rowF ns) % p) % p := by
      rw [w1]
      congr 1
      omega
    have w3 : valF x3 (rowF ns) % p = n * (valF f (rowF ns) % p) % p := by
      rw [w3]
      congr 1
      show 0 % p + _ = _
      rw [Int.zero_emod, Int.zero_add]
    have oD : ∀ x ∈ [x1, x2, x3], Fok p x ∧ x.length < 1000 ∧ Below ns.length x := fun x hx => by
      simp only [List.mem_cons, List.not_mem_nil, or_false] at hx
      rcases hx with rfl | rfl | rfl
      · exact ⟨do1, by omega, b1⟩
      · exact ⟨do2, by omega, b2⟩
      · exact ⟨do3, by omega, b3⟩
    have pD : Paired (FmT K H39) [v1, v2, v3] [x1, x2, x3] := .cons (hd1.sm k39).t (.cons (hd2.sm k39).t (.cons (hd3.sm k39).t .nil))
    refine ⟨_, rfl, ld, rfl, ⟨_, .of (k39 _ _ e32)⟩, fun D hD => ?_⟩
    refine comp_it (walk_list (K := K) (a := ld) (xs := [v1, v2, v3])) (fun i acc Hh => acc = (([x1, x2, x3].take i).map fun h => valF h (rowF ns) % p).map V.int) (Fair.same hD) hD (by show 3 < 1000; omega) rfl (fun H' s => .of (s _ _ (k39 _ _ e32))) ?_ ?_
    · rintro i x acc H40 H41 Nx hi' hl s40 eD rfl ⟨rfl, hx⟩ hyes hno
      obtain ⟨h, hh⟩ : ∃ h, [x1, x2, x3][i]? = some h := ⟨_, List.getElem?_eq_getElem (show i < [x1, x2, x3].length from hi')⟩
      obtain ⟨x', hx', hq⟩ := paired_at pD i hh
      rw [hx] at hx'
      cases hx'
      obtain ⟨ho, hl2, hb⟩ := oD h (List.mem_of_getElem? hh)
      refine ⟨rfl, iteT (B := Nx H41) ⟨_, rfl, _, rfl, _, rfl, p, x, .ref lr, h, ns, rfl, by omega, hq.sm s40, rw1 (k39.trans s40), hb, by omega, small ho, fun H42 s42 => ?_⟩⟩
      refine hyes _ H42 (s40.trans s42) (s42 _ _ eD) ?_
      rw [List.take_succ, hh]
      simp
    intro acc H40 hl s40 eD hacc
    subst hacc
    have nm : ∀ {x : Int}, Nm p (x % p) := fun {x} => m0
    refine ⟨_, rfl, _, rfl, _, rfl, p, _, _, rfl, hp, nm, nm, _, rfl, _, rfl, _, rfl, p, _, _, rfl, hp, nm, nm, _, rfl, _, rfl, _, rfl, p, n, _, rfl, hp, ⟨n0, n1⟩, nm, (by show 3 ≤ sizeLine; decide), ?_⟩
    intro l15 hp_l15
    generalize hx_l15 : upd _ l15 _ = H41
    obtain ⟨s41, e41⟩ := fresh_of hp_l15 hx_l15
    clear hx_l15
    have eD2 : H41 D = some (.lst [.int (valF x1 (rowF ns) % p), .int (valF x2 (rowF ns) % p), .int (valF x3 (rowF ns) % p)]) := s41 _ _ eD
    have e41 : H41 l15 = some (.lst [.int (valF x1 (rowF ns) % p), .int (valF x2 (rowF ns) % p), .int (valF x3 (rowF ns) % p)]) := by
      rw [w1, w2, w3]
      exact e41
    have shv : SeqAt.shaped (.list [.int (valF x1 (rowF ns) % p), .int (valF x2 (rowF ns) % p), .int (valF x3 (rowF ns) % p)]) = true := by
      refine (Ow.Shows.list (Ow.ShowsAll.of (k := 2) (m := 100) ?_)).shaped (by decide)
      exact shw3 sv sv sv
    refine ⟨.list [.int (valF x1 (rowF ns) % p), .int (valF x2 (rowF ns) % p), .int (valF x3 (rowF ns) % p)], .list [.int (valF x1 (rowF ns) % p), .int (valF x2 (rowF ns) % p), .int (valF x3 (rowF ns) % p)], .lst (.of eD2) (.cons (.int _) (.cons (.int _) (.cons (.int _) .nil))), .lst (.of e41) (.cons (.int _) (.cons (.int _) (.cons (.int _) .nil))), shv, shv, _, rfl, ?_⟩
    rw [Ow.eqv_self (SeqAt.canLay_of_shaped shv)]
    refine iteF ?_
    have k41 := k39.trans (s40.trans s41)
    clear eD eD2 e41 shv pD oD s40 s41 hD b1 b2 b3 w1 w2 w3
    -- a cell, and the row with another number there
    have st41 := st32.same k41
    refine ⟨_, rfl, a, 29, rfl, st41.pot, by omega, by omega, fun c0 H42 s42 c00 c01 => ⟨_, _, rfl, rfl, ?_⟩⟩
    have st42 := st41.trans s42
    have hf42 := (hf32.sm k41).stp st41.pot s42
    have hg42 := (hg32.sm k41).stp st41.pot s42
    have er42 := s42.kp _ _ nra (k41 _ _ er)
    obtain ⟨k, rfl⟩ : ∃ k : Nat, c0 = (k : Int) := ⟨c0.toNat, by omega⟩
    obtain ⟨c, hc⟩ : ∃ c : Nat, c = k + 1 := ⟨_, rfl⟩
    have hc2 : (1 : Int) + (k : Int) = (c : Int) := by omega
    have c1 : 1 ≤ c ∧ c < ns.length := by omega
    have lnm : (ns.map V.int).length = ns.length := List.length_map ..
    refine ⟨fun σ H' => ∃ ll, σ = [some (.ref a), some (.int p), some vf, some vg, some (.int n), some (.str (PyData.list [fmD f, fmD g]).shown), some (.ref ld), none, some (.ref lr), none, some (.int (valF f (rowF ns) % p)), some (.int (valF g (rowF ns) % p)), some (.int (1 + (k : Int))), some (.ref ll), none, none, none, none, none, none] ∧ Same H42 H' ∧ H' ll = some (.lst ((putR ns c (valF g (rowF ns) % p)).map V.int)), ?_, ?_⟩
    · refine ⟨_, rfl, _, rfl, _, rfl, lr, _, rfl, .of er42, ?_⟩
      rw [hc2, cut_to (by omega)]
      intro l16 hp_l16
      generalize hx_l16 : upd _ l16 _ = H43
      obtain ⟨s43, e43⟩ := fresh_of hp_l16 hx_l16
      clear hx_l16
      refine ⟨_, rfl, (by show 1 ≤ sizeLine; decide), ?_⟩
      intro l17 hp_l17
      generalize hx_l17 : upd _ l17 _ = H44
      obtain ⟨s44, e44⟩ := fresh_of hp_l17 hx_l17
      clear hx_l17
      refine ⟨l16, l17, _, _, rfl, rfl, s44 _ _ e43, e44, by rw [List.length_take]; show min c _ + 1 ≤ sizeLine; exact Nat.le_of_lt (small1000 (by omega)), ?_⟩
      intro l18 hp_l18
      generalize hx_l18 : upd _ l18 _ = H45
      obtain ⟨s45, e45⟩ := fresh_of hp_l18 hx_l18
      clear hx_l18
      have k45 := s43.trans (s44.trans s45)
      refine ⟨_, rfl, _, rfl, _, _, rfl, rfl, _, rfl, lr, _, rfl, .of (k45 _ _ er42), ?_⟩
      have ec : ((1 : Int) + (k : Int) + 1) = ((c + 1 : Nat) : Int) := by omega
      rw [ec, cut_from (by omega)]
      intro l19 hp_l19
      generalize hx_l19 : upd _ l19 _ = H46
      obtain ⟨s46, e46⟩ := fresh_of hp_l19 hx_l19
      clear hx_l19
      refine ⟨l18, l19, _, _, rfl, rfl, s46 _ _ e45, e46, by rw [List.length_append, List.length_take, List.length_drop]; show min c _ + 1 + _ ≤ sizeLine; exact Nat.le_of_lt (small1000 (by omega)), ?_⟩
      intro ll hp_ll
      generalize hx_ll : upd _ ll _ = H47
      obtain ⟨s47, e47⟩ := fresh_of hp_ll hx_ll
      clear hx_ll
      have k47 := k45.trans (s46.trans s47)
      have e47 : H47 ll = some (.lst ((putR ns c (valF g (rowF ns) % p)).map V.int)) := by
        rw [e47]
        unfold putR
        rw [List.map_append, List.map_append, List.map_take, List.map_drop]
        rfl
      exact ⟨ll, by rw [← hc2]; rfl, k47, e47⟩
    rintro σ H47 ⟨ll, rfl, k47, e47⟩
    have hf47 := hf42.sm k47
    have hg47 := hg42.sm k47
    have er47 := k47 _ _ er42
    have st47 := st42.same k47
    clear hf42 hg42 er42 hd1 hd2 hd3 e32 hf32 hg32 rw1 er hp_l12 hp_l13 hp_l14
    -- the number at the cell put in
    obtain ⟨b, ps, rfl, sqf, qf⟩ := id hf47
    have lp : (ps.map V.ref).length = f.length := by rw [List.length_map, paired_len qf]
    refine ⟨_, rfl, _, rfl, b, rfl, ⟨_, sqf.t⟩, fun D hD => ?_⟩
    refine comp_it (walk_tup (K := K) (a := b) (xs := ps.map V.ref)) (fun i acc Hh => ∃ qs, acc = qs.map V.ref ∧ Paired (PrT K Hh) qs (bare (f.take i) (1 + (k : Int)))) (Fair.same hD) hD (by omega) ⟨[], rfl, .nil⟩ (fun H' s => Ow.SqT.sm sqf.t s) ?_ ?_
    · rintro i v acc H2 H3 Nx hi' hl s2 eD ⟨qs, rfl, hqs⟩ ⟨rfl, hv⟩ hyes hno
      rw [List.getElem?_map] at hv
      obtain ⟨t, ht, rfl⟩ := Option.map_eq_some_iff.mp hv
      obtain ⟨x, hx⟩ : ∃ x, f[i]? = some x := ⟨_, List.getElem?_eq_getElem (show i < f.length by omega)⟩
      obtain ⟨t', ht', hpr⟩ := paired_at qf i hx
      rw [ht] at ht'
      cases ht'
      refine ⟨rfl, _, rfl, t, _, 0, _, rfl, rfl, hpr.sm s2, at_of (j := 0) rfl rfl, _, rfl, rfl, _, rfl, iteN2 (fun z => ?_) (fun z => ?_)⟩
      · have z : x.1 ≠ 1 + (k : Int) := fun e => z (congrArg V.int e)
        refine ⟨_, rfl, hyes _ H3 s2 eD ⟨qs ++ [t], by rw [List.map_append]; rfl, ?_⟩⟩
        rw [bare_step hx, bare_one, if_pos z]
        exact paired_app hqs (.cons (hpr.sm (same_hid hD s2)) .nil)
      · have z : x.1 = 1 + (k : Int) := V.int.inj z
        refine hno _ s2 eD ⟨qs, rfl, ?_⟩
        rw [bare_step hx, bare_one, if_neg (fun w => w z), List.append_nil]
        exact hqs
    intro acc H48 hl s48 eD hqs
    obtain ⟨qs, rfl, hqs⟩ := hqs
    rw [lp, List.take_length] at hqs
    refine ⟨D, _, rfl, .inl ⟨.of eD, ?_⟩⟩
    intro tb ob_tb hob_tb hp_tb
    generalize hx_tb : upd _ tb _ = H49
    obtain ⟨s49, e49⟩ := fresh_of hp_tb hx_tb
    clear hx_tb
    have hb49 : FmF K H49 (.ref tb) (bare f (1 + (k : Int))) := ⟨tb, qs, rfl, ⟨_, hob_tb, e49⟩, paired_map hqs fun _ _ w => w.sm (hid_sm.trans s49)⟩
    refine ⟨_, rfl, (by show 2 ≤ sizeLine; decide), ?_⟩
    intro l20 hp_l20
    generalize hx_l20 : upd _ l20 _ = H50
    obtain ⟨s50, e50⟩ := fresh_of hp_l20 hx_l20
    clear hx_l20
    have k50 := s48.trans (s49.trans s50)
    refine ⟨_, rfl, b, ps, prs f, rfl, Ow.SqF.sm sqf k50, prs_kv (paired_map qf fun _ _ z => z.sm k50), ?_⟩
    intro dd hp_dd
    generalize hx_dd : upd _ dd _ = H51
    obtain ⟨s51, e51⟩ := fresh_of hp_dd hx_dd
    clear hx_dd
    obtain ⟨kks, hI, _, _⟩ := dict_of fo.up
    refine ⟨dd, rfl, .inl ⟨_, .inl e51⟩, _, rfl, _, DGet.k (k := .inl (1 + (k : Int))) e51, ?_⟩
    rw [get_val hI]
    refine ⟨(by show 2 ≤ sizeLine; decide), ?_⟩
    intro l21 hp_l21
    generalize hx_l21 : upd _ l21 _ = H52
    obtain ⟨s52, e52⟩ := fresh_of hp_l21 hx_l21
    clear hx_l21
    have k52 := k50.trans (s51.trans s52)
    have cl : 0 ≤ look f (1 + (k : Int)) ∧ look f (1 + (k : Int)) ≤ 10000 := by
      by_cases z : look f (1 + (k : Int)) = 0
      · omega
      · have := fo.ok _ (look_in z)
        have e1 : (1 + (k : Int), look f (1 + (k : Int))).2 = look f (1 + (k : Int)) := rfl
        omega
    have bl' := bare_len f (1 + (k : Int))
    have lsb : lsum [bare f (1 + (k : Int)), g] = (bare f (1 + (k : Int))).length + g.length := by unfold lsum; simp
    refine ⟨p, .ref l20, .ref l21, [bare f (1 + (k : Int)), g], [1, look f (1 + (k : Int))], rfl, by omega, ⟨l20, _, rfl, .of (s52 _ _ (s51 _ _ e50)), .cons (hb49.sm (s50.trans (s51.trans s52))).t (.cons (hg47.sm k52).t .nil)⟩, ⟨l21, rfl, .of e52⟩, rfl, fun x hx => ?_, fun m hm => ?_, by omega, fun v4 d4 H53 s53 hd4 do4 dk4 dl4 => ?_⟩
    · simp only [List.mem_cons, List.not_mem_nil, or_false] at hx
      rcases hx with rfl | rfl
      · exact ⟨bare_ok fo, by omega⟩
      · exact ⟨go, by omega⟩
    · simp only [List.mem_cons, List.not_mem_nil, or_false] at hm
      rcases hm with rfl | rfl
      · exact ⟨by decide, by decide⟩
      · exact ⟨by omega, by omega⟩
    have dk4 : ∀ c, look d4 c = (look (bare f (1 + (k : Int))) c + look f (1 + (k : Int)) * look g c) % p := fun c => by
      rw [dk4]
      show (1 * look (bare f (1 + (k : Int))) c + (look f (1 + (k : Int)) * look g c + 0)) % p = _
      congr 1
      omega
    have k53 := k52.trans s53
    have hf53 := hf47.sm k53
    have hg53 := hg47.sm k53
    have er53 := k53 _ _ er47
    have el53 := k53 _ _ e47
    have st53 := st47.same k53
    clear hf47 hg47 er47 e47 s48 s49 s50 s51 s52 s53 k50 k52 hb49 e49 e50 e51 e52 eD hqs hI sqf qf
    rw [lsb] at dl4
    -- put in by the program
    refine ⟨_, rfl, _, rfl, _, rfl, _, rfl, p, .ref b, vg, f, g, 1 + (k : Int), rfl, hp, hf53, hg53.t, fo, go, by omega, by omega, by omega, fun u1 y1 H54 s54 hy1 yo1 yk1 yl1 => ?_⟩
    have q1 := same_fm yo1 do4 yk1 dk4 fun c => rfl
    subst q1
    refine ⟨_, rfl, _, rfl, _, rfl, _, rfl, rfl, rfl, p, .ref b, vg, f, g, 1 + (k : Int), rfl, hp, hf53.sm s54, (hg53.sm s54).t, fo, go, by omega, by omega, by omega, fun u2 y2 H55 s55 hy2 yo2 yk2 yl2 => ⟨(by show 2 ≤ sizeLine; decide), ?_⟩⟩
    have q2 := same_fm yo2 do4 yk2 dk4 fun c => rfl
    subst q2
    intro l22 hp_l22
    generalize hx_l22 : upd _ l22 _ = H56
    obtain ⟨s56, e56⟩ := fresh_of hp_l22 hx_l22
    clear hx_l22
    have sy := fm_shw do4 (by omega) (by omega)
    have kY := shw_list (shw2 sy sy) (by show 2 ≤ 20; omega)
    refine ⟨.ref l22, .list [fmD y2, fmD y2], rfl, .lst (.of e56) (.cons (hy1.sm (s55.trans s56)).t.dp (.cons (hy2.sm s56).t.dp .nil)), kY, ?_⟩
    refine ⟨_, rfl, _, rfl, (by show 2 ≤ sizeLine; decide), ?_⟩
    intro l23 hp_l23
    generalize hx_l23 : upd _ l23 _ = H57
    obtain ⟨s57, e57⟩ := fresh_of hp_l23 hx_l23
    clear hx_l23
    have k57 := s54.trans (s55.trans (s56.trans s57))
    refine ⟨.ref l23, .list [fmD y2, fmD y2], rfl, .lst (.of e57) (.cons (hd4.sm k57).t.dp (.cons (hd4.sm k57).t.dp .nil)), kY, rfl, _, rfl, iteNS rfl ?_⟩
    clear hy1 hy2 e56 e57 s54 s55 s56 s57
    -- the value with the number put in
    have bY : Below ns.length y2 := below_of do4 (f := bare f (1 + (k : Int))) (g := g) (fun x hx => bf x (List.mem_filter.mp hx).1) bg fun c y z => by rw [dk4, y, z]; simp
    have shY := sy.shaped (by decide)
    refine ⟨_, rfl, _, rfl, _, rfl, p, v4, .ref lr, y2, ns, rfl, hp, (hd4.sm k57).t, do4, ⟨lr, rfl, .inl (.of (k57 _ _ er53))⟩, ro, by omega, by omega, shY, bY, fun H58 s58 => ?_⟩
    have k58 := k57.trans s58
    refine ⟨_, rfl, _, rfl, _, rfl, p, .ref b, .ref ll, f, putR ns c (valF g (rowF ns) % p), rfl, by omega, (hf53.sm k58).t, ⟨ll, rfl, .of (k58 _ _ el53)⟩, by rw [putR_len c1.2]; exact bf, by omega, small fo, fun H59 s59 => ⟨rfl, _, rfl, iteNS (congrArg V.int ?_) ?_⟩⟩
    · rw [valF_put fo.up bf c1.2, v_sum (row := rowF ns) do4 (bare_rise fo.up) go.up bY (fun x hx => bf x (List.mem_filter.mp hx).1) bg dk4, hc2]
      exact (((Cg.rest p (valF (bare f (c : Int)) (rowF ns))).add (Cg.refl p (look f (c : Int) * (valF g (rowF ns) % p)))).emod)
    have k59 := k58.trans s59
    refine ⟨_, rfl, _, rfl, _, rfl, _, rfl, (by show 2 ≤ sizeLine; decide), ?_⟩
    intro t5 ob_t5 hob_t5 hp_t5
    generalize hx_t5 : upd _ t5 _ = H60
    obtain ⟨s60, e60⟩ := fresh_of hp_t5 hx_t5
    clear hx_t5
    refine ⟨(by show 1 ≤ sizeLine; decide), ?_⟩
    intro t6 ob_t6 hob_t6 hp_t6
    generalize hx_t6 : upd _ t6 _ = H61
    obtain ⟨s61, e61⟩ := fresh_of hp_t6 hx_t6
    clear hx_t6
    have k61 := k59.trans (s60.trans s61)
    have ro1 : Fok p [((1 : Int) + (k : Int), (1 : Int))] := ⟨List.pairwise_singleton _ _, fun x hx => by
      rw [List.mem_singleton.mp hx]
      show 0 ≤ 1 + (k : Int) ∧ 1 + (k : Int) ≤ 999 ∧ (1 : Int) ≤ 1 ∧ (1 : Int) ≤ p - 1
      omega⟩
    refine ⟨p, .ref b, .ref t6, f, [(1 + (k : Int), 1)], 1 + (k : Int), rfl, hp, hf53.sm k61, ⟨t6, [t5], rfl, .inl (.inr ⟨_, e61⟩), .cons (.inl (.inr ⟨_, s61 _ _ e60⟩)) .nil⟩, fo, ro1, by omega, by omega, by show f.length + 1 < 64; omega, fun u6 y6 H62 s62 hy6 yo6 yk6 yl6 => ?_⟩
    have q6 : y6 = f := yo6.ext fo fun d => by
      have e1 : look [((1 : Int) + (k : Int), (1 : Int))] d = if 1 + (k : Int) = d then 1 else 0 := rfl
      have e2 : look y6 d = (look (bare f (1 + (k : Int))) d + look f (1 + (k : Int)) * look [((1 : Int) + (k : Int), (1 : Int))] d) % p := yk6 d
      have e3 : look f d % p = look f d := by
        by_cases z : look f d = 0
        · rw [z, Int.zero_emod]
        · have := fo.ok _ (look_in z)
          have e5 : (d, look f d).2 = look f d := rfl
          exact Int.emod_eq_of_lt (by omega) (by omega)
      rw [e2, e1, look_bare fo.up]
      by_cases z : d = 1 + (k : Int)
      · rw [if_pos z, if_pos z.symm, Int.mul_one, Int.zero_add, ← z, e3]
      · rw [if_neg z, if_neg (fun w => z w.symm), Int.mul_zero, Int.add_zero, e3]
    subst q6
    have k62 := k61.trans s62
    refine ⟨_, rfl, fmD y6, fmD y6, hy6.t.dp, (hf53.sm k62).t.dp, shf, shf, _, rfl, ?_⟩
    rw [Ow.eqv_self (SeqAt.canLay_of_shaped shf)]
    refine iteF ?_
    have hf62 := hf53.sm k62
    have hg62 := hg53.sm k62
    have er62 := k62 _ _ er53
    have st62 := st53.same k62
    clear hy6 yk6 yo6 yl6 ro1 e60 e61 s58 s59 s60 s61 s62 k57 k58 k59 k61 el53 er53 hf53 hg53 bY
    -- leads
    refine ⟨fun σ H' => σ = [some (.ref a), some (.int p), some (.ref b), some vg, some (.int n), some (.str (PyData.list [fmD y6, fmD g]).shown), some (.ref ld), none, some (.ref lr), none, some (.int (valF y6 (rowF ns) % p)), some (.int (valF g (rowF ns) % p)), some (.int (1 + (k : Int))), some (.ref ll), some v4, some (leadV y6), none, none, none, none] ∧ Same H62 H', ?_, ?_⟩
    · obtain ⟨b', ps, eb, sqf, qf⟩ := id hf62
      cases eb
      refine ⟨_, rfl, Nat.zero_le _, ?_⟩
      intro t7 ob_t7 hob_t7 hp_t7
      generalize hx_t7 : upd _ t7 _ = H63
      obtain ⟨s63, e63⟩ := fresh_of hp_t7 hx_t7
      clear hx_t7
      refine ⟨fmD y6, .tuple [], (hf62.sm s63).t.dp, .tup (.inl (.inr ⟨_, e63⟩)) .nil, shf, nilT_shows.shaped (by decide), _, rfl, ?_⟩
      cases y6 with
      | nil => exact iteF ⟨rfl, s63⟩
      | cons x r =>
        refine iteT ?_
        obtain ⟨y, hy⟩ : ∃ y, (x :: r).getLast? = some y := by
          cases h : (x :: r).getLast? with
          | none => simp at h
          | some y => exact ⟨y, rfl⟩
        obtain ⟨t, ht, hpr⟩ := last_pr qf hy
        have e : leadV (x :: r) = if 0 < y.1 then .int y.1 else .non := by
          unfold leadV
          rw [hy]
        rw [e]
        have g1 := atI_lst ht
        refine ⟨_, rfl, _, rfl, b, _, -1, _, rfl, rfl, Ow.SqT.sm sqf.t s63, g1, t, _, 0, _, rfl, rfl, hpr.sm s63, at_of (j := 0) rfl rfl, _, _, rfl, rfl, _, rfl, ite2 (fun z => ?_) (fun z => ?_)⟩
        · have z : 0 < y.1 := of_decide_eq_true z
          rw [if_pos z]
          exact ⟨_, rfl, _, rfl, b, _, -1, _, rfl, rfl, Ow.SqT.sm sqf.t s63, g1, t, _, 0, _, rfl, rfl, hpr.sm s63, at_of (j := 0) rfl rfl, rfl, s63⟩
        · have z : ¬ 0 < y.1 := fun w => z (decide_eq_true w)
          rw [if_neg z]
          exact ⟨rfl, s63⟩
    rintro σ H63 ⟨rfl, k63⟩
    have slead := lead_shw fo
    have kL := shw_list (shw2 slead slead) (by show 2 ≤ 20; omega)
    have hf63 := hf62.sm k63
    refine ⟨_, rfl, _, rfl, p, .ref b, y6, rfl, hp, hf63.t, fo, by omega, shf, fun H64 s64 => ?_⟩
    refine ⟨_, rfl, _, rfl, rfl, rfl, p, .ref b, y6, rfl, hp, (hf63.sm s64).t, fo, by omega, shf, fun H65 s65 => ⟨(by show 2 ≤ sizeLine; decide), ?_⟩⟩
    intro l24 hp_l24
    generalize hx_l24 : upd _ l24 _ = H66
    obtain ⟨s66, e66⟩ := fresh_of hp_l24 hx_l24
    clear hx_l24
    refine ⟨.ref l24, .list [leadD y6, leadD y6], rfl, .lst (.of e66) (.cons (lead_dp _) (.cons (lead_dp _) .nil)), kL, ?_⟩
    refine ⟨_, rfl, _, rfl, (by show 2 ≤ sizeLine; decide), ?_⟩
    intro l25 hp_l25
    generalize hx_l25 : upd _ l25 _ = H67
    obtain ⟨s67, e67⟩ := fresh_of hp_l25 hx_l25
    clear hx_l25
    refine ⟨.ref l25, .list [leadD y6, leadD y6], rfl, .lst (.of e67) (.cons (lead_dp _) (.cons (lead_dp _) .nil)), kL, rfl, _, rfl, iteNS rfl ?_⟩
    have k67 := s64.trans (s65.trans (s66.trans s67))
    have kB := shw_list (shw2 (bool_shw (decide (leadV y6 = .non))) (bool_shw (decide (leadV y6 = .non)))) (by show 2 ≤ 20; omega)
    refine ⟨_, rfl, _, rfl, p, .ref b, y6, rfl, hp, (hf63.sm k67).t, fo, by omega, shf, fun H68 s68 => ?_⟩
    refine ⟨_, rfl, _, rfl, rfl, rfl, p, .ref b, y6, rfl, hp, (hf63.sm (k67.trans s68)).t, fo, by omega, shf, fun H69 s69 => ⟨(by show 2 ≤ sizeLine; decide), ?_⟩⟩
    intro l26 hp_l26
    generalize hx_l26 : upd _ l26 _ = H70
    obtain ⟨s70, e70⟩ := fresh_of hp_l26 hx_l26
    clear hx_l26
    refine ⟨.ref l26, .list [.bool (decide (leadV y6 = .non)), .bool (decide (leadV y6 = .non))], rfl, .lst (.of e70) (.cons (.bl _) (.cons (.bl _) .nil)), kB, ?_⟩
    refine ⟨_, rfl, rfl, (by show 1 ≤ sizeLine; decide), ?_⟩
    intro l27 hp_l27
    generalize hx_l27 : upd _ l27 _ = H71
    obtain ⟨s71, e71⟩ := fresh_of hp_l27 hx_l27
    clear hx_l27
    refine ⟨l27, 2, _, rfl, rfl, e71, by decide, by decide, (by show 2 ≤ sizeLine; decide), ?_⟩
    intro l28 hp_l28
    generalize hx_l28 : upd _ l28 _ = H72
    obtain ⟨s72, e72⟩ := fresh_of hp_l28 hx_l28
    clear hx_l28
    have e72 : H72 l28 = some (.lst [.bl (decide (leadV y6 = .non)), .bl (decide (leadV y6 = .non))]) := e72
    refine ⟨.ref l28, .list [.bool (decide (leadV y6 = .non)), .bool (decide (leadV y6 = .non))], rfl, .lst (.of e72) (.cons (.bl _) (.cons (.bl _) .nil)), kB, rfl, _, rfl, iteNS rfl ?_⟩
    have k72 := k63.trans (k67.trans (s68.trans (s69.trans (s70.trans (s71.trans s72)))))
    have hf72 := hf62.sm k72
    have hg72 := hg62.sm k72
    have er72 := k72 _ _ er62
    have st72 := st62.same k72
    clear e66 e67 e70 e71 e72 s64 s65 s66 s67 s68 s69 s70 s71 s72 k67 hf63 hf62 hg62 er62
    -- several forms with weights
    refine ⟨_, rfl, _, rfl, _, rfl, _, rfl, a, p, 9, 3, rfl, st72.pot, by omega, by omega, by omega, by omega, by omega, by omega, fun vh h H73 s73 hh ho lh ch => ⟨(by show 3 ≤ sizeLine; decide), ?_⟩⟩
    have st73 := st72.trans s73
    have lh : h.length ≤ 3 := lh
    have hf73 := hf72.stp st72.pot s73
    have hg73 := hg72.stp st72.pot s73
    have er73 := s73.kp _ _ nra er72
    intro l29 hp_l29
    generalize hx_l29 : upd _ l29 _ = H74
    obtain ⟨s74, e74⟩ := fresh_of hp_l29 hx_l29
    clear hx_l29
    have st74 := st73.same s74
    refine ⟨_, rfl, a, 4, rfl, st74.pot, by omega, by omega, fun z0 H75 s75 z00 z01 => ?_⟩
    obtain ⟨z, rfl⟩ : ∃ z : Nat, z0 = (z : Int) := ⟨z0.toNat, by omega⟩
    have st75 := st74.trans s75
    refine ⟨_, rfl, l29, _, rfl, .of (s75.kp _ _ (st73.pot.ne hp_l29) e74), ?_⟩
    rw [cut_to (by show z ≤ 3; omega)]
    intro lfs hp_lfs
    generalize hx_lfs : upd _ lfs _ = H76
    obtain ⟨s76, e76⟩ := fresh_of hp_lfs hx_lfs
    clear hx_lfs
    have st76 := st75.same s76
    have hf76 := ((hf73.sm s74).stp st74.pot s75).sm s76
    have hg76 := ((hg73.sm s74).stp st74.pot s75).sm s76
    have hh76 := ((hh.sm s74).stp st74.pot s75).sm s76
    have er76 := s76 _ _ (s75.kp _ _ nra (s74 _ _ er73))
    have nfa := st75.pot.ne hp_lfs
    have bh : Below ns.length h := fun x hx => ⟨(ho.ok x hx).1, by have := ch x hx; omega⟩
    have pF : Paired (FmF K H76) ([.ref b, vg, vh].take z) ([y6, g, h].take z) := paired_take z (.cons hf76 (.cons hg76 (.cons hh76 .nil)))
    have oF : ∀ x ∈ [y6, g, h].take z, Fok p x ∧ x.length ≤ 6 ∧ Below ns.length x := fun x hx => by
      have hx := List.mem_of_mem_take hx
      simp only [List.mem_cons, List.not_mem_nil, or_false] at hx
      rcases hx with rfl | rfl | rfl
      · exact ⟨fo, lf, bf⟩
      · exact ⟨go, lg, bg⟩
      · exact ⟨ho, by omega, bh⟩
    have lsF : lsum ([y6, g, h].take z) ≤ 18 := by
      refine Nat.le_trans (lsum_le _ z) ?_
      unfold lsum
      simp
      omega
    have lF : ([y6, g, h].take z).length ≤ 3 := by
      rw [List.length_take]
      show min z 3 ≤ 3
      omega
    revert e76 pF oF lsF lF
    generalize [V.ref b, vg, vh].take z = vF
    generalize [y6, g, h].take z = fF
    intro e76 pF oF lsF lF
    have lv := paired_len pF
    clear e74 hf73 hg73 er73 hh ch lh hf72 hg72 er72
    -- the weights
    refine ⟨_, rfl, lfs, rfl, ⟨_, .of e76⟩, fun D hD => ?_⟩
    refine comp_list (S := Stp a) (xs := vF) (fun _ v => ∃ d, v = .int d ∧ Nm p d) (Fair.pot hD st76.pot) (by omega) (fun x => rfl) (fun H' s => .of (s.kp _ _ nfa e76)) ?_ ?_
    · intro i x H' _ s Q' k
      exact ⟨_, rfl, _, rfl, a, p, rfl, s.pot, by omega, by omega, fun d H3 s3 d0 d1 => k _ _ s3 ⟨d, rfl, d0, d1⟩⟩
    intro xs H77 hlen hxs s77 eD
    obtain ⟨wF, rfl, lw, hwF⟩ := ints_ex hxs
    have lw : fF.length = wF.length := by omega
    have st77 := st76.trans s77
    have pF77 : Paired (FmF K H77) vF fF := paired_map pF fun _ _ x => x.stp st76.pot s77
    have e77 := s77.kp _ _ nfa e76
    have hf77 := hf76.stp st76.pot s77
    have hg77 := hg76.stp st76.pot s77
    have er77 := s77.kp _ _ nra er76
    have pT : ∀ {H'}, Same H77 H' → Paired (FmT K H') vF fF := fun s => paired_map pF77 fun _ _ x => (x.sm s).t
    have wB : ∀ m ∈ wF, -(2 ^ 64) < m ∧ m < 2 ^ 64 := fun m hm => by
      have q1 := (hwF m hm).1
      have q2 := (hwF m hm).2
      omega
    refine ⟨_, rfl, _, rfl, _, rfl, p, .ref lfs, .ref D, fF, wF, rfl, by omega, ⟨lfs, vF, rfl, .of e77, pT (Same.refl _)⟩, ⟨D, rfl, .of eD⟩, lw, fun x hx => ⟨(oF x hx).1, by omega⟩, wB, by omega, fun v7 d7 H78 s78 hd7 do7 dk7 dl7 => ?_⟩
    have s7w := fm_shw do7 (by omega) (by omega)
    have k7w := shw_list (shw2 s7w s7w) (by show 2 ≤ 20; omega)
    refine ⟨_, rfl, _, rfl, _, rfl, p, false, .ref lfs, .ref D, fF, wF, rfl, hp, ⟨lfs, vF, rfl, .of (s78 _ _ e77), pT s78⟩, ⟨D, rfl, .of (s78 _ _ eD)⟩, lw, by omega, fun x hx => (oF x hx).1, hwF, by omega, fun u1 w1 H79 s79 hw1 wo1 wk1 wl1 => ?_⟩
    have q1 := same_fm wo1 do7 wk1 dk7 fun c => rfl
    subst q1
    have k79 := s78.trans s79
    refine ⟨_, rfl, D, _, rfl, .inl ⟨.of (k79 _ _ eD), ?_⟩⟩
    intro tw ob_tw hob_tw hp_tw
    generalize hx_tw : upd _ tw _ = H80
    obtain ⟨s80, e80⟩ := fresh_of hp_tw hx_tw
    clear hx_tw
    have k80 := k79.trans s80
    refine ⟨_, rfl, lfs, _, rfl, .inl ⟨.of (k80 _ _ e77), ?_⟩⟩
    intro tf ob_tf hob_tf hp_tf
    generalize hx_tf : upd _ tf _ = H81
    obtain ⟨s81, e81⟩ := fresh_of hp_tf hx_tf
    clear hx_tf
    have k81 := k80.trans s81
    refine ⟨_, rfl, rfl, rfl, p, true, .ref tf, .ref tw, fF, wF, rfl, hp, ⟨tf, vF, rfl, .inl (.inr ⟨_, e81⟩), pT k81⟩, ⟨tw, rfl, .inl (.inr ⟨_, s81 _ _ e80⟩)⟩, lw, by omega, fun x hx => (oF x hx).1, hwF, by omega, fun u2 w2 H82 s82 hw2 wo2 wk2 wl2 => ⟨(by show 2 ≤ sizeLine; decide), ?_⟩⟩
    have q2 := same_fm wo2 do7 wk2 dk7 fun c => rfl
    subst q2
    intro l30 hp_l30
    generalize hx_l30 : upd _ l30 _ = H83
    obtain ⟨s83, e83⟩ := fresh_of hp_l30 hx_l30
    clear hx_l30
    refine ⟨.ref l30, .list [fmD w2, fmD w2], rfl, .lst (.of e83) (.cons (hw1.sm (s80.trans (s81.trans (s82.trans s83)))).t.dp (.cons (hw2.sm s83).t.dp .nil)), k7w, ?_⟩
    refine ⟨_, rfl, _, rfl, (by show 2 ≤ sizeLine; decide), ?_⟩
    intro l31 hp_l31
    generalize hx_l31 : upd _ l31 _ = H84
    obtain ⟨s84, e84⟩ := fresh_of hp_l31 hx_l31
    clear hx_l31
    have k84 := s79.trans (s80.trans (s81.trans (s82.trans (s83.trans s84))))
    refine ⟨.ref l31, .list [fmD w2, fmD w2], rfl, .lst (.of e84) (.cons (hd7.sm k84).t.dp (.cons (hd7.sm k84).t.dp .nil)), k7w, rfl, _, rfl, iteNS rfl ?_⟩
    have k84' := s78.trans k84
    have hd84 := hd7.sm k84
    clear hw1 hw2 e80 e81 e83 e84 s79 s80 s81 s82 s83 s84 k79 k80 k81 hd7
    -- the sum of the values
    have lmin : fF.length = min vF.length (wF.map V.int).length := by rw [List.length_map]; omega
    have pV := paired_map pF77 fun _ _ x => x.sm k84'
    refine ⟨_, rfl, _, rfl, lfs, D, vF, wF.map V.int, rfl, .inl ⟨.of (k84' _ _ e77), .of (k84' _ _ eD), ?_⟩⟩
    refine for_it (walk_zip (K := K) (a := lfs) (b := D) (xs := vF) (ys := wF.map V.int) lmin) (fun i σ H' => Same H84 H' ∧ ∃ (tot : Int) (o7 o19 : Option V), σ = [some (.ref a), some (.int p), some (.ref b), some vg, some (.int n), some (.str (PyData.list [fmD y6, fmD g]).shown), some (.ref ld), o7, some (.ref lr), none, some (.int (valF y6 (rowF ns) % p)), some (.int (valF g (rowF ns) % p)), some (.int (1 + (k : Int))), some (.ref ll), some v7, some (leadV y6), some (.ref lfs), some (.ref D), some (.int tot), o19] ∧ tot = wval (fF.take i) (wF.take i) (rowF ns) % p)
      ⟨Same.refl _, 0, none, none, rfl, ?_⟩ (fun i σ H' _ x => ⟨.of (x.1 _ _ (k84' _ _ e77)), .of (x.1 _ _ (k84' _ _ eD))⟩) ?_ ?_
    · show (0 : Int) = 0 % p
      rw [Int.zero_emod]
    · rintro i v σ H85 H86 hi' ⟨s85, tot, o7, o19, rfl, etot⟩ ⟨T, x, y, rfl, hT, rfl, hx, hy⟩
      have hx : vF[i]? = some x := hx
      have hy : (wF.map V.int)[i]? = some y := hy
      rw [List.getElem?_map] at hy
      obtain ⟨m, hm, rfl⟩ := Option.map_eq_some_iff.mp hy
      obtain ⟨e, he⟩ : ∃ e, fF[i]? = some e := ⟨_, List.getElem?_eq_getElem hi'⟩
      obtain ⟨x', hx', hq⟩ := paired_at pV i he
      rw [hx] at hx'
      cases hx'
      have st : Same H85 (upd H85 T (.tup [x, .int m])) := same_new hT
      have s86 := s85.trans st
      obtain ⟨eo, el, eb⟩ := oF e (List.mem_of_getElem? he)
      refine ⟨T, _, rfl, .inl (.inl upd_same), rfl, _, _, rfl, _, _, rfl, rfl, ?_⟩
      refine ⟨_, rfl, _, rfl, _, rfl, _, rfl, _, rfl, _, rfl, _, rfl, p, x, .ref lr, e, ns, rfl, hp, (hq.sm s86).t, eo, ⟨lr, rfl, .inl (.of (s86 _ _ (k84' _ _ er77)))⟩, ro, by omega, by omega, (fm_shw eo (by omega) (by omega)).shaped (by decide), eb, fun H87 s87 => ?_⟩
      refine ⟨p, m, valF e (rowF ns) % p, rfl, hp, hwF m (List.mem_of_getElem? hm), nm, ?_⟩
      refine ⟨p, tot, m * (valF e (rowF ns) % p) % p, rfl, hp, by rw [etot]; exact nm, nm, ?_⟩
      refine ⟨s86.trans s87, _, _, _, rfl, ?_⟩
      rw [wval_take he hm, etot]
      exact ((Cg.rest p (wval (fF.take i) (wF.take i) (rowF ns))).add ((Cg.rest p (m * (valF e (rowF ns) % p))).trans ((Cg.refl p m).mul (Cg.rest p (valF e (rowF ns)))))).emod
    rintro σ H85 ⟨s85, tot, o7, o19, rfl, etot⟩
    rw [List.take_length] at etot
    have ewF : wF.take fF.length = wF := by rw [lw, List.take_length]
    rw [ewF] at etot
    have b7 : Below ns.length w2 := below_w do7 (fun x hx => (oF x hx).2.2) dk7
    refine ⟨_, rfl, _, rfl, _, rfl, p, v7, .ref lr, w2, ns, rfl, hp, (hd84.sm s85).t, do7, ⟨lr, rfl, .inl (.of (s85 _ _ (k84' _ _ er77)))⟩, ro, by omega, by omega, s7w.shaped (by decide), b7, fun H86 s86 => ?_⟩
    have ev : valF w2 (rowF ns) % p = tot := by
      rw [etot]
      exact v_wsum do7 b7 (fun x hx => ⟨(oF x hx).1.up, (oF x hx).2.2⟩) dk7
    rw [ev]
    refine ⟨_, rfl, rfl, _, rfl, ?_⟩
    rw [decide_eq_true rfl]
    refine iteT ⟨_, rfl, _, rfl, (by show 2 ≤ sizeLine; decide), ?_⟩
    intro l32 hp_l32
    generalize hx_l32 : upd _ l32 _ = H87
    obtain ⟨s87, e87⟩ := fresh_of hp_l32 hx_l32
    clear hx_l32
    have k87 := k84'.trans (s85.trans (s86.trans s87))
    refine ⟨.ref l32, .list [fmD y6, fmD g], rfl, .lst (.of e87) (.cons (hf77.sm k87).t.dp (.cons (hg77.sm k87).t.dp .nil)), kShown, _, rfl, rfl, ?_⟩
    rw [decide_eq_true rfl]
    exact q H87 (st77.same k87)
def sp_law (K : PySem.W.Frag) : Sp := fun vs H Q _ => ∃ a ns, vs = [.ref a] ∧ SqL K H a (List.map V.int ns) ∧ ns.length ≤ 63 ∧ ∀ H', Q (.bl true) H'
theorem D_law (T : Tx K mg) : Ow.Df P w K mg base CX0 9 "law" s_law ["script"] (sp_law K) := by
  refine Ow.df_of T.f_law sc_law bd_law (fun vs H Q E h => ?_) (fun cdv A outer s H vs Q E f hG hR h => ?_)
  · obtain ⟨_, _, rfl, _⟩ := h
    rfl
  · obtain ⟨a, ns, rfl, hS, hl, q⟩ := h
    have hu := hR.units
    have hu1 := hu_of hR
    refine ⟨_, (pss_one (ps_ret (pe_callB (cr_all rfl) (by rfl) T.b_all (by decide +kernel) (pa_cons (pe_lc (own := [("k", 1)]) (g := gName 1) rfl sc_law.nd (pi_range1 (by rfl) T.b_range (pa_cons (pe_callB (call_max2 rfl) (by rfl) T.b_max (by decide +kernel) (pa_cons pe_int (pa_cons (pe_callB (call_min2 rfl) (by rfl) T.b_min (by decide +kernel) (pa_cons pe_int (pa_cons (pe_callB call_len_seq (by rfl) T.b_len (by decide +kernel) (pa_cons (pv 0) pa_nil)) pa_nil))) pa_nil))) pa_nil)) (blkOk_by (N := ["script", "k"]) (sc := defScope s_law) (by decide +kernel)) (fun _ _ _ _ _ => pg_name (i := 1) sc_law.nd rfl (Or.inl rfl)) (fun _ _ _ _ _ => pts_nil) (fun _ _ _ _ _ => (Ow.pe_d (D_law_right T) hR (by decide) hG pass0 (by rfl) (pa_cons (Ow.pe_d (D_law_pot T) hR (by decide) hG pass0 (by rfl) (pa_cons (pv 0) (pa_cons (pv 1) pa_nil))) pa_nil)))) pa_nil)))), ?_⟩
    refine ⟨_, rfl, a, _, rfl, .inl hS, _, _, rfl, _, _, rfl, ?_⟩
    rw [List.length_map]
    generalize hn : (if (if (ns.length : Int) < 3 then (ns.length : Int) else 3) > 1 then (if (ns.length : Int) < 3 then (ns.length : Int) else 3) else 1) = n
    have n0 : 0 ≤ n ∧ n ≤ 3 := by
      rw [← hn]
      constructor <;> split <;> split <;> omega
    refine ⟨n, rfl, by omega, by omega, fun D hD => ?_⟩
    refine comp_range (S := Same) (fun _ v => v = .bl true) (Fair.same hD) (by omega) (fun x => rfl) ?_ ?_
    · intro i H' hi s Q' k
      refine ⟨_, rfl, _, rfl, a, _, ns, rfl, s.seq hS, by omega, fun H2 p s2 hp pot => ?_⟩
      refine ⟨p, rfl, pot, fun H3 s3 => k _ _ (fun b o e => ?_) rfl⟩
      exact s3.kp _ _ (ne_of_none e hp) (s2 _ _ e)
    · intro xs H' hlen hx s e
      refine ⟨D, xs.map fun _ => true, rfl, .of ?_, ?_⟩
      · rw [e]
        congr 2
        rw [List.map_map]
        refine list_map_of rfl fun k v z h1 h2 => ?_
        rw [h1] at h2
        cases h2
        exact hx k v h1
      · have e2 : (xs.map fun _ => true).all id = true := by simp
        rw [e2]
        exact q H'
end
theorem law_asks (K : PySem.W.Frag) (H : Hp) (a : Addr) (ns : List Int) (hl : ns.length ≤ 63) (hS : SqL K H a (ns.map V.int)) : sp_law K [.ref a] H (fun v _ => v = .bl true) E0 := ⟨a, ns, rfl, hS, hl, fun _ => rfl⟩
theorem law_made {P : Program} {w : World} {K : PySem.W.Frag} {mg : Str → Option Value} {fa : Addr} (T : Tx K mg) (hmg : mg "law" = some (.ref fa)) :
    ∃ fd : FuncData, (∀ u : Value, bindArgs fd ⟨[u], []⟩ = pure [(("script" : Str), u)]) ∧ ∀ base : Heap, K.In base → base.Ns mainGlobals mg → Ow.Prm P w K mg base CX0 9 fa fd ["script"] (sp_law K) :=
  Ow.made_of T.f_law hmg bd_law fun _ => D_law T

end Eqr
section
open PySem PySem.W PyProof.Rows
set_option maxRecDepth 100000 in
set_option maxHeartbeats 0 in
open_top head for PySem.Challenge.rw_equalruns_k21_whole_forms_reckoned
end
open PySem PySem.W PyProof.Rows
set_option maxRecDepth 100000 in
set_option maxHeartbeats 0 in
theorem PySem.Challenge.cw_equalruns_k21_whole_forms_reckoned_holds : PySem.Challenge.rw_equalruns_k21_whole_forms_reckoned.Holds :=
  head (by
    k_fill
    refine Ow.law_end (l := PySem.Challenge.rw_equalruns_k21_whole_forms_reckoned) (n := 63) (k := 9) (x := "script") (sp := Eqr.sp_law) rfl (by decide) rfl ⟨rfl, by decide, by decide⟩ (fun w h Y => PySem.W.kIn_of Y) ?F Eqr.law_asks
    case F =>
      intro w mg fa h KX G hmg
      refine' Eqr.law_made ⟨?b_abs, ?b_all, ?b_bool, ?b_dict, ?b_divmod, ?b_int, ?b_isinstance, ?b_len, ?b_list, ?b_max, ?b_min, ?b_range, ?b_repr, ?b_sorted, ?b_sum, ?b_tuple, ?b_zip, ?c_LEAST_PRIME, ?c_MOST_CELL, ?c_MOST_FORMS, ?c_MOST_PRIME, ?c_MOST_ROW, ?f_is_integer, ?f_is_within, ?f_is_list, ?f_least_divisor, ?f_is_prime_of, ?f_check_prime, ?f_is_number_of, ?f_check_number, ?f_are_numbers, ?f_is_part, ?f_is_form_of, ?f_check_form, ?f_check_forms, ?f_are_row, ?f_check_two, ?f_of_dict, ?f_sum_with, ?f_so_many, ?f_number_at, ?f_value_of_form, ?f_lead_by, ?f_put_by, ?f_weighed_by, ?f_is_form, ?f_form_plus, ?f_form_less, ?f_form_times, ?f_form_put, ?f_form_value, ?f_lead_of, ?f_is_constant, ?f_weighed, ?f_check_pair, ?f_plus, ?f_minus, ?f_times, ?f_law_pot, ?f_law_draw, ?f_law_pick, ?f_law_form, ?f_law_weighed, ?f_law_value, ?f_law_drawn_form, ?f_law_right, ?f_law⟩ hmg
      (case b_abs => exact Ow.none_of KX G (by k_is))
      (case b_all => exact Ow.none_of KX G (by k_is))
      (case b_bool => exact Ow.none_of KX G (by k_is))
      (case b_dict => exact Ow.none_of KX G (by k_is))
      (case b_divmod => exact Ow.none_of KX G (by k_is))
      (case b_int => exact Ow.none_of KX G (by k_is))
      (case b_isinstance => exact Ow.none_of KX G (by k_is))
      (case b_len => exact Ow.none_of KX G (by k_is))
      (case b_list => exact Ow.none_of KX G (by k_is))
      (case b_max => exact Ow.none_of KX G (by k_is))
      (case b_min => exact Ow.none_of KX G (by k_is))
      (case b_range => exact Ow.none_of KX G (by k_is))
      (case b_repr => exact Ow.none_of KX G (by k_is))
      (case b_sorted => exact Ow.none_of KX G (by k_is))
      (case b_sum => exact Ow.none_of KX G (by k_is))
      (case b_tuple => exact Ow.none_of KX G (by k_is))
      (case b_zip => exact Ow.none_of KX G (by k_is))
      (case c_LEAST_PRIME => refine' Ow.int_of KX G ?a; (case a => k_is))
      (case c_MOST_CELL => refine' Ow.int_of KX G ?a; (case a => k_is))
      (case c_MOST_FORMS => refine' Ow.int_of KX G ?a; (case a => k_is))
      (case c_MOST_PRIME => refine' Ow.int_of KX G ?a; (case a => k_is))
      (case c_MOST_ROW => refine' Ow.int_of KX G ?a; (case a => k_is))
      (case f_is_integer => refine' Ow.stands_of KX G ?a ?l ?c ?k; (case a => k_is); (case l => k_is); (case c => k_is); (case k => k_is))
      (case f_is_within => refine' Ow.stands_of KX G ?a ?l ?c ?k; (case a => k_is); (case l => k_is); (case c => k_is); (case k => k_is))
      (case f_is_list => refine' Ow.stands_of KX G ?a ?l ?c ?k; (case a => k_is); (case l => k_is); (case c => k_is); (case k => k_is))
      (case f_least_divisor => refine' Ow.stands_of KX G ?a ?l ?c ?k; (case a => k_is); (case l => k_is); (case c => k_is); (case k => k_is))
      (case f_is_prime_of => refine' Ow.stands_of KX G ?a ?l ?c ?k; (case a => k_is); (case l => k_is); (case c => k_is); (case k => k_is))
      (case f_check_prime => refine' Ow.stands_of KX G ?a ?l ?c ?k; (case a => k_is); (case l => k_is); (case c => k_is); (case k => k_is))
      (case f_is_number_of => refine' Ow.stands_of KX G ?a ?l ?c ?k; (case a => k_is); (case l => k_is); (case c => k_is); (case k => k_is))
      (case f_check_number => refine' Ow.stands_of KX G ?a ?l ?c ?k; (case a => k_is); (case l => k_is); (case c => k_is); (case k => k_is))
      (case f_are_numbers => refine' Ow.stands_of KX G ?a ?l ?c ?k; (case a => k_is); (case l => k_is); (case c => k_is); (case k => k_is))
      (case f_is_part => refine' Ow.stands_of KX G ?a ?l ?c ?k; (case a => k_is); (case l => k_is); (case c => k_is); (case k => k_is))
      (case f_is_form_of => refine' Ow.stands_of KX G ?a ?l ?c ?k; (case a => k_is); (case l => k_is); (case c => k_is); (case k => k_is))
      (case f_check_form => refine' Ow.stands_of KX G ?a ?l ?c ?k; (case a => k_is); (case l => k_is); (case c => k_is); (case k => k_is))
      (case f_check_forms => refine' Ow.stands_of KX G ?a ?l ?c ?k; (case a => k_is); (case l => k_is); (case c => k_is); (case k => k_is))
      (case f_are_row => refine' Ow.stands_of KX G ?a ?l ?c ?k; (case a => k_is); (case l => k_is); (case c => k_is); (case k => k_is))
      (case f_check_two => refine' Ow.stands_of KX G ?a ?l ?c ?k; (case a => k_is); (case l => k_is); (case c => k_is); (case k => k_is))
      (case f_of_dict => refine' Ow.stands_of KX G ?a ?l ?c ?k; (case a => k_is); (case l => k_is); (case c => k_is); (case k => k_is))
      (case f_sum_with => refine' Ow.stands_of KX G ?a ?l ?c ?k; (case a => k_is); (case l => k_is); (case c => k_is); (case k => k_is))
      (case f_so_many => refine' Ow.stands_of KX G ?a ?l ?c ?k; (case a => k_is); (case l => k_is); (case c => k_is); (case k => k_is))
      (case f_number_at => refine' Ow.stands_of KX G ?a ?l ?c ?k; (case a => k_is); (case l => k_is); (case c => k_is); (case k => k_is))
      (case f_value_of_form => refine' Ow.stands_of KX G ?a ?l ?c ?k; (case a => k_is); (case l => k_is); (case c => k_is); (case k => k_is))
      (case f_lead_by => refine' Ow.stands_of KX G ?a ?l ?c ?k; (case a => k_is); (case l => k_is); (case c => k_is); (case k => k_is))
      (case f_put_by => refine' Ow.stands_of KX G ?a ?l ?c ?k; (case a => k_is); (case l => k_is); (case c => k_is); (case k => k_is))
      (case f_weighed_by => refine' Ow.stands_of KX G ?a ?l ?c ?k; (case a => k_is); (case l => k_is); (case c => k_is); (case k => k_is))
      (case f_is_form => refine' Ow.stands_of KX G ?a ?l ?c ?k; (case a => k_is); (case l => k_is); (case c => k_is); (case k => k_is))
      (case f_form_plus => refine' Ow.stands_of KX G ?a ?l ?c ?k; (case a => k_is); (case l => k_is); (case c => k_is); (case k => k_is))
      (case f_form_less => refine' Ow.stands_of KX G ?a ?l ?c ?k; (case a => k_is); (case l => k_is); (case c => k_is); (case k => k_is))
      (case f_form_times => refine' Ow.stands_of KX G ?a ?l ?c ?k; (case a => k_is); (case l => k_is); (case c => k_is); (case k => k_is))
      (case f_form_put => refine' Ow.stands_of KX G ?a ?l ?c ?k; (case a => k_is); (case l => k_is); (case c => k_is); (case k => k_is))
      (case f_form_value => refine' Ow.stands_of KX G ?a ?l ?c ?k; (case a => k_is); (case l => k_is); (case c => k_is); (case k => k_is))
      (case f_lead_of => refine' Ow.stands_of KX G ?a ?l ?c ?k; (case a => k_is); (case l => k_is); (case c => k_is); (case k => k_is))
      (case f_is_constant => refine' Ow.stands_of KX G ?a ?l ?c ?k; (case a => k_is); (case l => k_is); (case c => k_is); (case k => k_is))
      (case f_weighed => refine' Ow.stands_of KX G ?a ?l ?c ?k; (case a => k_is); (case l => k_is); (case c => k_is); (case k => k_is))
      (case f_check_pair => refine' Ow.stands_of KX G ?a ?l ?c ?k; (case a => k_is); (case l => k_is); (case c => k_is); (case k => k_is))
      (case f_plus => refine' Ow.stands_of KX G ?a ?l ?c ?k; (case a => k_is); (case l => k_is); (case c => k_is); (case k => k_is))
      (case f_minus => refine' Ow.stands_of KX G ?a ?l ?c ?k; (case a => k_is); (case l => k_is); (case c => k_is); (case k => k_is))
      (case f_times => refine' Ow.stands_of KX G ?a ?l ?c ?k; (case a => k_is); (case l => k_is); (case c => k_is); (case k => k_is))
      (case f_law_pot => refine' Ow.stands_of KX G ?a ?l ?c ?k; (case a => k_is); (case l => k_is); (case c => k_is); (case k => k_is))
      (case f_law_draw => refine' Ow.stands_of KX G ?a ?l ?c ?k; (case a => k_is); (case l => k_is); (case c => k_is); (case k => k_is))
      (case f_law_pick => refine' Ow.stands_of KX G ?a ?l ?c ?k; (case a => k_is); (case l => k_is); (case c => k_is); (case k => k_is))
      (case f_law_form => refine' Ow.stands_of KX G ?a ?l ?c ?k; (case a => k_is); (case l => k_is); (case c => k_is); (case k => k_is))
      (case f_law_weighed => refine' Ow.stands_of KX G ?a ?l ?c ?k; (case a => k_is); (case l => k_is); (case c => k_is); (case k => k_is))
      (case f_law_value => refine' Ow.stands_of KX G ?a ?l ?c ?k; (case a => k_is); (case l => k_is); (case c => k_is); (case k => k_is))
      (case f_law_drawn_form => refine' Ow.stands_of KX G ?a ?l ?c ?k; (case a => k_is); (case l => k_is); (case c => k_is); (case k => k_is))
      (case f_law_right => refine' Ow.stands_of KX G ?a ?l ?c ?k; (case a => k_is); (case l => k_is); (case c => k_is); (case k => k_is))
      (case f_law => refine' Ow.stands_of KX G ?a ?l ?c ?k; (case a => k_is); (case l => k_is); (case c => k_is); (case k => k_is)))
