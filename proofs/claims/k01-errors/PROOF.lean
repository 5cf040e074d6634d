import PyProof.Rows.All
import Wide.All
import OpenK.AllK
import Wide.FinOn
import HandS.ForExc
import HandS.ForMost
import HandS.ExcInit
import HandS.ExcIs
import HandS.ExcField
import HandS.IsInst
import HandS.HotCalls
import HandS.RaiseMore
import HandS.Gcd
import HandS.Wide
import HandS.Style
import KE.KExcIs
import PyProof.ReprLen
import PySem.Challenge.RW_fracsteps_k01_errors
set_option Elab.async false
set_option linter.all false
set_option maxRecDepth 100000
set_option maxHeartbeats 4000000
/-! The layer with guards: promises of defs that may ask repr of a container; defs that are handed the caught exception. -/
namespace Lx
open PySem PySem.Spec PyProof.Rows L2
abbrev St := L2.St

/-! ### promises -/
structure FnG (P : Program) (w : World) (K : PySem.W.Frag) (mg : Str → Option Value) (base : Heap) (CX : CXT) (k : Nat)
    (f : Addr) (fd : FuncData) (ps : List Str) (sp : Sp) : Prop where
  len : ∀ vs H Q E, sp vs H Q E → vs.length = ps.length
  run : ∀ (A : Around) (outer : List Env) (s : Shared) (H : Hp) (args : Args) (us : List Value) (vs : List V) (Q : VK) (E : XK),
    Room k A → A.guards = some [] → Env0 P w K mg base A outer s H → BindsTo s fd args (ps.zip us) → Vals vs us → sp vs H Q E →
    codeAny (model P w) A (.call (.ref f) args) (CR CX outer P w H s Q E) s
theorem FnG.of {P w K mg base CX k f fd ps sp} (F : FnOk P w K mg base CX k f fd ps sp) : FnG P w K mg base CX k f fd ps sp :=
  ⟨F.len, fun A outer s H args us vs Q E hr _ e0 hb r h => F.run A outer s H args us vs Q E hr e0 hb r h⟩
theorem FnG.mono {P w K mg base CX j k f fd ps sp} (F : FnG P w K mg base CX j f fd ps sp) (h : j ≤ k) : FnG P w K mg base CX k f fd ps sp :=
  ⟨F.len, fun A outer s H args us vs Q E hr hg e0 hb r hs => F.run A outer s H args us vs Q E (hr.mono h) hg e0 hb r hs⟩
/-- a def that is handed the exception which a suite holds: p its address and object -/
structure FnE (P : Program) (w : World) (K : PySem.W.Frag) (mg : Str → Option Value) (base : Heap) (k : Nat)
    (f : Addr) (fd : FuncData) (ps : List Str) (sp : Addr × Obj → Sp) : Prop where
  len : ∀ p vs H Q E, sp p vs H Q E → vs.length = ps.length
  run : ∀ (A : Around) (outer : List Env) (s : Shared) (H : Hp) (args : Args) (us : List Value) (vs : List V) (Q : VK) (E : XK) (p : Addr × Obj),
    L2H.RoomH k A → A.guards = some [] → L2H.PinOk outer H s p → Env0 P w K mg base A outer s H → BindsTo s fd args (ps.zip us) → Vals vs us → sp p vs H Q E →
    codeAny (model P w) A (.call (.ref f) args) (CR CX0 outer P w H s Q E) s

theorem deeper_guards (A : Around) (env : Env) : (A.deeper env).guards = A.guards := rfl

section
variable {P : Program} {w : World} {K : PySem.W.Frag} {mg : Str → Option Value} {base : Heap} {CX : CXT}
def outV : Flow → Value
  | .ret v => v
  | _ => .none
theorem fin_cr {X : Cx} {outer : List Env} {H : Hp} {s s' : Shared} {Q : VK} {E : XK} {fl : Flow} (e1 : X.prog = P) (e2 : X.w = w) (e3 : X.outer = outer) (e4 : X.H_0 = H) (e5 : X.s_0 = s) (e6 : X.ex = [])
    (hs : SP X [] { nx := fun _ H' => Q .non H', rt := Q } fl s') : CR CX outer P w H s Q E (.ok (.ret (outV fl))) s' := by
  subst e1 e2 e3 e4 e5
  have go : ∀ {σ' : L2.St} {H' : Hp} {v : V} {u : Value}, Inv X [] σ' H' s' → RelV v u → Q v H' → CE X.outer X.prog X.w X.H_0 X.s_0 Q u s' := fun {σ' H' v u} J rv q => by
    have b := J.base
    rw [e6] at b
    exact ⟨v, H', J.os, J.bare, b, J.hok, rv, q⟩
  cases fl with
  | ret u => obtain ⟨v, σ', H', J, rv, q⟩ := hs; exact go J rv q
  | next => obtain ⟨σ', H', J, q⟩ := hs; exact go (v := V.non) (u := Value.none) J rfl q
  | brk => obtain ⟨_, _, _, q⟩ := hs; exact False.elim q
  | cont => obtain ⟨_, _, _, q⟩ := hs; exact False.elim q

/-- a def by its body, the guards told -/
theorem okG {x qual : Str} {st : Stmt} {f : Addr} {fd : FuncData} {N ps : List Str} {k : Nat} {sp : Sp} (F : Fun K x qual st f fd) (S : FnScope N ps (defScope st))
    (len : ∀ vs H Q E, sp vs H Q E → vs.length = ps.length)
    (hbody : ∀ (cdv : Value) (A : Around) (outer : List Env) (s : Shared) (H : Hp) (vs : List V) (Q : VK) (E : XK), Room k (A.deeper (envOfC qual (defScope st) s.heap.objs.size f cdv)) →
      (A.deeper (envOfC qual (defScope st) s.heap.objs.size f cdv)).guards = some [] → sp vs H Q E →
      ∃ t, PSs (cxOf CX P w K mg base N qual (defScope st) f cdv A outer s H E) (defBody st) t ∧ t { nx := fun _ H' => Q .non H', rt := Q } (start N vs) H) :
    FnG P w K mg base CX (k + 1) f fd ps sp := by
  obtain ⟨oc, od, kV, doc, pm, an, cdv, ct, osl, rfl, lk, hcd⟩ := F.ex
  refine ⟨len, fun A outer s H args us vs Q E hr hgd e0 hb r hsp => ?_⟩
  have hl := len _ _ _ _ hsp
  have inK : K.In s.heap := e0.mod.kin.keeps fun b o e => (e0.bs b o e).1
  have kinds : ∀ y ∈ ps.zip us, (defScope st).names.lookup y.1 = some .local ∨ ((defScope st).names.lookup y.1 = some .cell ∧ ((cellsFrom (s.heap.objs.size + 1) (defScope st).names []).lookup y.1).isSome = true) := by
    rintro ⟨n, v⟩ hy
    rcases S.par n (List.of_mem_zip hy).1 with q | q
    · exact .inl q
    · exact .inr ⟨q, PySem.W.cellsFrom_some _ _ _ (.inl q)⟩
  refine codeAny_call_function hr.depth (inK _ _ lk) rfl S.co S.gen rfl (PySem.W.codeRec_of inK hcd) (hb _ _ _ _ (wpAny_newFunctionEnv_cells S.kind kinds fun env he s1 x => ?_))
  subst he
  refine ⟨(e0.mod.nolimit.keeps fun b o e => (e0.bs b o e).1).keeps x.toInCall.keep, codeAny_func ?_⟩
  obtain ⟨t, ht, hq⟩ := hbody cdv A outer s H vs Q E (hr.deeper _) hgd hsp
  exact wpAny_mono (ht.run [] s1 (start N vs) H _ (inv_start (CX := CX) (E := E) S hr.hd e0 hl r x) hq) (fun fl s' hs => by cases fl <;> exact fin_cr rfl rfl rfl rfl rfl rfl hs) fun e s' hs => hs
/-- a def that is handed the exception -/
theorem okE {x qual : Str} {st : Stmt} {f : Addr} {fd : FuncData} {N ps : List Str} {k : Nat} {sp : Addr × Obj → Sp} (F : Fun K x qual st f fd) (S : FnScope N ps (defScope st))
    (len : ∀ p vs H Q E, sp p vs H Q E → vs.length = ps.length)
    (hbody : ∀ (cdv : Value) (A : Around) (outer : List Env) (s : Shared) (H : Hp) (vs : List V) (Q : VK) (E : XK) (p : Addr × Obj), L2H.RoomH k (A.deeper (envOfC qual (defScope st) s.heap.objs.size f cdv)) →
      (A.deeper (envOfC qual (defScope st) s.heap.objs.size f cdv)).guards = some [] → sp p vs H Q E →
      ∃ t, PSs (L2H.cxH CX0 P w K mg base N qual (defScope st) f cdv A outer s H E p).nox (defBody st) t ∧ t { nx := fun _ H' => Q .non H', rt := Q } (start N vs) H) :
    FnE P w K mg base (k + 1) f fd ps sp := by
  obtain ⟨oc, od, kV, doc, pm, an, cdv, ct, osl, rfl, lk, hcd⟩ := F.ex
  refine ⟨len, fun A outer s H args us vs Q E p hr hgd hpin e0 hb r hsp => ?_⟩
  have hl := len _ _ _ _ _ hsp
  have inK : K.In s.heap := e0.mod.kin.keeps fun b o e => (e0.bs b o e).1
  have kinds : ∀ y ∈ ps.zip us, (defScope st).names.lookup y.1 = some .local ∨ ((defScope st).names.lookup y.1 = some .cell ∧ ((cellsFrom (s.heap.objs.size + 1) (defScope st).names []).lookup y.1).isSome = true) := by
    rintro ⟨n, v⟩ hy
    rcases S.par n (List.of_mem_zip hy).1 with q | q
    · exact .inl q
    · exact .inr ⟨q, PySem.W.cellsFrom_some _ _ _ (.inl q)⟩
  refine codeAny_call_function hr.depth (inK _ _ lk) rfl S.co S.gen rfl (PySem.W.codeRec_of inK hcd) (hb _ _ _ _ (wpAny_newFunctionEnv_cells S.kind kinds fun env he s1 x => ?_))
  subst he
  refine ⟨(e0.mod.nolimit.keeps fun b o e => (e0.bs b o e).1).keeps x.toInCall.keep, codeAny_func ?_⟩
  obtain ⟨t, ht, hq⟩ := hbody cdv A outer s H vs Q E p (hr.deeper _) hgd hsp
  exact wpAny_mono (ht.nox.run [] s1 (start N vs) H _ (L2H.inv_startH (CX := CX0) (E := E) S hpin e0 hl r x) hq) (fun fl s' hs => by cases fl <;> exact fin_cr rfl rfl rfl rfl rfl rfl hs) fun e s' hs => hs
end

/-! ### calls -/
section
variable {X : Cx} {CX : CXT} {k : Nat} {f : Addr} {fd : FuncData} {ps : List Str} {sp : Sp} {E : L2.St → XK} {x : Str} {q pos : Pos} {e : Expr} {es : List Expr} {t : TA}
theorem run_fnG {pins : List (Addr × Obj)} {σ : L2.St} {H : Hp} {s : Shared} {Q : VK} {us : List Value} {vs : List V} (F : FnG X.prog X.w X.K X.mg X.base CX k f fd ps sp) (hr : Room k X.A) (hg : X.A.guards = some [])
    (hb : Binds X.K fd ps []) (hx : PassesAt CX X σ (E σ)) (I : Inv X pins σ H s) (r : Vals vs us) (h : sp vs H Q (E σ)) : wpAny (model X.prog X.w) X.A (call (.ref f) us) (EP X pins σ Q) X.xe s := by
  have b := hb s us I.kIn (by rw [List.append_nil, ← r.length]; exact F.len _ _ _ _ h)
  rw [List.append_nil] at b
  refine wpAny_call (codeAny_mono (F.run X.A X.stack s H ⟨us, []⟩ us vs Q (E σ) hr hg I.env0 b r h) fun r s' hq => ?_)
  cases r with
  | error e => exact hx pins H s e s' I hq
  | ok fl => cases fl with
    | ret u => exact I.after hq
    | _ => exact False.elim hq
theorem pe_callG (F : FnG X.prog X.w X.K X.mg X.base CX k f fd ps sp) (hr : Room k X.A) (hgd : X.A.guards = some []) (hg : Gl X x) (hm : X.mg x = some (.ref f)) (hk : PySem.W.keepIn X.K (.ref f) = true) (hb : Binds X.K fd ps [])
    (hx : ∀ σ, PassesAt CX X σ (E σ)) (ha : PA X (e :: es) t) (hdb : (x == ("__debug__" : Str)) = false := by decide) (he : starEach (e :: es) X.env = (false, eval e X.env) :: starEach es X.env := by rfl)
    (hpl : (backTo pos (starEach es X.env)).any (·.1) = false := by rfl) : PE X (.Call (.Name x q) (e :: es) [] pos) (tCallS sp E t) :=
  ⟨fun pins s σ H Q I h => wpAny_Call_Name_kw (ld_glob I hg hm (PySem.W.callWith_K (h₀ := X.base) I.ok.mod.kin hk
    (thn (ha.run pos pins s σ H _ I h) fun us s1 ⟨vs, H1, I1, r, q⟩ => ⟨I1.kIn, run_fnG F hr hgd hb (hx σ) I1 r q⟩) he hpl) hdb)⟩
theorem pe_callG0 (F : FnG X.prog X.w X.K X.mg X.base CX k f fd [] sp) (hr : Room k X.A) (hgd : X.A.guards = some []) (hg : Gl X x) (hm : X.mg x = some (.ref f)) (hk : PySem.W.keepIn X.K (.ref f) = true) (hb : Binds X.K fd [] [])
    (hx : ∀ σ, PassesAt CX X σ (E σ)) (hdb : (x == ("__debug__" : Str)) = false := by decide) : PE X (.Call (.Name x q) [] [] pos) (tCallS sp E tNil) :=
  ⟨fun pins s σ H Q I h => wpAny_Call_Name_kw (ld_glob I hg hm (PySem.W.callWith_K0 I.kIn hk (run_fnG (us := []) F hr hgd hb (hx σ) I .nil h)) hdb)⟩
theorem at0 {X : Cx} {σ : L2.St} : PassesAt CX0 X σ E0 := fun _ _ _ _ _ _ h => h.elim
abbrev noE : L2.St → XK := fun _ => E0
/-- the call of a def that is handed the exception at p: the promise from what is said at the arguments -/
def tCallR (R : List V → Hp → VK → Prop) (t : TA) : TE := fun σ H Q => t σ H fun vs H1 => R vs H1 Q
theorem pe_callR {p : Addr × Obj} {spE : Addr × Obj → Sp} {R : List V → Hp → VK → Prop} (hR : ∀ vs H Q, R vs H Q → spE p vs H Q E0) (F : FnE X.prog X.w X.K X.mg X.base k f fd ps spE) (hr : L2H.RoomH k X.A) (hgd : X.A.guards = some []) (hp : p ∈ X.pn) (hg : Gl X x) (hm : X.mg x = some (.ref f))
    (hk : PySem.W.keepIn X.K (.ref f) = true) (hb : Binds X.K fd ps []) (ha : PA X (e :: es) t) (hdb : (x == ("__debug__" : Str)) = false := by decide)
    (he : starEach (e :: es) X.env = (false, eval e X.env) :: starEach es X.env := by rfl) (hpl : (backTo pos (starEach es X.env)).any (·.1) = false := by rfl) :
    PE X (.Call (.Name x q) (e :: es) [] pos) (tCallR R t) := by
  refine ⟨fun pins s σ H Q I h => wpAny_Call_Name_kw (ld_glob I hg hm (PySem.W.callWith_K (h₀ := X.base) I.ok.mod.kin hk
    (thn (ha.run pos pins s σ H _ I h) fun us s1 ⟨vs, H1, I1, r, q⟩ => ⟨I1.kIn, ?_⟩) he hpl) hdb)⟩
  have q2 := hR _ _ _ q
  have b := hb s1 us I1.kIn (by rw [List.append_nil, ← r.length]; exact F.len _ _ _ _ _ q2)
  rw [List.append_nil] at b
  obtain ⟨g1, g2, g3, g4, g5⟩ := I1.pin p (List.mem_append_left _ hp)
  have hpin : L2H.PinOk X.stack H1 s1 p := ⟨g1, g2, fun hm => (List.mem_cons.mp (I1.stkSub p.1 hm)).elim g3 g4, g5⟩
  show wpAny _ _ (call (.ref f) us) _ _ _
  refine wpAny_call (codeAny_mono (F.run X.A X.stack s1 H1 ⟨us, []⟩ us vs Q E0 p hr hgd hpin I1.env0 b r q2) fun r s' hq => ?_)
  cases r with
  | error e => exact False.elim hq
  | ok fl => cases fl with
    | ret u => exact I1.after hq
    | _ => exact False.elim hq
end
end Lx
namespace Lx
open PySem PySem.Spec PyProof.Rows L2

/-! ### the end of a law -/
theorem out_true {P : Program} {w : World} {H : Hp} {s s' : Shared} {a : Addr} {ob : Obj} {xs : List V} (hO : ∀ b, H b = none ∨ H b = some (.frz ob (.lst xs))) (hok : HOk P w H s.heap)
    {u : Value} (h : CE [] P w H s (fun v _ => v = .bl true) u s') : u = .bool true ∧ OldK s.heap s'.heap ∧ s'.os = s.os ∧ AllBare s'.gens := by
  obtain ⟨v, H', os, bare, un, hok', r, q⟩ := h
  have q' : v = .bl true := q
  subst q'
  refine ⟨r, OldK.of_keep fun b o e => ?_, os, bare⟩
  have nf : ∀ {b : Addr}, b ∉ frs [] := fun z => absurd (show _ ∈ ([] : List Addr) from z) (by simp)
  rcases hO b with z | z
  · exact un.keep b o e z nf (by simp)
  · have y1 : s.heap.get? b = some ob := (show ObjOk P w H s.heap b (.frz ob (.lst xs)) from hok b _ z).1
    have y2 : s'.heap.get? b = some ob := (show ObjOk P w H' s'.heap b (.frz ob (.lst xs)) from hok' b _ (un.frzs b ob _ z)).1
    rw [y1] at e
    rw [y2, ← e]

theorem law_callG {P : Program} {w : World} {K : PySem.W.Frag} {mg mb : Str → Option Value} {k : Nat} {fa a : Addr} {fd : FuncData} {x : Str} {sp : Sp} {s₁ : Shared} {vs : List Value} {ns : List Int}
    (KX : K.In s₁.heap) (hns : s₁.heap.Ns mainGlobals mg) (hb : s₁.heap.Ns builtinsNs mb) (hbb : ∀ x : Str, x ≠ "__name__" → mb x = bootBuiltins x) (hlim : s₁.heap.NoLimit) (hg : s₁.gens = #[])
    (ha : s₁.heap.get? a = some { cls := .type "list", data := .seq vs.toArray }) (hi : IntsAre vs ns) (hl : ns.length ≤ sizeLine) (hr : Room k callerA)
    (F : ∀ base : Heap, K.In base → base.Ns mainGlobals mg → FnG P w K mg base CX0 k fa fd [x] sp) (hbind : ∀ (s : Shared) (u : Value), BindsTo s fd ⟨[u], []⟩ [(x, u)])
    (hsp : ∀ H : Hp, Only H → SqL K H a (ns.map V.int) → sp [.ref a] H (fun v _ => v = .bl true) E0) :
    codeAny (model P w) callerA (.call (.ref fa) ⟨[.ref a], []⟩) (fun r s' => r = .ok (.ret (.bool true)) ∧ OldK s₁.heap s'.heap ∧ s'.os = s₁.os ∧ AllBare s'.gens) s₁ := by
  have rv := vals_ints hi
  have lv := hi.length
  obtain ⟨ob, hob⟩ : ∃ ob : Obj, ob = { cls := .type "list", data := .seq vs.toArray } := ⟨_, rfl⟩
  -- H tracks at most the script, at a
  have go : ∀ H : Hp, (∀ b, H b = none ∨ (b = a ∧ H b = some (.frz ob (.lst (ns.map V.int))))) → SqL K H a (ns.map V.int) → (H a ≠ none → K.lookup a = none) →
      codeAny (model P w) callerA (.call (.ref fa) ⟨[.ref a], []⟩) (fun r s' => r = .ok (.ret (.bool true)) ∧ OldK s₁.heap s'.heap ∧ s'.os = s₁.os ∧ AllBare s'.gens) s₁ := by
    intro H hH hS hK
    have isA : ∀ {b : Addr}, H b ≠ none → b = a := fun {b} n => (hH b).elim (fun z => absurd z n) fun z => z.1
    have hok : HOk P w H s₁.heap := fun b u q => by
      rcases hH b with z | ⟨z, z2⟩
      · rw [z] at q; cases q
      · subst z
        rw [z2] at q
        cases q
        exact ⟨by rw [hob]; exact ha, by rw [List.length_map]; exact hl, vs, _, rv, ha⟩
    have dictFree : ∀ {b : Addr} {o : Obj} {es : Array DictEntry} {ep : Nat}, s₁.heap.get? b = some o → o.data = .dict es ep → H b = none := fun {b o es ep} e d => by
      cases q : H b with
      | none => rfl
      | some u =>
        have z : b = a := isA (by rw [q]; simp)
        rw [z, ha] at e
        cases e
        cases d
    have toB : ∀ {b : Addr} {m : Str → Option Value}, s₁.heap.Ns b m → (hidT s₁.heap H).Ns b m := fun {b m} ⟨o, es, ep, e, d, r⟩ => ⟨o, es, ep, hidT_get e (dictFree e d), d, r⟩
    have inB : K.In (hidT s₁.heap H) := fun b o e => hidT_get (KX b o e) (by
      cases q : H b with
      | none => rfl
      | some u =>
        have z := isA (b := b) (by rw [q]; simp)
        rw [z, hK (by rw [← z, q]; simp)] at e
        cases e)
    have md : Mod K mg (hidT s₁.heap H) := ⟨inB, toB hns, ⟨mb, toB hb, hbb⟩, hlim.imp fun mc z => ⟨toB z.1, z.2⟩⟩
    have e0 : Env0 P w K mg (hidT s₁.heap H) callerA [] s₁ H := ⟨rfl, md, fun b o e => of_hidT e, Nat.le_of_eq (hidT_size _ _), trivial, fun b hb => absurd (show b ∈ ([] : List Addr) from hb) (by simp), hok, .of_eq hg⟩
    have on : Only H := fun b => (hH b).imp id fun z => ⟨ob, _, z.2⟩
    refine codeAny_mono ((F _ inB (toB hns)).run callerA [] s₁ H ⟨[.ref a], []⟩ [.ref a] [.ref a] _ _ hr rfl e0 (hbind s₁ (.ref a)) (.cons rfl .nil) (hsp H on hS)) fun r s' h => ?_
    cases r with
    | error e => exact False.elim h
    | ok fl => cases fl with
      | ret u =>
        obtain ⟨e1, e2⟩ := out_true (a := a) (fun b => (hH b).imp id fun z => z.2) hok h
        exact ⟨by rw [e1], e2⟩
      | _ => exact False.elim h
  cases hk : K.lookup a with
  | some o =>
    have e := KX a o hk
    rw [ha] at e
    cases e
    exact go (fun _ => none) (fun _ => .inl rfl) (.inr ⟨_, vs.toArray, _, hk, rfl, rfl, rfl, by rw [List.size_toArray, lv]; exact hl, by simpa using rv⟩) fun z => absurd rfl z
  | none =>
    refine go (fun b => if b = a then some (.frz ob (.lst (ns.map V.int))) else none) (fun b => ?_) (.inl (.inr ⟨ob, if_pos rfl⟩)) fun _ => hk
    by_cases hb : b = a
    · exact .inr ⟨hb, if_pos hb⟩
    · exact .inl (if_neg hb)

/-- what k_head leaves, from the law's promise with guards -/
theorem walk_ofG {l : PySem.W.OpenLaw} {n k : Nat} {q : Program} {loose : List Str} {XP : (Str → Option Value) → Heap → Prop} {YP : World → Heap → Prop} {d : DefRec} {K : Params → PySem.W.Frag} {sp : PySem.W.Frag → Sp} {x : Str}
    (hn : l.most = some n) (hn2 : n ≤ sizeLine) (hdf : d.params.defaults = []) (hr : Room k callerA)
    (hY : ∀ (w : World) (h : Heap), YP w h → (K w.params).In h)
    (F : ∀ (w : World) (mg : Str → Option Value) (fa : Addr) (h : Heap), (K w.params).In h → h.Ns mainGlobals mg → mg d.name = some (.ref fa) →
      ∃ fd : FuncData, (∀ (s : Shared) (u : Value), BindsTo s fd ⟨[u], []⟩ [(x, u)]) ∧
        ∀ base : Heap, (K w.params).In base → base.Ns mainGlobals mg → FnG l.prog w (K w.params) mg base CX0 k fa fd [x] (sp (K w.params)))
    (hsp : ∀ (K : PySem.W.Frag) (H : Hp) (a : Addr) (ns : List Int), ns.length ≤ n → Only H → SqL K H a (ns.map V.int) → sp K [.ref a] H (fun v _ => v = .bl true) E0) :
    PySem.W.WalkO q loose XP YP l.row.toRowW d [] (fun f vs => PySem.call f vs) := by
  refine Att.attach_call hn hdf fun w s₀ s₁ mg mb fa o pm cd doc a vs ns G Y ho hd hcd hmg hobj hints hlen hg => ?_
  obtain ⟨fd, hb, hF⟩ := F w mg fa _ (hY w _ Y) G.T.g hmg
  exact law_callG (hY w _ Y) G.T.g G.T.b G.T.builtins G.T.nolimit hg hobj hints (Nat.le_trans hlen hn2) hr hF hb fun H hO hS => hsp (K w.params) H a ns hlen hO hS

/-! ### data, with its dicts -/
def kD : Key → PyData
  | .inl i => .int i
  | .inr x => .str x
mutual
inductive Rp (H : Hp) : V → PyData → Prop
  | non : Rp H .non .none
  | bl (b : Bool) : Rp H (.bl b) (.bool b)
  | int (i : Int) : Rp H (.int i) (.int i)
  | str (x : Str) : Rp H (.str x) (.str x)
  | lst {a : Addr} {xs : List V} {ds : List PyData} : H a = some (.lst xs) → a ≠ sysModules → RpAll H xs ds → Rp H (.ref a) (.list ds)
  | tup {a : Addr} {xs : List V} {ds : List PyData} : H a = some (.tup xs) → RpAll H xs ds → Rp H (.ref a) (.tuple ds)
  | dct {a : Addr} {kvs : List (Key × V)} {ds : List (PyData × PyData)} : H a = some (.dK kvs) → ds.map (·.1) = kvs.map (fun p => kD p.1) → RpAll H (kvs.map (·.2)) (ds.map (·.2)) → Rp H (.ref a) (.dict ds)
inductive RpAll (H : Hp) : List V → List PyData → Prop
  | nil : RpAll H [] []
  | cons {v : V} {vs : List V} {d : PyData} {ds : List PyData} : Rp H v d → RpAll H vs ds → RpAll H (v :: vs) (d :: ds)
end
mutual
theorem Rp.same {H H' : Hp} (k : Same H H') : ∀ {v : V} {d : PyData}, Rp H v d → Rp H' v d
  | _, _, .non => .non
  | _, _, .bl b => .bl b
  | _, _, .int i => .int i
  | _, _, .str x => .str x
  | _, _, .lst e n r => .lst (k _ _ e) n (RpAll.same k r)
  | _, _, .tup e r => .tup (k _ _ e) (RpAll.same k r)
  | _, _, .dct e q r => .dct (k _ _ e) q (RpAll.same k r)
theorem RpAll.same {H H' : Hp} (k : Same H H') : ∀ {vs : List V} {ds : List PyData}, RpAll H vs ds → RpAll H' vs ds
  | _, _, .nil => .nil
  | _, _, .cons a b => .cons (Rp.same k a) (RpAll.same k b)
end
theorem keys_read {P : Program} {w : World} {h : Heap} : ∀ {es : List DictEntry} {vs : List (Key × Value)}, Pairs (mixKind P w) es vs → ReadsAll h (es.map (·.key)) (vs.map fun p => kD p.1) []
  | _, _, .nil => .nil
  | _, _, .cons (e := e) (kv := kv) hk hv hr => by
    have r : Reads h e.key (kD kv.1) [] := by
      rcases keyIs_shape hk with ⟨i, t, e1, e2⟩ | ⟨x, t, e1, e2⟩
      · rw [e1, e2]; exact .int i t
      · rw [e1, e2]; exact .str x t
    exact ReadsAll.cons (as := []) (bs := []) r (keys_read hr)
theorem vals_of_pairs {P : Program} {w : World} : ∀ {es : List DictEntry} {vs : List (Key × Value)}, Pairs (mixKind P w) es vs → es.map (·.val) = vs.map (·.2)
  | _, _, .nil => rfl
  | _, _, .cons hk hv hr => by rw [List.map_cons, List.map_cons, hv, vals_of_pairs hr]
theorem kv_keys : ∀ {kvs : List (Key × V)} {vs : List (Key × Value)}, KV kvs vs → vs.map (fun p => kD p.1) = kvs.map (fun p => kD p.1)
  | _, _, .nil => rfl
  | _, _, .cons a b => by rw [List.map_cons, List.map_cons, a.1, kv_keys b]
theorem kv_vals : ∀ {kvs : List (Key × V)} {vs : List (Key × Value)}, KV kvs vs → Vals (kvs.map (·.2)) (vs.map (·.2))
  | _, _, .nil => .nil
  | _, _, .cons a b => .cons a.2 (kv_vals b)
section
variable {X : Cx} {pins : List (Addr × Obj)} {σ : L2.St} {H : Hp} {s : Shared}
mutual
theorem Rp.reads (I : Inv X pins σ H s) : ∀ {v : V} {d : PyData}, Rp H v d → ∀ {u : Value}, RelV v u → ∃ as, Reads s.heap u d as ∧ sysModules ∉ as
  | _, _, .non, _, r => by cases r; exact ⟨_, .none, by simp⟩
  | _, _, .bl b, _, r => by cases r; exact ⟨_, .bool b, by simp⟩
  | _, _, .int i, _, r => by obtain ⟨t, rfl⟩ := r; exact ⟨_, .int i t, by simp⟩
  | _, _, .str x, _, r => by obtain ⟨t, rfl⟩ := r; exact ⟨_, .str x t, by simp⟩
  | _, _, @Rp.lst _ a xs ds e n h, _, r => by
    cases r
    obtain ⟨its, rv, ⟨o, c, ho, hc, _, hd⟩, _⟩ := I.list (.inl (.inl e))
    obtain ⟨as, q1, q2⟩ := RpAll.reads I h rv
    exact ⟨_, .list ho hc hd q1, fun z => (List.mem_cons.mp z).elim (fun y => n y.symm) q2⟩
  | _, _, @Rp.tup _ a xs ds e h, _, r => by
    cases r
    obtain ⟨its, rv, ⟨o, ho, hc, c, hd⟩, _⟩ := I.tuple (.inl (.inl e))
    obtain ⟨as, q1, q2⟩ := RpAll.reads I h rv
    exact ⟨_, .tuple ho hc hd q1, q2⟩
  | _, _, @Rp.dct _ a kvs ds e hk h, _, r => by
    cases r
    obtain ⟨_, hs, vs, kv, o, es, ep, ho, hx, hd, _, hp, _⟩ := (show ObjOk X.prog X.w H s.heap a (.dK kvs) from I.hok a _ e)
    obtain ⟨as, q1, q2⟩ := RpAll.reads I h (kv_vals kv)
    have e1 : ReadsAll s.heap (es.toList.map (·.key)) (ds.map (·.1)) [] := by
      rw [hk, ← kv_keys kv]
      exact keys_read hp
    have e2 : ReadsAll s.heap (es.toList.map (·.val)) (ds.map (·.2)) as := by
      rw [vals_of_pairs hp]
      exact q1
    refine ⟨_, .dict ho hx.1 hd e1 e2, fun z => ?_⟩
    rcases List.mem_cons.mp z with y | y
    · rw [← y] at hs
      simp at hs
    · exact q2 (by simpa using y)
theorem RpAll.reads (I : Inv X pins σ H s) : ∀ {vs : List V} {ds : List PyData}, RpAll H vs ds → ∀ {us : List Value}, Vals vs us → ∃ as, ReadsAll s.heap us ds as ∧ sysModules ∉ as
  | _, _, .nil, _, r => by cases r; exact ⟨_, .nil, by simp⟩
  | _, _, .cons h1 h2, _, r => by
    cases r with
    | cons r1 r2 =>
      obtain ⟨as, q1, n1⟩ := Rp.reads I h1 r1
      obtain ⟨bs, q2, n2⟩ := RpAll.reads I h2 r2
      exact ⟨_, .cons q1 q2, fun z => (List.mem_append.mp z).elim n1 n2⟩
end
end
/-- repr(x), x data -/
def rRepr : List V → Hp → VK → Prop := fun xs H Q => ∃ (v : V) (d : PyData), xs = [v] ∧ Rp H v d ∧ d.showable = true ∧ d.depth ≤ 64 ∧ d.shown.length ≤ sizeLine ∧ Q (.str d.shown) H
theorem call_repr {X : Cx} (hg : X.A.guards = some []) (hu : X.A.units + 65 < cLine) : CallR X (.builtin "repr") rRepr := by
  intro pins s σ H xs us Q I r h
  obtain ⟨v, d, rfl, hr, hs, hd, hz, q⟩ := h
  cases r with
  | cons r1 rr =>
    cases rr
    rename_i u
    have fin : ∀ {t : Tok} {s' : Shared}, Inv X pins σ H s' → EP X pins σ Q (.str d.shown t) s' := fun {t s'} J => ⟨.str d.shown, H, J, ⟨t, rfl⟩, q⟩
    obtain ⟨as, rd, nm⟩ := hr.reads I r1
    cases hr with
    | non =>
      cases r1
      exact PySem.P.repr_of_none (by simpa [PyData.shown] using fin (I.tok _))
    | bl b =>
      cases r1
      exact PySem.P.repr_of_bool (by simpa [PyData.shown] using fin (I.tok _))
    | int i =>
      obtain ⟨t, rfl⟩ := r1
      refine PySem.P.repr_of_int (by simpa [PyData.showable] using hs) (by simpa [PyData.shown] using fin (I.tok _))
    | str x =>
      obtain ⟨t, rfl⟩ := r1
      refine PySem.P.repr_of_str (by simpa [PyData.shown] using fin (I.tok _)) (by simpa [PyData.shown] using hz)
    | lst e n hh =>
      cases r1
      exact repr_of_reads' rd hs (fun _ => nm) hg (by omega) (fun _ _ e => e) (fun h' u tk hk => fin (I.kept hk)) hz
    | tup e hh =>
      cases r1
      exact repr_of_reads' rd hs (fun _ => nm) hg (by omega) (fun _ _ e => e) (fun h' u tk hk => fin (I.kept hk)) hz
    | dct e hk hh =>
      cases r1
      exact repr_of_reads' rd hs (fun _ => nm) hg (by omega) (fun _ _ e => e) (fun h' u tk hk => fin (I.kept hk)) hz
end Lx
namespace Lx
open PySem PySem.Spec PyProof.Rows L2
/-! ### exceptions of the program's classes -/
/-- what is asked of an exception class, for isinstance and fields -/
structure XcF (K : PySem.W.Frag) (C : Addr) : Prop where
  ga : PySem.W.findIn K (.ref C) "__getattribute__" = some (some (.builtin "BaseException.__getattribute__"))
  gg : PySem.W.findIn K (.ref C) "__getattr__" = some none
  ex : PySem.W.subIn K (.ref C) (.type "BaseException") = some true
  hd : PySem.W.hasDictIn K C = true
  cl : PySem.W.findIn K (.ref C) "__class__" = some (some (.builtin "object.__class__"))
  ob : PySem.W.mroIn K C (.type "object") = some true
  sp : PySem.W.specialIn K (.builtin "object.__class__") "__get__" = some (some (.builtin "getset_descriptor.__get__"))
  tk : PySem.W.takesIn K (.builtin "object.__class__") = some true
/-- the exception at p is of the class at C, its fields fs -/
def ExcAt (H : Hp) (p : Addr × Obj) (C : Addr) (fs : List (Str × V)) : Prop :=
  p.2.cls = .ref C ∧ (∃ vs, p.2.data = .fields vs) ∧ ((p.2.dict = none ∧ fs = []) ∨ ∃ d, p.2.dict = some d ∧ H d = some (.xd fs))
theorem ExcAt.same {H H' : Hp} {p : Addr × Obj} {C : Addr} {fs : List (Str × V)} (h : ExcAt H p C fs) (k : Same H H') : ExcAt H' p C fs :=
  ⟨h.1, h.2.1, h.2.2.imp id fun ⟨d, e, q⟩ => ⟨d, e, k _ _ q⟩⟩
section
variable {X : Cx} {pins : List (Addr × Obj)} {σ : L2.St} {H : Hp} {s : Shared} {p : Addr × Obj} {C : Addr} {fs : List (Str × V)}
theorem ExcAt.inst (I : Inv X pins σ H s) (hp : p ∈ X.pn) (h : ExcAt H p C fs) : ∃ od, PySem.W.InstAt s.heap p.1 p.2 C od ∧ ∀ f v, fs.lookup f = some v → ∃ o, od = some o ∧ ∃ u, PySem.W.lookIn f o = some (some u) ∧ RelV v u := by
  obtain ⟨hc, ⟨vs, hv⟩, hd⟩ := h
  have hget := (I.pin p (List.mem_append_left _ hp)).1
  have hn : PySem.W.notCls p.2 = true := by unfold PySem.W.notCls; rw [hv] <;> rfl
  rcases hd with ⟨e, ef⟩ | ⟨d, e, q⟩
  · refine ⟨none, ⟨hget, hc, hn, by rw [e]; trivial⟩, fun f v hl => ?_⟩
    rw [ef] at hl
    cases hl
  · obtain ⟨mA, hns, hr⟩ := (show ObjOk X.prog X.w H s.heap d (.xd fs) from I.hok d _ q)
    obtain ⟨od, ho, hl⟩ := lookIn_ns hns
    refine ⟨some od, ⟨hget, hc, hn, by rw [e]; exact ho⟩, fun f v h2 => ⟨od, rfl, ?_⟩⟩
    obtain ⟨u, hu, ru⟩ := RelO.some_of (v := v) (o := mA f) (by rw [← h2]; exact hr f)
    exact ⟨u, by rw [hl, hu], ru⟩
/-- isinstance(e, c), e the exception at p -/
def rIsP (K : PySem.W.Frag) (p : Addr × Obj) : List V → Hp → VK → Prop := fun xs H Q => ∃ (c : V) (cv : Value) (b : Bool) (C : Addr) (fs : List (Str × V)),
  xs = [.ref p.1, c] ∧ (∀ u, RelV c u → u = cv) ∧ ExcAt H p C fs ∧ XcF K C ∧ PySem.W.kitOne K (.ref C) cv = some b ∧ Q (.bl b) H
theorem call_isP (hp : p ∈ X.pn) : CallR X (.builtin "isinstance") (rIsP X.K p) := by
  intro pins s σ H xs us Q I r h
  obtain ⟨c, cv, b, C, fs, rfl, hcv, he, T, e, q⟩ := h
  cases r with
  | cons rx rr =>
    cases rr with
    | cons rt rr =>
      cases rr
      cases rx
      have ec := hcv _ rt
      subst ec
      obtain ⟨od, J, _⟩ := he.inst I hp
      obtain ⟨cd, hcd, _⟩ := PySem.W.any_some T.hd
      exact PySem.W.kia_one (PySem.W.kitx_exc (od := od) (by rw [hcd]; rfl) T.ga T.gg T.ex T.cl T.sp T.tk T.ob) I.kIn J e (fun z => nomatch z) fun tk => ⟨.bl b, H, I.kept (t' := tk) fun _ _ z => z, rfl, q⟩
/-- e.n, e the exception at p -/
def tFldP (K : PySem.W.Frag) (p : Addr × Obj) (n : Str) (te : TE) : TE := fun σ H Q => te σ H fun x H1 => x = .ref p.1 ∧ ∃ (C : Addr) (fs : List (Str × V)) (v : V),
  ExcAt H1 p C fs ∧ XcF K C ∧ PySem.W.findIn K (.ref C) n = some none ∧ fs.lookup n = some v ∧ Q v H1
theorem pe_fldP {e : Expr} {te : TE} {pos : Pos} {n : Str} (hp : p ∈ X.pn) (he : PE X e te) (hb : attributeBase e n X.env (eval e X.env) = eval e X.env := by rfl) : PE X (.Attribute e n pos) (tFldP X.K p n te) := by
  refine ⟨fun pins s σ H Q I h => attr_of hb (thn (he.run pins s σ H _ I h) fun u s1 hh => ?_)⟩
  obtain ⟨x, H1, I1, rx, ex, C, fs, v, ea, T, hno, hl, q⟩ := hh
  subst ex
  obtain rfl : u = Value.ref p.1 := rx
  obtain ⟨od, J, hf⟩ := ea.inst I1 hp
  obtain ⟨o, rfl, u, hu, ru⟩ := hf n v hl
  exact HandSPX.exc_get I1.kIn J T.ga T.gg T.ex (PySem.W.findObj_own T.hd hno rfl hu) (handed_of ru) ⟨v, H1, I1.tok _, ru, q⟩
/-- a list display, its place no module's table -/
def tLstN (t : TA) : TE := fun σ H Q => t σ H fun xs H1 => xs.length ≤ sizeLine ∧ ∀ p, H1 p = none → p ≠ sysModules → Q (.ref p) (upd H1 p (.lst xs))
theorem big_of (I : Inv X pins σ H s) : sysModules < s.heap.objs.size := by
  obtain ⟨o, _, _, e, _⟩ := I.ok.mod.glob
  have h1 : mainGlobals < X.base.objs.size := Heap.lt_size e
  have h2 := Nat.le_trans I.ok.bsz I.sz
  exact Nat.lt_of_lt_of_le (Nat.lt_trans (by decide : sysModules < mainGlobals) h1) h2
theorem pe_lstN {es : List Expr} {t : TA} {pos : Pos} (h : PA X es t) : PE X (.List es pos) (tLstN t) := by
  refine ⟨fun pins s σ H Q I hq => wpAny_List_spliced (thn (h.run pos pins s σ H _ I hq) fun us s1 ⟨xs, H1, I1, r, z, q⟩ => ⟨by rw [← r.length]; exact z, ?_⟩)⟩
  have new : H1 s1.heap.objs.size = none := I1.hok.fresh (Nat.le_refl _)
  have ok : ObjOk X.prog X.w (upd H1 s1.heap.objs.size (.lst xs)) (s1.heap.push { cls := .type "list", data := .seq us.toArray }) s1.heap.objs.size (.lst xs) := ⟨z, us, 0, r, Heap.get?_push_size _ rfl⟩
  exact ⟨.ref s1.heap.objs.size, _, I1.laid (t' := s1.toks) (fun b u e => Heap.get?_push_of_some _ e) (Nat.le_refl _) ok, rfl, q _ new fun z => Nat.lt_irrefl _ (z ▸ big_of I1)⟩
end
/-- classes by the written part, as one look -/
def xcB (K : PySem.W.Frag) (C : Addr) : Bool :=
  decide (PySem.W.findIn K (.ref C) "__getattribute__" = some (some (.builtin "BaseException.__getattribute__"))) && decide (PySem.W.findIn K (.ref C) "__getattr__" = some none) &&
  decide (PySem.W.subIn K (.ref C) (.type "BaseException") = some true) && PySem.W.hasDictIn K C && decide (PySem.W.findIn K (.ref C) "__class__" = some (some (.builtin "object.__class__"))) &&
  decide (PySem.W.mroIn K C (.type "object") = some true) && decide (PySem.W.specialIn K (.builtin "object.__class__") "__get__" = some (some (.builtin "getset_descriptor.__get__"))) && decide (PySem.W.takesIn K (.builtin "object.__class__") = some true)
theorem xcB_ok {K : PySem.W.Frag} {C : Addr} (h : xcB K C = true) : XcF K C := by
  unfold xcB at h
  simp only [Bool.and_eq_true, decide_eq_true_eq] at h
  obtain ⟨⟨⟨⟨⟨⟨⟨h1, h2⟩, h3⟩, h4⟩, h5⟩, h6⟩, h7⟩, h8⟩ := h
  exact ⟨h1, h2, h3, h4, h5, h6, h7, h8⟩
end Lx
namespace Lx
open PySem PySem.Spec PyProof.Rows L2
/-! ### a def of the program by its name -/
/-- the def st stands under its name x -/
def Has (K : PySem.W.Frag) (mg : Str → Option Value) (x : Str) (st : Stmt) : Prop := ∃ f fd, Fun K x x st f fd ∧ mg x = some (.ref f)
/-- it keeps the promise sp -/
structure Keeps (P : Program) (w : World) (K : PySem.W.Frag) (mg : Str → Option Value) (base : Heap) (CX : CXT) (k : Nat) (x : Str) (ps : List Str) (sp : Sp) : Prop where
  ex : ∃ f fd, FnG P w K mg base CX k f fd ps sp ∧ mg x = some (.ref f) ∧ PySem.W.keepIn K (.ref f) = true ∧ Binds K fd ps []
structure KeepsE (P : Program) (w : World) (K : PySem.W.Frag) (mg : Str → Option Value) (base : Heap) (k : Nat) (x : Str) (ps : List Str) (sp : Addr × Obj → Sp) : Prop where
  ex : ∃ f fd, FnE P w K mg base k f fd ps sp ∧ mg x = some (.ref f) ∧ PySem.W.keepIn K (.ref f) = true ∧ Binds K fd ps []
/-- how a def without defaults binds -/
def BindsBy (x : Str) (st : Stmt) (ps : List Str) : Prop := ∀ (kV doc pm : Value) (an : Option Addr) (cdv ct : Value) (us : List Value), us.length = ps.length →
  bindArgs (PySem.W.fnOf x x (defArgs st) (defBody st) (defScope st) .none kV doc pm an cdv ct) ⟨us, []⟩ = pure (ps.zip us)
section
variable {P : Program} {w : World} {K : PySem.W.Frag} {mg : Str → Option Value} {base : Heap} {CX : CXT} {x : Str} {st : Stmt} {N ps : List Str} {k : Nat} {sp : Sp}
theorem keep0 (F : Has K mg x st) (b : BindsBy x st ps) (S : FnScope N ps (defScope st)) (len : ∀ vs H Q E, sp vs H Q E → vs.length = ps.length)
    (hbody : ∀ (f : Addr) (cdv : Value) (A : Around) (outer : List Env) (s : Shared) (H : Hp) (vs : List V) (Q : VK) (E : XK), Room k (A.deeper (envOfC x (defScope st) s.heap.objs.size f cdv)) →
      (A.deeper (envOfC x (defScope st) s.heap.objs.size f cdv)).guards = some [] → sp vs H Q E →
      ∃ t, PSs (cxOf CX0 P w K mg base N x (defScope st) f cdv A outer s H E).nox (defBody st) t ∧ t { nx := fun _ H' => Q .non H', rt := Q } (start N vs) H) :
    Keeps P w K mg base CX0 (k + 1) x ps sp := by
  obtain ⟨f, fd, F, hm⟩ := F
  refine ⟨f, fd, okG F S len fun cdv A outer s H vs Q E hr hg h => ?_, hm, F.kp, F.binds b⟩
  obtain ⟨t, h1, h2⟩ := hbody f cdv A outer s H vs Q E hr hg h
  exact ⟨t, h1.nox, h2⟩
theorem keepX (F : Has K mg x st) (b : BindsBy x st ps) (S : FnScope N ps (defScope st)) (len : ∀ vs H Q E, sp vs H Q E → vs.length = ps.length)
    (hbody : ∀ (f : Addr) (cdv : Value) (A : Around) (outer : List Env) (s : Shared) (H : Hp) (vs : List V) (Q : VK) (E : XK), Room k (A.deeper (envOfC x (defScope st) s.heap.objs.size f cdv)) →
      (A.deeper (envOfC x (defScope st) s.heap.objs.size f cdv)).guards = some [] → sp vs H Q E →
      ∃ t, PSs (cxOf (L2.CX P w) P w K mg base N x (defScope st) f cdv A outer s H E) (defBody st) t ∧ t { nx := fun _ H' => Q .non H', rt := Q } (start N vs) H) :
    Keeps P w K mg base (L2.CX P w) (k + 1) x ps sp := by
  obtain ⟨f, fd, F, hm⟩ := F
  exact ⟨f, fd, okG F S len fun cdv A outer s H vs Q E hr hg h => hbody f cdv A outer s H vs Q E hr hg h, hm, F.kp, F.binds b⟩
theorem keepE {sp : Addr × Obj → Sp} (F : Has K mg x st) (b : BindsBy x st ps) (S : FnScope N ps (defScope st)) (len : ∀ p vs H Q E, sp p vs H Q E → vs.length = ps.length)
    (hbody : ∀ (f : Addr) (cdv : Value) (A : Around) (outer : List Env) (s : Shared) (H : Hp) (vs : List V) (Q : VK) (E : XK) (p : Addr × Obj), L2H.RoomH k (A.deeper (envOfC x (defScope st) s.heap.objs.size f cdv)) →
      (A.deeper (envOfC x (defScope st) s.heap.objs.size f cdv)).guards = some [] → sp p vs H Q E →
      ∃ t, PSs (L2H.cxH CX0 P w K mg base N x (defScope st) f cdv A outer s H E p).nox (defBody st) t ∧ t { nx := fun _ H' => Q .non H', rt := Q } (start N vs) H) :
    KeepsE P w K mg base (k + 1) x ps sp := by
  obtain ⟨f, fd, F, hm⟩ := F
  exact ⟨f, fd, okE F S len fun cdv A outer s H vs Q E p hr hg h => hbody f cdv A outer s H vs Q E p hr hg h, hm, F.kp, F.binds b⟩
theorem Keeps.mono {j : Nat} (D : Keeps P w K mg base CX j x ps sp) (h : j ≤ k) : Keeps P w K mg base CX k x ps sp := by
  obtain ⟨f, fd, F, r⟩ := D.ex
  exact ⟨f, fd, F.mono h, r⟩
end
section
variable {X : Cx} {CX : CXT} {j k : Nat} {x : Str} {ps : List Str} {sp : Sp} {q pos : Pos} {e : Expr} {es : List Expr} {t : TA}
/-- f(e, ..), f a def that raises nothing -/
theorem pc0 (D : Keeps X.prog X.w X.K X.mg X.base CX0 j x ps sp) (hr : Room k X.A) (hg : X.A.guards = some []) (ha : PA X (e :: es) t) (hjk : j ≤ k := by decide) (hgl : Gl X x := by rfl)
    (hdb : (x == ("__debug__" : Str)) = false := by decide) (he : starEach (e :: es) X.env = (false, eval e X.env) :: starEach es X.env := by rfl)
    (hpl : (backTo pos (starEach es X.env)).any (·.1) = false := by rfl) : PE X (.Call (.Name x q) (e :: es) [] pos) (tCallS sp noE t) := by
  obtain ⟨f, fd, F, hm, hk, hb⟩ := D.ex
  exact pe_callG F (hr.mono hjk) hg hgl hm hk hb (fun _ => at0) ha hdb he hpl
theorem pc00 (D : Keeps X.prog X.w X.K X.mg X.base CX0 j x [] sp) (hr : Room k X.A) (hg : X.A.guards = some []) (hjk : j ≤ k := by decide) (hgl : Gl X x := by rfl)
    (hdb : (x == ("__debug__" : Str)) = false := by decide) : PE X (.Call (.Name x q) [] [] pos) (tCallS sp noE tNil) := by
  obtain ⟨f, fd, F, hm, hk, hb⟩ := D.ex
  exact pe_callG0 F (hr.mono hjk) hg hgl hm hk hb (fun _ => at0) hdb
/-- f(e, ..), f a def that may raise -/
theorem pcX {W : WX} (D : Keeps X.prog X.w X.K X.mg X.base (L2.CX X.prog X.w) j x ps sp) (hr : Room k X.A) (hg : X.A.guards = some []) (tk : Takes X W) (ha : PA X (e :: es) t) (hjk : j ≤ k := by decide) (hgl : Gl X x := by rfl)
    (hdb : (x == ("__debug__" : Str)) = false := by decide) (he : starEach (e :: es) X.env = (false, eval e X.env) :: starEach es X.env := by rfl)
    (hpl : (backTo pos (starEach es X.env)).any (·.1) = false := by rfl) : PE X (.Call (.Name x q) (e :: es) [] pos) (tCallS sp (WE W) t) := by
  obtain ⟨f, fd, F, hm, hk, hb⟩ := D.ex
  exact pe_callG F (hr.mono hjk) hg hgl hm hk hb (fun σ => passAt tk σ) ha hdb he hpl
/-- f(e, ..), f a def that is handed the exception at p -/
theorem pcE {p : Addr × Obj} {sp : Addr × Obj → Sp} (D : KeepsE X.prog X.w X.K X.mg X.base j x ps sp) (hr : L2H.RoomH k X.A) (hg : X.A.guards = some []) (hp : p ∈ X.pn) (ha : PA X (e :: es) t) (hjk : j ≤ k := by decide) (hgl : Gl X x := by rfl)
    (hdb : (x == ("__debug__" : Str)) = false := by decide) (he : starEach (e :: es) X.env = (false, eval e X.env) :: starEach es X.env := by rfl)
    (hpl : (backTo pos (starEach es X.env)).any (·.1) = false := by rfl) : PE X (.Call (.Name x q) (e :: es) [] pos) (tCallR (fun vs H Q => sp p vs H Q E0) t) := by
  obtain ⟨f, fd, F, hm, hk, hb⟩ := D.ex
  exact pe_callR (fun _ _ _ h => h) F (hr.mono hjk) hg hp hgl hm hk hb ha hdb he hpl
/-- the same within the suite that holds the exception at a, of the class cls, its dict d -/
def callA (sp : Addr × Obj → Sp) (a : Addr) (cls : Value) (d : Option Addr) : List V → Hp → VK → Prop := fun vs H Q => ∀ oe : Obj, Zc cls d oe → (∃ fv, oe.data = .fields fv) → sp (a, oe) vs H Q E0
theorem pcA {a : Addr} {oe : Obj} {cls : Value} {d : Option Addr} {sp : Addr × Obj → Sp} (D : KeepsE X.prog X.w X.K X.mg X.base j x ps sp) (hr : L2H.RoomH k X.A) (hg : X.A.guards = some []) (hp : (a, oe) ∈ X.pn) (hz : Zc cls d oe) (hf : ∃ fv, oe.data = .fields fv) (ha : PA X (e :: es) t)
    (hjk : j ≤ k := by decide) (hgl : Gl X x := by rfl) (hdb : (x == ("__debug__" : Str)) = false := by decide) (he : starEach (e :: es) X.env = (false, eval e X.env) :: starEach es X.env := by rfl)
    (hpl : (backTo pos (starEach es X.env)).any (·.1) = false := by rfl) : PE X (.Call (.Name x q) (e :: es) [] pos) (tCallR (callA sp a cls d) t) := by
  obtain ⟨f, fd, F, hm, hk, hb⟩ := D.ex
  exact pe_callR (fun _ _ _ h => h oe hz hf) F (hr.mono hjk) hg hp hgl hm hk hb ha hdb he hpl
end
/-! ### the source of all draws -/
def penL (l : Addr) (a d c f : Int) : List (Key × V) := [(.inr "cells", .ref l), (.inr "at", .int a), (.inr "digits", .int d), (.inr "count", .int c), (.inr "fold", .int f)]
section
variable {l : Addr} {a d c f x : Int} {H : Hp} {p : Addr}
theorem get_cells : valV (penL l a d c f) (.inr "cells") = some (.ref l) := by rfl
theorem get_at : valV (penL l a d c f) (.inr "at") = some (.int a) := by rfl
theorem get_digits : valV (penL l a d c f) (.inr "digits") = some (.int d) := by rfl
theorem get_count : valV (penL l a d c f) (.inr "count") = some (.int c) := by rfl
theorem get_fold : valV (penL l a d c f) (.inr "fold") = some (.int f) := by rfl
theorem put_at : putK (penL l a d c f) (.inr "at") (.int x) = penL l x d c f := by rfl
theorem put_digits : putK (penL l a d c f) (.inr "digits") (.int x) = penL l a x c f := by rfl
theorem put_count : putK (penL l a d c f) (.inr "count") (.int x) = penL l a d x f := by rfl
theorem put_fold : putK (penL l a d c f) (.inr "fold") (.int x) = penL l a d c x := by rfl
/-- at p a source of draws, its cells at l -/
def PenAt (H : Hp) (p l : Addr) (ns : List Int) (a d c f : Int) : Prop := H p = some (.dK (penL l a d c f)) ∧ H l = some (.lst (ns.map V.int)) ∧ 0 ≤ a ∧ 0 ≤ d ∧ 0 ≤ c ∧ 0 ≤ f ∧ f < 2147483648
def PenOk (H : Hp) (p : Addr) : Prop := ∃ l ns a d c f, PenAt H p l ns a d c f
/-- all but what stands at p is as it was -/
def SameBut (p : Addr) (H H' : Hp) : Prop := ∀ b o, b ≠ p → H b = some o → H' b = some o
theorem SameBut.trans {p : Addr} {H H1 H2 : Hp} (a : SameBut p H H1) (b : SameBut p H1 H2) : SameBut p H H2 := fun c o n h => b c o n (a c o n h)
theorem SameBut.of {p : Addr} {H H1 : Hp} (a : Same H H1) : SameBut p H H1 := fun c o _ h => a c o h
theorem SameBut.upd {p : Addr} {H : Hp} {o : HO} : SameBut p H (upd H p o) := fun b u n h => by rw [upd_ne n]; exact h
theorem PenAt.ne {H : Hp} {p l : Addr} {ns : List Int} {a d c f : Int} (h : PenAt H p l ns a d c f) : l ≠ p := fun z => by
  have e := h.2.1
  rw [z, h.1] at e
  cases e
theorem getP {kv : List (Key × V)} (k : Str) {v : V} (h : H p = some (.dK kv)) (e : valV kv (.inr k) = some v) : DGet H p (.str k) (some v) := .inl ⟨kv, .inr k, .inl h, rfl, e.symm⟩
theorem putP {kv kv' : List (Key × V)} (k : Str) {v : V} (h : H p = some (.dK kv)) (e : putK kv (.inr k) v = kv') (hl : kv.length < sizeLine) : DPut H p (.str k) v (upd H p (.dK kv')) := .inl ⟨kv, .inr k, h, rfl, hl, by rw [e]⟩
end
theorem pen_small {l : Addr} {a d c f : Int} : (penL l a d c f).length < sizeLine := by show 5 < sizeLine; decide
/-- _law_draw(pen, many) -/
def spDraw : Sp := fun vs H Q _ => ∃ (p : Addr) (m : Int), vs = [.ref p, .int m] ∧ PenOk H p ∧ 0 < m ∧ m < 1073741824 ∧
  ∀ (r : Int) (H' : Hp), 0 ≤ r → r < m → PenOk H' p → SameBut p H H' → (∀ b, H b = none → H' b = none) → Q (.int r) H'
/-- _law_pen(script) -/
def spPen (K : PySem.W.Frag) : Sp := fun vs H Q _ => ∃ (a : Addr) (ns : List Int), vs = [.ref a] ∧ SqL K H a (ns.map V.int) ∧
  ∀ (p : Addr) (H' : Hp), Same H H' → H p = none → PenOk H' p → Q (.ref p) H'
/-- _law_pick(pen, some) -/
def spPick : Sp := fun vs H Q _ => ∃ (p q : Addr) (xs : List V), vs = [.ref p, .ref q] ∧ PenOk H p ∧ H q = some (.lst xs) ∧ 0 < xs.length ∧ xs.length ≤ 1000 ∧ q ≠ p ∧
  ∀ (v : V) (H' : Hp), v ∈ xs → PenOk H' p → SameBut p H H' → Q v H'
end Lx
namespace Lx
open PySem PySem.Spec PyProof.Rows L2
/-! ### built-ins, their readings named -/
def rInt : List V → Hp → VK → Prop := fun xs H Q => (∃ i, xs = [.int i] ∧ Q (.int i) H) ∨ ∃ k, xs = [.bl k] ∧ Q (.int (if k then 1 else 0)) H
theorem c_int {X : Cx} : CallR X (.type "int") rInt := call_int1
def rLenK (K : PySem.W.Frag) : List V → Hp → VK → Prop := fun xs H Q => ∃ p ys, xs = [.ref p] ∧ (SqL K H p ys ∨ SqT K H p ys) ∧ Q (.int ys.length) H
theorem c_len {X : Cx} : CallR X (.builtin "len") (rLenK X.K) := call_len_seq
def rListK (K : PySem.W.Frag) : List V → Hp → VK → Prop := fun xs H Q => ∃ p ys, xs = [.ref p] ∧ (SqL K H p ys ∨ SqT K H p ys) ∧ ∀ l, H l = none → Q (.ref l) (upd H l (.lst ys))
theorem c_list {X : Cx} : CallR X (.type "list") (rListK X.K) := call_list_of
def rIsN : R2 := fun x y H Q => y = .non ∧ Q (.bl (decide (x = .non))) H
theorem o_isN {X : Cx} : OpR X (compareOp .Is) rIsN := op_isN
def rNotN : R2 := fun x y H Q => y = .non ∧ Q (.bl (!decide (x = .non))) H
theorem o_notN {X : Cx} : OpR X (compareOp .IsNot) rNotN := op_notN
/-! ### readings, a step each -/
section
variable {D : Ends} {σ : L2.St} {H : Hp} {t u : TS} {te ta tb : TE} {tc td : TT} {g : TG} {i : Nat} {v x y : V} {Q : VK} {K : PySem.W.Frag}
theorem rr_seq (h : t { D with nx := u D } σ H) : tSeq t u D σ H := h
/-- what follows is shown once, for all states that come there -/
theorem rr_seqJ {α : Type} (C : α → Prop) (S : α → L2.St) (G : α → Hp) (h2 : ∀ z, C z → u D (S z) (G z)) (h1 : (∀ z, C z → u D (S z) (G z)) → t { D with nx := u D } σ H) : tSeq t u D σ H := h1 h2
theorem rr_next (h : D.nx σ H) : tNext D σ H := h
theorem rr_asg (h : te σ H fun x H1 => g x σ H1 D.nx) : tAsg te g D σ H := h
theorem rr_name {R : L2.St → Hp → Prop} (h : R (σ.set i (some v)) H) : gName i v σ H R := h
theorem rr_drop (h : te σ H fun _ H1 => D.nx σ H1) : tDrop te D σ H := h
theorem rr_ret (h : te σ H D.rt) : tRet te D σ H := h
theorem rr_retN (h : D.rt .non H) : tRetN D σ H := h
theorem rr_ifs (h : tc σ H fun b H1 => if b = true then t D σ H1 else u D σ H1) : tIfS tc t u D σ H := h
theorem rr_if (h : tc σ H fun b H1 => if b = true then ta σ H1 Q else tb σ H1 Q) : tIf tc ta tb σ H Q := h
theorem rr_test {R : Bool → Hp → Prop} (h : te σ H fun x H1 => ∃ k, x = .bl k ∧ R k H1) : tTest te σ H R := h
theorem rr_tB {R : Bool → Hp → Prop} (h : te σ H fun x H1 => ∃ k, x = .bl k ∧ R k H1) : tB te σ H R := h
theorem rr_bl {b : Bool} {R : Bool → Prop} (h : R b) : ∃ k, V.bl b = .bl k ∧ R k := ⟨b, rfl, h⟩
theorem rr_and {R : Bool → Hp → Prop} (h : tc σ H fun c H1 => if c = true then td σ H1 R else R false H1) : tAnd tc td σ H R := h
theorem rr_or {R : Bool → Hp → Prop} (h : tc σ H fun c H1 => if c = true then R true H1 else td σ H1 R) : tOr tc td σ H R := h
theorem rr_not {R : Bool → Hp → Prop} (h : tc σ H fun c H1 => R (!c) H1) : tNot tc σ H R := h
theorem rr_var (e : σ[i]? = some (some v)) (h : Q v H) : tVar i σ H Q := ⟨v, e, h⟩
theorem rr_c (h : Q v H) : tC v σ H Q := h
theorem rr_op {r : R2} (h : ta σ H fun x H1 => tb σ H1 fun y H2 => r x y H2 Q) : tOp r ta tb σ H Q := h
theorem rr_un {r : V → Hp → VK → Prop} (h : ta σ H fun x H1 => r x H1 Q) : tUn r ta σ H Q := h
theorem rr_i0 {f : Int → Int → V} {a b : Int} (h : Q (f a b) H) : rI0 f (.int a) (.int b) H Q := ⟨a, b, rfl, rfl, h⟩
theorem rr_i {C : Int → Int → Prop} {f : Int → Int → V} {a b : Int} (c : C a b) (h : Q (f a b) H) : rI C f (.int a) (.int b) H Q := ⟨a, b, rfl, rfl, c, h⟩
theorem rr_eq (c : scal x y = true) (h : Q (.bl (decide (x = y))) H) : rEq x y H Q := ⟨c, h⟩
theorem rr_ne (c : scal x y = true) (h : Q (.bl (!decide (x = y))) H) : rNe x y H Q := ⟨c, h⟩
theorem rr_eqi {a b : Int} (h : Q (.bl (decide (a = b))) H) : rEq (.int a) (.int b) H Q := ⟨rfl, by
  have e : decide (V.int a = V.int b) = decide (a = b) := by
    by_cases z : a = b
    · rw [decide_eq_true z, decide_eq_true (congrArg V.int z)]
    · rw [decide_eq_false z, decide_eq_false fun q => z (V.int.inj q)]
  rw [e]
  exact h⟩
theorem rr_nei {a b : Int} (h : Q (.bl (!decide (a = b))) H) : rNe (.int a) (.int b) H Q := ⟨rfl, by
  have e : decide (V.int a = V.int b) = decide (a = b) := by
    by_cases z : a = b
    · rw [decide_eq_true z, decide_eq_true (congrArg V.int z)]
    · rw [decide_eq_false z, decide_eq_false fun q => z (V.int.inj q)]
  rw [e]
  exact h⟩
theorem rr_cons {ts : TA} {R : List V → Hp → Prop} (h : ta σ H fun x H1 => ts σ H1 fun xs H2 => R (x :: xs) H2) : tCons ta ts σ H R := h
theorem rr_nil {R : List V → Hp → Prop} (h : R [] H) : tNil σ H R := h
theorem rr_cb {ts : TA} {r : List V → Hp → VK → Prop} (h : ts σ H fun vs H1 => r vs H1 Q) : tCB r ts σ H Q := h
theorem rr_call {ts : TA} {sp : Sp} {E : L2.St → XK} (h : ts σ H fun vs H1 => sp vs H1 Q (E σ)) : tCallS sp E ts σ H Q := h
theorem rr_tup {ts : TA} (h : ts σ H fun xs H1 => xs.length ≤ sizeLine ∧ ∀ p, H1 p = none → Q (.ref p) (upd H1 p (.tup xs))) : tTup ts σ H Q := h
theorem rr_lst {ts : TA} (h : ts σ H fun xs H1 => xs.length ≤ sizeLine ∧ ∀ p, H1 p = none → Q (.ref p) (upd H1 p (.lst xs))) : tLst ts σ H Q := h
theorem rr_lstN {ts : TA} (h : ts σ H fun xs H1 => xs.length ≤ sizeLine ∧ ∀ p, H1 p = none → p ≠ sysModules → Q (.ref p) (upd H1 p (.lst xs))) : tLstN ts σ H Q := h
theorem rr_dget (h : ta σ H fun x H1 => tb σ H1 fun y H2 => ∃ a v, x = .ref a ∧ DGet H2 a y (some v) ∧ Q v H2) : tDGet ta tb σ H Q := h
theorem rr_dput (h : te σ H fun v H1 => ta σ H1 fun x H2 => tb σ H2 fun y H3 => ∃ a H4, x = .ref a ∧ DPut H3 a y v H4 ∧ D.nx σ H4) : sDPut ta tb te D σ H := h
theorem rr_bm {T : String} {r : V → List V → Hp → VK → Prop} {ts : TA} (h : ta σ H fun x H1 => tyV K T x H1 ∧ ts σ H1 fun xs H2 => r x xs H2 Q) : tBM K T r ta ts σ H Q := h
theorem rr_isN (h : Q (.bl (decide (x = .non))) H) : rIsN x .non H Q := ⟨rfl, h⟩
theorem rr_notN (h : Q (.bl (!decide (x = .non))) H) : rNotN x .non H Q := ⟨rfl, h⟩
theorem rr_v0 {r : List (Option V)} (h : Q v H) : tVar 0 (some v :: r) H Q := ⟨v, rfl, h⟩
theorem rr_n0 {z : Option V} {r : List (Option V)} {R : L2.St → Hp → Prop} (h : R (some v :: r) H) : gName 0 v (z :: r) H R := h
theorem rr_v1 {a0 : Option V} {r : List (Option V)} (h : Q v H) : tVar 1 (a0 :: some v :: r) H Q := ⟨v, rfl, h⟩
theorem rr_n1 {a0 : Option V} {z : Option V} {r : List (Option V)} {R : L2.St → Hp → Prop} (h : R (a0 :: some v :: r) H) : gName 1 v (a0 :: z :: r) H R := h
theorem rr_v2 {a0 a1 : Option V} {r : List (Option V)} (h : Q v H) : tVar 2 (a0 :: a1 :: some v :: r) H Q := ⟨v, rfl, h⟩
theorem rr_n2 {a0 a1 : Option V} {z : Option V} {r : List (Option V)} {R : L2.St → Hp → Prop} (h : R (a0 :: a1 :: some v :: r) H) : gName 2 v (a0 :: a1 :: z :: r) H R := h
theorem rr_v3 {a0 a1 a2 : Option V} {r : List (Option V)} (h : Q v H) : tVar 3 (a0 :: a1 :: a2 :: some v :: r) H Q := ⟨v, rfl, h⟩
theorem rr_n3 {a0 a1 a2 : Option V} {z : Option V} {r : List (Option V)} {R : L2.St → Hp → Prop} (h : R (a0 :: a1 :: a2 :: some v :: r) H) : gName 3 v (a0 :: a1 :: a2 :: z :: r) H R := h
theorem rr_v4 {a0 a1 a2 a3 : Option V} {r : List (Option V)} (h : Q v H) : tVar 4 (a0 :: a1 :: a2 :: a3 :: some v :: r) H Q := ⟨v, rfl, h⟩
theorem rr_n4 {a0 a1 a2 a3 : Option V} {z : Option V} {r : List (Option V)} {R : L2.St → Hp → Prop} (h : R (a0 :: a1 :: a2 :: a3 :: some v :: r) H) : gName 4 v (a0 :: a1 :: a2 :: a3 :: z :: r) H R := h
theorem rr_v5 {a0 a1 a2 a3 a4 : Option V} {r : List (Option V)} (h : Q v H) : tVar 5 (a0 :: a1 :: a2 :: a3 :: a4 :: some v :: r) H Q := ⟨v, rfl, h⟩
theorem rr_n5 {a0 a1 a2 a3 a4 : Option V} {z : Option V} {r : List (Option V)} {R : L2.St → Hp → Prop} (h : R (a0 :: a1 :: a2 :: a3 :: a4 :: some v :: r) H) : gName 5 v (a0 :: a1 :: a2 :: a3 :: a4 :: z :: r) H R := h
theorem rr_v6 {a0 a1 a2 a3 a4 a5 : Option V} {r : List (Option V)} (h : Q v H) : tVar 6 (a0 :: a1 :: a2 :: a3 :: a4 :: a5 :: some v :: r) H Q := ⟨v, rfl, h⟩
theorem rr_n6 {a0 a1 a2 a3 a4 a5 : Option V} {z : Option V} {r : List (Option V)} {R : L2.St → Hp → Prop} (h : R (a0 :: a1 :: a2 :: a3 :: a4 :: a5 :: some v :: r) H) : gName 6 v (a0 :: a1 :: a2 :: a3 :: a4 :: a5 :: z :: r) H R := h
theorem rr_v7 {a0 a1 a2 a3 a4 a5 a6 : Option V} {r : List (Option V)} (h : Q v H) : tVar 7 (a0 :: a1 :: a2 :: a3 :: a4 :: a5 :: a6 :: some v :: r) H Q := ⟨v, rfl, h⟩
theorem rr_n7 {a0 a1 a2 a3 a4 a5 a6 : Option V} {z : Option V} {r : List (Option V)} {R : L2.St → Hp → Prop} (h : R (a0 :: a1 :: a2 :: a3 :: a4 :: a5 :: a6 :: some v :: r) H) : gName 7 v (a0 :: a1 :: a2 :: a3 :: a4 :: a5 :: a6 :: z :: r) H R := h
theorem rr_v8 {a0 a1 a2 a3 a4 a5 a6 a7 : Option V} {r : List (Option V)} (h : Q v H) : tVar 8 (a0 :: a1 :: a2 :: a3 :: a4 :: a5 :: a6 :: a7 :: some v :: r) H Q := ⟨v, rfl, h⟩
theorem rr_n8 {a0 a1 a2 a3 a4 a5 a6 a7 : Option V} {z : Option V} {r : List (Option V)} {R : L2.St → Hp → Prop} (h : R (a0 :: a1 :: a2 :: a3 :: a4 :: a5 :: a6 :: a7 :: some v :: r) H) : gName 8 v (a0 :: a1 :: a2 :: a3 :: a4 :: a5 :: a6 :: a7 :: z :: r) H R := h
theorem rr_v9 {a0 a1 a2 a3 a4 a5 a6 a7 a8 : Option V} {r : List (Option V)} (h : Q v H) : tVar 9 (a0 :: a1 :: a2 :: a3 :: a4 :: a5 :: a6 :: a7 :: a8 :: some v :: r) H Q := ⟨v, rfl, h⟩
theorem rr_n9 {a0 a1 a2 a3 a4 a5 a6 a7 a8 : Option V} {z : Option V} {r : List (Option V)} {R : L2.St → Hp → Prop} (h : R (a0 :: a1 :: a2 :: a3 :: a4 :: a5 :: a6 :: a7 :: a8 :: some v :: r) H) : gName 9 v (a0 :: a1 :: a2 :: a3 :: a4 :: a5 :: a6 :: a7 :: a8 :: z :: r) H R := h
theorem rr_v10 {a0 a1 a2 a3 a4 a5 a6 a7 a8 a9 : Option V} {r : List (Option V)} (h : Q v H) : tVar 10 (a0 :: a1 :: a2 :: a3 :: a4 :: a5 :: a6 :: a7 :: a8 :: a9 :: some v :: r) H Q := ⟨v, rfl, h⟩
theorem rr_n10 {a0 a1 a2 a3 a4 a5 a6 a7 a8 a9 : Option V} {z : Option V} {r : List (Option V)} {R : L2.St → Hp → Prop} (h : R (a0 :: a1 :: a2 :: a3 :: a4 :: a5 :: a6 :: a7 :: a8 :: a9 :: some v :: r) H) : gName 10 v (a0 :: a1 :: a2 :: a3 :: a4 :: a5 :: a6 :: a7 :: a8 :: a9 :: z :: r) H R := h
theorem rr_v11 {a0 a1 a2 a3 a4 a5 a6 a7 a8 a9 a10 : Option V} {r : List (Option V)} (h : Q v H) : tVar 11 (a0 :: a1 :: a2 :: a3 :: a4 :: a5 :: a6 :: a7 :: a8 :: a9 :: a10 :: some v :: r) H Q := ⟨v, rfl, h⟩
theorem rr_n11 {a0 a1 a2 a3 a4 a5 a6 a7 a8 a9 a10 : Option V} {z : Option V} {r : List (Option V)} {R : L2.St → Hp → Prop} (h : R (a0 :: a1 :: a2 :: a3 :: a4 :: a5 :: a6 :: a7 :: a8 :: a9 :: a10 :: some v :: r) H) : gName 11 v (a0 :: a1 :: a2 :: a3 :: a4 :: a5 :: a6 :: a7 :: a8 :: a9 :: a10 :: z :: r) H R := h
theorem rr_v12 {a0 a1 a2 a3 a4 a5 a6 a7 a8 a9 a10 a11 : Option V} {r : List (Option V)} (h : Q v H) : tVar 12 (a0 :: a1 :: a2 :: a3 :: a4 :: a5 :: a6 :: a7 :: a8 :: a9 :: a10 :: a11 :: some v :: r) H Q := ⟨v, rfl, h⟩
theorem rr_n12 {a0 a1 a2 a3 a4 a5 a6 a7 a8 a9 a10 a11 : Option V} {z : Option V} {r : List (Option V)} {R : L2.St → Hp → Prop} (h : R (a0 :: a1 :: a2 :: a3 :: a4 :: a5 :: a6 :: a7 :: a8 :: a9 :: a10 :: a11 :: some v :: r) H) : gName 12 v (a0 :: a1 :: a2 :: a3 :: a4 :: a5 :: a6 :: a7 :: a8 :: a9 :: a10 :: a11 :: z :: r) H R := h
theorem rr_v13 {a0 a1 a2 a3 a4 a5 a6 a7 a8 a9 a10 a11 a12 : Option V} {r : List (Option V)} (h : Q v H) : tVar 13 (a0 :: a1 :: a2 :: a3 :: a4 :: a5 :: a6 :: a7 :: a8 :: a9 :: a10 :: a11 :: a12 :: some v :: r) H Q := ⟨v, rfl, h⟩
theorem rr_n13 {a0 a1 a2 a3 a4 a5 a6 a7 a8 a9 a10 a11 a12 : Option V} {z : Option V} {r : List (Option V)} {R : L2.St → Hp → Prop} (h : R (a0 :: a1 :: a2 :: a3 :: a4 :: a5 :: a6 :: a7 :: a8 :: a9 :: a10 :: a11 :: a12 :: some v :: r) H) : gName 13 v (a0 :: a1 :: a2 :: a3 :: a4 :: a5 :: a6 :: a7 :: a8 :: a9 :: a10 :: a11 :: a12 :: z :: r) H R := h
theorem rr_int {a : Int} (h : Q (.int a) H) : rInt [.int a] H Q := .inl ⟨a, rfl, h⟩
theorem rr_len {p : Addr} {xs : List V} (h1 : SqL K H p xs) (h : Q (.int xs.length) H) : rLenK K [.ref p] H Q := ⟨p, xs, rfl, .inl h1, h⟩
theorem rr_lenT {p : Addr} {xs : List V} (h1 : SqT K H p xs) (h : Q (.int xs.length) H) : rLenK K [.ref p] H Q := ⟨p, xs, rfl, .inr h1, h⟩
theorem rr_listL {p : Addr} {xs : List V} (h1 : SqL K H p xs) (h : ∀ l, H l = none → Q (.ref l) (upd H l (.lst xs))) : rListK K [.ref p] H Q := ⟨p, xs, rfl, .inl h1, h⟩
theorem rr_listT {p : Addr} {xs : List V} (h1 : SqT K H p xs) (h : ∀ l, H l = none → Q (.ref l) (upd H l (.lst xs))) : rListK K [.ref p] H Q := ⟨p, xs, rfl, .inr h1, h⟩
theorem rr_lt0 {A B : Prop} {p : Prop} [Decidable p] (h1 : p → A) (h2 : ¬ p → B) : if decide p = true then A else B := by
  by_cases h : p
  · rw [if_pos (decide_eq_true h)]; exact h1 h
  · rw [if_neg (by rw [decide_eq_false h]; decide)]; exact h2 h
theorem rr_nlt0 {A B : Prop} {p : Prop} [Decidable p] (h1 : ¬ p → A) (h2 : p → B) : if (!decide p) = true then A else B := by
  by_cases h : p
  · rw [if_neg (by rw [decide_eq_true h]; decide)]; exact h2 h
  · rw [if_pos (by rw [decide_eq_false h]; decide)]; exact h1 h
theorem rr_ixL {p : Addr} {xs : List V} {i : Int} (h1 : SqL K H p xs) (h2 : atI xs i = some v) (h : Q v H) : rIxL K (.ref p) (.int i) H Q := ⟨p, xs, i, v, rfl, rfl, h1, h2, h⟩
theorem rr_ixT {p : Addr} {xs : List V} {i : Int} (h1 : SqT K H p xs) (h2 : atI xs i = some v) (h : Q v H) : rIxT K (.ref p) (.int i) H Q := ⟨p, xs, i, v, rfl, rfl, h1, h2, h⟩
theorem rr_sL {p : Addr} {xs : List V} {i : Int} (h1 : SqL K H p xs) (h2 : atI xs i = some v) (h : Q v H) : rIx K (.ref p) (.int i) H Q := .inl ⟨p, xs, i, v, rfl, rfl, h1, h2, h⟩
theorem rr_sT {p : Addr} {xs : List V} {i : Int} (h1 : SqT K H p xs) (h2 : atI xs i = some v) (h : Q v H) : rIx K (.ref p) (.int i) H Q := .inr (.inl ⟨p, xs, i, v, rfl, rfl, h1, h2, h⟩)
/-- a source of draws is asked, and written -/
theorem rr_gcells {p l : Addr} {a d c f : Int} {R : V → Prop} (h1 : H p = some (.dK (penL l a d c f))) (h : R (.ref l)) : ∃ b v, V.ref p = .ref b ∧ DGet H b (.str "cells") (some v) ∧ R v := ⟨p, _, rfl, getP _ h1 get_cells, h⟩
theorem rr_gat {p l : Addr} {a d c f : Int} {R : V → Prop} (h1 : H p = some (.dK (penL l a d c f))) (h : R (.int a)) : ∃ b v, V.ref p = .ref b ∧ DGet H b (.str "at") (some v) ∧ R v := ⟨p, _, rfl, getP _ h1 get_at, h⟩
theorem rr_gdigits {p l : Addr} {a d c f : Int} {R : V → Prop} (h1 : H p = some (.dK (penL l a d c f))) (h : R (.int d)) : ∃ b v, V.ref p = .ref b ∧ DGet H b (.str "digits") (some v) ∧ R v := ⟨p, _, rfl, getP _ h1 get_digits, h⟩
theorem rr_gcount {p l : Addr} {a d c f : Int} {R : V → Prop} (h1 : H p = some (.dK (penL l a d c f))) (h : R (.int c)) : ∃ b v, V.ref p = .ref b ∧ DGet H b (.str "count") (some v) ∧ R v := ⟨p, _, rfl, getP _ h1 get_count, h⟩
theorem rr_gfold {p l : Addr} {a d c f : Int} {R : V → Prop} (h1 : H p = some (.dK (penL l a d c f))) (h : R (.int f)) : ∃ b v, V.ref p = .ref b ∧ DGet H b (.str "fold") (some v) ∧ R v := ⟨p, _, rfl, getP _ h1 get_fold, h⟩
theorem rr_pat {p l : Addr} {a d c f x : Int} {R : Hp → Prop} (h1 : H p = some (.dK (penL l a d c f))) (h : R (upd H p (.dK (penL l x d c f)))) : ∃ b H4, V.ref p = .ref b ∧ DPut H b (.str "at") (.int x) H4 ∧ R H4 := ⟨p, _, rfl, putP _ h1 put_at pen_small, h⟩
theorem rr_pdigits {p l : Addr} {a d c f x : Int} {R : Hp → Prop} (h1 : H p = some (.dK (penL l a d c f))) (h : R (upd H p (.dK (penL l a x c f)))) : ∃ b H4, V.ref p = .ref b ∧ DPut H b (.str "digits") (.int x) H4 ∧ R H4 := ⟨p, _, rfl, putP _ h1 put_digits pen_small, h⟩
theorem rr_pcount {p l : Addr} {a d c f x : Int} {R : Hp → Prop} (h1 : H p = some (.dK (penL l a d c f))) (h : R (upd H p (.dK (penL l a d x f)))) : ∃ b H4, V.ref p = .ref b ∧ DPut H b (.str "count") (.int x) H4 ∧ R H4 := ⟨p, _, rfl, putP _ h1 put_count pen_small, h⟩
theorem rr_pfold {p l : Addr} {a d c f x : Int} {R : Hp → Prop} (h1 : H p = some (.dK (penL l a d c f))) (h : R (upd H p (.dK (penL l a d c x)))) : ∃ b H4, V.ref p = .ref b ∧ DPut H b (.str "fold") (.int x) H4 ∧ R H4 := ⟨p, _, rfl, putP _ h1 put_fold pen_small, h⟩
end
theorem sqL {K : PySem.W.Frag} {H : Hp} {p : Addr} {xs : List V} (h : H p = some (.lst xs)) : SqL K H p xs := .inl (.inl h)
theorem sqT {K : PySem.W.Frag} {H : Hp} {p : Addr} {xs : List V} (h : H p = some (.tup xs)) : SqT K H p xs := .inl (.inl h)
theorem sameNew {H : Hp} {p : Addr} (h : H p = none) (o : HO) : Same H (upd H p o) := fun b u q => by rw [upd_ne (ne_of_none q h)]; exact q
theorem modN {a b : Int} (hb : 0 < b) : 0 ≤ a.fmod b ∧ a.fmod b < b := by
  rw [Int.fmod_eq_emod_of_nonneg a (Int.le_of_lt hb)]
  exact ⟨Int.emod_nonneg a (by omega), Int.emod_lt_of_pos a hb⟩
theorem divN {a b : Int} (ha : 0 ≤ a) (hb : 0 < b) : 0 ≤ a.fdiv b := by
  rw [Int.fdiv_eq_ediv_of_nonneg a (Int.le_of_lt hb)]
  exact Int.ediv_nonneg ha (Int.le_of_lt hb)
end Lx
namespace Lx
open PySem PySem.Spec PyProof.Rows L2
/-! ### the signs of what repr gives -/
def Sm (x : Str) : Prop := ∀ c ∈ x.cps.toList, c < 16 ^ 8
theorem Sm.app {x y : Str} (a : Sm x) (b : Sm y) : Sm (x ++ y) := fun c hc => by
  have e : (x ++ y).cps = x.cps ++ y.cps := rfl
  rw [e, Array.toList_append, List.mem_append] at hc
  exact hc.elim (a c) (b c)
theorem sm_of (s : String) : Sm (Str.ofString s) := fun c hc => by
  rw [Str.ofString_eq_toList] at hc
  simp only [List.mem_map] at hc
  obtain ⟨d, _, rfl⟩ := hc
  have := d.valid
  have h2 : d.toNat < 1114112 := by
    have h3 : d.val.toNat < 0xd800 ∨ (0xdfff < d.val.toNat ∧ d.val.toNat < 0x110000) := d.valid
    show d.val.toNat < 1114112
    omega
  exact Nat.lt_trans h2 (by decide)
theorem sm_char {q c : Nat} (hq : q < 16 ^ 8) (hc : c < 16 ^ 8) : ∀ d ∈ Builtin.Str.reprChar q c, d < 16 ^ 8 := by
  have hex : ∀ w : Nat, ∀ d ∈ (List.replicate (w - ((Nat.toDigits 16 c).map Char.toNat).length) 48 ++ (Nat.toDigits 16 c).map Char.toNat), d < 16 ^ 8 := fun w d hd => by
    rcases List.mem_append.mp hd with h | h
    · rw [(List.mem_replicate.mp h).2]; decide
    · obtain ⟨e, _, rfl⟩ := List.mem_map.mp h
      have h3 : e.val.toNat < 0xd800 ∨ (0xdfff < e.val.toNat ∧ e.val.toNat < 0x110000) := e.valid
      have h2 : e.toNat < 1114112 := by show e.val.toNat < 1114112; omega
      exact Nat.lt_trans h2 (by decide)
  intro d hd
  unfold Builtin.Str.reprChar at hd
  dsimp only at hd
  have two : ∀ (a b : Nat) (l : List Nat), a < 16 ^ 8 → b < 16 ^ 8 → (∀ z ∈ l, z < 16 ^ 8) → ∀ z ∈ [a, b] ++ l, z < 16 ^ 8 := fun a b l ha hb hl z hz => by
    simp only [List.cons_append, List.nil_append, List.mem_cons] at hz
    rcases hz with rfl | rfl | h
    · exact ha
    · exact hb
    · exact hl _ h
  repeat' split at hd
  · exact two 92 c [] (by decide) hc (by simp) d (by simpa using hd)
  · exact two 92 110 [] (by decide) (by decide) (by simp) d (by simpa using hd)
  · exact two 92 114 [] (by decide) (by decide) (by simp) d (by simpa using hd)
  · exact two 92 116 [] (by decide) (by decide) (by simp) d (by simpa using hd)
  · rw [List.mem_singleton.mp hd]; exact hc
  · exact two _ _ _ (by decide) (by decide) (hex 2) d hd
  · exact two _ _ _ (by decide) (by decide) (hex 4) d hd
  · exact two _ _ _ (by decide) (by decide) (hex 8) d hd
theorem sm_fold {q : Nat} (hq : q < 16 ^ 8) : ∀ (l : List Nat) (acc : Array Nat), (∀ c ∈ l, c < 16 ^ 8) → (∀ c ∈ acc.toList, c < 16 ^ 8) → ∀ d ∈ (l.foldl (fun out c => out ++ (Builtin.Str.reprChar q c).toArray) acc).toList, d < 16 ^ 8
  | [], acc, _, h => h
  | c :: r, acc, hl, h => sm_fold hq r _ (fun d hd => hl d (List.mem_cons_of_mem _ hd)) fun d hd => by
    rw [Array.toList_append, List.mem_append] at hd
    rcases hd with z | z
    · exact h d z
    · exact sm_char hq (hl c List.mem_cons_self) d (by simpa using z)
theorem sm_quote (x : Str) : reprQuote x < 16 ^ 8 := by
  unfold reprQuote
  split <;> decide
theorem sm_repr {x : Str} (h : Sm x) : Sm (reprText x) := fun c hc => by
  unfold reprText at hc
  rw [Array.toList_push, List.mem_append] at hc
  rcases hc with z | z
  · rw [← Array.foldl_toList] at z
    exact sm_fold (sm_quote x) x.cps.toList _ h (fun d hd => by
      have e : d = reprQuote x := by simpa using hd
      rw [e]; exact sm_quote x) c z
  · rw [List.mem_singleton.mp z]; exact sm_quote x
theorem sm_from : ∀ (ts : List Str) (k : Nat) (acc : Str), Sm acc → (∀ t ∈ ts, Sm t) → Sm (textFrom k acc ts)
  | [], _, acc, h, _ => h
  | t :: r, k, acc, h, ht => sm_from r (k + 1) _ ((h.app (sm_of _)).app (ht t List.mem_cons_self)) fun u hu => ht u (List.mem_cons_of_mem _ hu)
theorem sm_list {ts : List Str} (h : ∀ t ∈ ts, Sm t) : Sm (listText ts) := (sm_from ts 0 _ (sm_of "[") h).app (sm_of "]")
theorem sm_join : ∀ ts : List Str, (∀ t ∈ ts, Sm t) → Sm (Str.join ", " ts)
  | [], _ => fun c hc => by
    have : c ∈ ([] : List Nat) := hc
    cases this
  | [x], h => h x List.mem_cons_self
  | x :: y :: r, h => ((h x List.mem_cons_self).app (sm_of ", ")).app (sm_join (y :: r) fun u hu => h u (List.mem_cons_of_mem _ hu))
theorem sm_tuple {ts : List Str} (h : ∀ t ∈ ts, Sm t) : Sm (tupleText ts) := ((sm_of "(").app (sm_join ts h)).app (sm_of _)
theorem sm_dict {ts : List Str} (h : ∀ t ∈ ts, Sm t) : Sm (dictText ts) := ((sm_of "{").app (sm_join ts h)).app (sm_of "}")
mutual
theorem sm_shown (B : Nat) : ∀ d : PyData, d.leavesShort B = true → Sm d.shown
  | .none, _ => sm_of "None"
  | .bool b, _ => by cases b; exact sm_of "False"; exact sm_of "True"
  | .int i, _ => sm_of (toString i)
  | .str x, h => sm_repr (by
    simp only [PyData.leavesShort, List.all_eq_true, decide_eq_true_eq] at h
    exact h)
  | .list xs, h => sm_list (sm_shownAll B xs (by simpa only [PyData.leavesShort] using h))
  | .tuple xs, h => sm_tuple (sm_shownAll B xs (by simpa only [PyData.leavesShort] using h))
  | .dict kvs, h => sm_dict (sm_shownKv B kvs (by simpa only [PyData.leavesShort] using h))
theorem sm_shownAll (B : Nat) : ∀ xs : List PyData, PyData.leavesShortAll B xs = true → ∀ t ∈ PyData.shownAll xs, Sm t
  | [], _, t, ht => by simp [PyData.shownAll] at ht
  | x :: xs, h, t, ht => by
    have h' : x.leavesShort B = true ∧ PyData.leavesShortAll B xs = true := by simpa only [PyData.leavesShortAll, Bool.and_eq_true] using h
    simp only [PyData.shownAll, List.mem_cons] at ht
    rcases ht with rfl | z
    · exact sm_shown B x h'.1
    · exact sm_shownAll B xs h'.2 t z
theorem sm_shownKv (B : Nat) : ∀ xs : List (PyData × PyData), PyData.leavesShortKv B xs = true → ∀ t ∈ PyData.shownKv xs, Sm t
  | [], _, t, ht => by simp [PyData.shownKv] at ht
  | (k, v) :: xs, h, t, ht => by
    have h' : (k.leavesShort B = true ∧ v.leavesShort B = true) ∧ PyData.leavesShortKv B xs = true := by simpa only [PyData.leavesShortKv, Bool.and_eq_true] using h
    simp only [PyData.shownKv, List.mem_cons] at ht
    rcases ht with rfl | z
    · exact ((sm_shown B k h'.1.1).app (sm_of ": ")).app (sm_shown B v h'.1.2)
    · exact sm_shownKv B xs h'.2 t z
end
/-- data of small leaves: its text is known to fit -/
structure Fit (n W : Nat) (d : PyData) : Prop where
  sh : d.showable = true
  dp : d.depth ≤ n
  lv : d.leavesShort 60 = true
  wt : d.weight ≤ W
theorem Fit.len {n W : Nat} {d : PyData} (h : Fit n W d) : d.shown.length ≤ 62 * W + 60 := by
  have a := PyData.shown_le 60 (by decide) d h.lv
  have b := Nat.mul_le_mul_left 62 h.wt
  omega
theorem Fit.str {n W : Nat} {d : PyData} (h : Fit n W d) : Fit 0 (62 * W + 60) (.str d.shown) :=
  ⟨rfl, Nat.le_refl _, by
    simp only [PyData.leavesShort, List.all_eq_true, decide_eq_true_eq]
    exact sm_shown 60 d h.lv, h.len⟩
theorem Fit.mono {n m W Y : Nat} {d : PyData} (h : Fit n W d) (a : n ≤ m) (b : W ≤ Y) : Fit m Y d := ⟨h.sh, Nat.le_trans h.dp a, h.lv, Nat.le_trans h.wt b⟩
/-- repr(x), x such data -/
theorem rr_repr {H : Hp} {v : V} {d : PyData} {n W : Nat} {Q : VK} (r : Rp H v d) (f : Fit n W d) (h : Q (.str d.shown) H) (hn : n ≤ 64 := by decide) (hW : W ≤ 200000 := by decide) : rRepr [v] H Q :=
  ⟨v, d, rfl, r, f.sh, Nat.le_trans f.dp hn, by have := f.len; rw [sizeLine_eq]; omega, h⟩
end Lx
namespace Lx
open PySem PySem.Spec PyProof.Rows L2
/-! ### what does not lean on the source of draws -/
def hid (H : Hp) (p : Addr) : Hp := fun b => if b = p then none else H b
theorem hid_ne {H : Hp} {p b : Addr} (h : b ≠ p) : hid H p b = H b := if_neg h
theorem hid_same {H : Hp} {p : Addr} : Same (hid H p) H := fun b o h => by
  unfold hid at h
  split at h
  · cases h
  · exact h
theorem SameBut.hid {p : Addr} {H H' : Hp} (h : SameBut p H H') : Same (hid H p) (hid H' p) := fun b o e => by
  by_cases z : b = p
  · unfold Lx.hid at e; rw [if_pos z] at e; cases e
  · rw [hid_ne z] at e ⊢; exact h b o z e
theorem PenOk.some {H : Hp} {p : Addr} (h : PenOk H p) : H p ≠ none := by
  obtain ⟨l, ns, a, d, c, f, e, _⟩ := h
  rw [e]; simp
theorem PenOk.same {H H' : Hp} {p : Addr} (h : PenOk H p) (k : Same H H') : PenOk H' p := by
  obtain ⟨l, ns, a, d, c, f, e1, e2, r⟩ := h
  exact ⟨l, ns, a, d, c, f, k _ _ e1, k _ _ e2, r⟩
/-- _law_pick, some a tuple -/
def spAny : Sp := fun vs H Q _ => ∃ p : Addr, vs = [.ref p] ∧ PenOk H p ∧
  ∀ (v : V) (d : PyData) (H' : Hp), Rp (hid H' p) v d → Fit 2 150 d → PenOk H' p → SameBut p H H' → Q v H'
section
variable {σ : L2.St} {H : Hp} {Q : VK}
theorem rr_disp {trs : List (TE × TE)} (h : ∀ p, H p = none → tPairs trs σ (upd H p (.dK [])) fun ps H2 => H2 p = some (.dK []) ∧ ∃ kvs : List (Key × V), ps = kvs.map (fun kv => (kV kv.1, kv.2)) ∧ kvs.length ≤ 15 ∧ Q (.ref p) (upd H2 p (.dK (mergeK [] kvs)))) : tDisp trs σ H Q := h
theorem rr_pcons {tk tv : TE} {r : List (TE × TE)} {R : List (V × V) → Hp → Prop} (h : tk σ H fun x H1 => tv σ H1 fun y H2 => tPairs r σ H2 fun ps H3 => R ((x, y) :: ps) H3) : tPairs ((tk, tv) :: r) σ H R := h
theorem rr_pnil {R : List (V × V) → Hp → Prop} (h : R [] H) : tPairs [] σ H R := h
end
theorem fit_ints {r : Int} (h0 : 0 ≤ r) (h : r < 1000000) : (PyData.int r).showable = true ∧ (PyData.int r).leavesShort 60 = true ∧ (PyData.int r).weight ≤ 20 := by
  have hn : r.natAbs < 2 ^ 20 := by
    have : (2 : Nat) ^ 20 = 1048576 := by decide
    omega
  have hl : r.natAbs.log2 < 20 := by
    by_cases z : r.natAbs = 0
    · rw [z]; decide
    · exact (Nat.log2_lt z).mpr hn
  refine ⟨?_, ?_, ?_⟩
  · simp only [PyData.showable, decide_eq_true_eq]; omega
  · have e1 := int_text_length_le (k := 20) (by decide) hl
    have e2 : (Str.ofString (toString r)).length ≤ 60 := by rw [PySem.ofString_length]; omega
    exact decide_eq_true (show (PyData.shown (.int r)).length ≤ 60 from e2)
  · simp only [PyData.weight]
    split <;> omega
end Lx
namespace Lx
open PySem PySem.Spec PyProof.Rows L2
/-! ### own exceptions whose __init__ keeps its arguments -/
/-- __init__(self, ..) of the class at C: each argument under its own name -/
def spI (C : Addr) (fns : List Str) : Sp := fun vs H Q _ => ∃ (a : Addr) (ws : List V), vs = .ref a :: ws ∧ ws.length = fns.length ∧ H a = some (exo a C none) ∧
  ∀ (d : Addr) (H2 : Hp), H d = none → d ≠ a → H2 a = some (exo a C (some d)) → H2 d = some (exd d (fns.zip ws).reverse) → (∀ b, b ≠ a → b ≠ d → H2 b = H b) → Q .non H2
section
variable {D : Ends} {σ : L2.St} {H : Hp} {K : PySem.W.Frag} {C a : Addr} {f : Str} {y : V} {i : Nat}
theorem rr_ostA (T : OexC K C) (n : PySem.W.findIn K (.ref C) f = some none) (e1 : σ[0]? = some (some (.ref a))) (e2 : σ[i]? = some (some y)) (e : H a = some (exo a C none))
    (h : ∀ dx, H dx = none → dx ≠ a → D.nx σ (upd (upd H dx (exd dx [(f, y)])) a (exo a C (some dx)))) : tOst K f (tVar 0) (tVar i) D σ H := ⟨y, e2, .ref a, e1, a, C, rfl, T, n, .inl ⟨e, h⟩⟩
theorem rr_ostB {dx : Addr} {fs : List (Str × V)} (T : OexC K C) (n : PySem.W.findIn K (.ref C) f = some none) (e1 : σ[0]? = some (some (.ref a))) (e2 : σ[i]? = some (some y)) (ea : H a = some (exo a C (some dx)))
    (ed : H dx = some (exd dx fs)) (hl : fs.length ≤ 900) (h : D.nx σ (upd H dx (exd dx ((f, y) :: fs)))) : tOst K f (tVar 0) (tVar i) D σ H := ⟨y, e2, .ref a, e1, a, C, rfl, T, n, .inr ⟨dx, fs, ea, ed, hl, h⟩⟩
end
/-- what the written part says of the class x at C with the fields fns -/
structure XcI (K : PySem.W.Frag) (mg : Str → Option Value) (x : Str) (C : Addr) (fns : List Str) : Prop where
  T : OexC K C
  gC : mg x = some (.ref C)
  ini : ∃ fI fd, PySem.W.findIn K (.ref C) "__init__" = some (some (.ref fI)) ∧ PySem.W.typeIn K (.ref fI) = some (.type "function") ∧
    (∀ (P : Program) (w : World) (base : Heap), FnOk P w K mg base CX0 1 fI fd ("self" :: fns) (spI C fns)) ∧ Binds K fd ("self" :: fns) []
/-- the exception is made: what is left to be said -/
def leafI (C : Addr) (fns : List Str) (vs : List V) (H1 : Hp) (Q : XK) : Prop := vs.length ≤ 1000 ∧ ∀ a, H1 a = none → spI C fns (.ref a :: (vs ++ [])) (upd H1 a (exo a C none))
  (fun v H2 => v = .non ∧ ∃ (d : Addr) (fs : List (Str × V)), H2 a = some (exo a C (some d)) ∧ H2 d = some (exd d fs) ∧ H1 d = none ∧ Q (.ref C) (some d) (upd (del H2 a) d (.xd fs))) (fun _ _ _ => False)
theorem leafI_of {C : Addr} {fns : List Str} {vs : List V} {H1 : Hp} {Q : XK} (hl : vs.length = fns.length) (h3 : fns.length ≤ 3) (h : ∀ d, H1 d = none → Q (.ref C) (some d) (upd H1 d (.xd (fns.zip vs).reverse))) : leafI C fns vs H1 Q := by
  refine ⟨by omega, fun a ha => ⟨a, vs, by rw [List.append_nil], hl, upd_same, fun d H2 hd hne e1 e2 e3 => ⟨rfl, d, _, e1, e2, ?_, ?_⟩⟩⟩
  · rw [upd_ne hne] at hd
    exact hd
  · rw [upd_ne hne] at hd
    have e : upd (del H2 a) d (.xd (fns.zip vs).reverse) = upd H1 d (.xd (fns.zip vs).reverse) := by
      funext b
      by_cases q : b = d
      · rw [q, upd_same, upd_same]
      · rw [upd_ne q, upd_ne q]
        by_cases r : b = a
        · rw [r, del_same, ha]
        · rw [del_ne r, e3 b r q, upd_ne r]
    rw [e]
    exact h d hd
def tRf (C : Addr) (fns : List Str) (W : WX) (ta : TA) : TS := fun _ σ H => ta σ H fun vs H1 => leafI C fns vs H1 fun cls d H' => W cls d σ H'
theorem rr_rf {C : Addr} {fns : List Str} {W : WX} {ta : TA} {D : Ends} {σ : L2.St} {H : Hp} (h : ta σ H fun vs H1 => leafI C fns vs H1 fun cls d H' => W cls d σ H') : tRf C fns W ta D σ H := h
section
variable {X : Cx} {x : Str} {C : Addr} {fns : List Str} {W : WX} {e : Expr} {es : List Expr} {ta : TA} {p pos pos2 : Pos} {k : Nat}
theorem ps_rf (B : XcI X.K X.mg x C fns) (hr : Room k X.A) (tk : Takes X W) (ha : PA X (e :: es) ta) (hk : 2 ≤ k := by decide) (hc : X.calm = true := by rfl) (hg : Gl X x := by rfl) (hdb : (x == ("__debug__" : Str)) = false := by decide)
    (he : starEach (e :: es) X.env = (false, eval e X.env) :: starEach es X.env := by rfl) (hpl : (backTo pos (starEach es X.env)).any (·.1) = false := by rfl) :
    PS X (.Raise (some (.Call (.Name x p) (e :: es) [] pos)) none pos2) (tRf C fns W ta) := by
  obtain ⟨fI, fd, i1, i2, F, hb⟩ := B.ini
  exact ps_raise hc tk (pmk_oex (dvs := []) B.T i1 i2 (F X.prog X.w X.base) (hr.mono hk) hb .nil pass0 hg B.gC ha hdb he hpl)
/-- X(), X without an __init__ of its own -/
theorem ps_rf0 {bmB : List Value} {Bs newId initId : String} (F : ExcBaseFacts Bs newId initId bmB) (q : PySem.W.excIn X.K C bmB newId = true) (gC : X.mg x = some (.ref C)) (kC : PySem.W.keepIn X.K (.ref C) = true) (r : Raises X (.ref C)) (tk : Takes X W)
    (hc : X.calm = true := by rfl) (hg : Gl X x := by rfl) (hdb : (x == ("__debug__" : Str)) = false := by decide) : PS X (.Raise (some (.Call (.Name x p) [] [] pos)) none pos2) (fun _ σ H => W (.ref C) none σ H) := by
  refine ps_raise (t := fun _ H Q => Q (.ref C) none H) hc tk (fun pins s σ H Q I h => wpAny_Call_Name_kw (ld_glob I hg gC (PySem.W.callWith_K0 I.kIn kC ?_) hdb))
  show wpAny _ _ (call (.ref C) []) _ _ _
  obtain ⟨bm, N, nm, qn, bs, hdct, sn, sub, ab, col, dd, k0, k1, k2, k3, k5, mN, hC, hN, hni, T⟩ := exc_obj I.kIn q
  exact wpAny_call_exc_subT F T hC hN hni (fun h' e hm => mk_of I hm r h (I.hok.gone hm.new)) (by show 0 ≤ sizeLine; exact Nat.zero_le _)
end
/-- isinstance of the exception at p -/
theorem rr_isP {K : PySem.W.Frag} {p : Addr × Obj} {H : Hp} {Q : VK} {C : Addr} {fs : List (Str × V)} {c : V} {cv : Value} {b : Bool} (he : ExcAt H p C fs) (T : XcF K C) (kt : PySem.W.kitOne K (.ref C) cv = some b) (hcv : ∀ u, RelV c u → u = cv) (h : Q (.bl b) H) :
    rIsP K p [.ref p.1, c] H Q := ⟨c, cv, b, C, fs, rfl, hcv, he, T, kt, h⟩
theorem rr_fldP {K : PySem.W.Frag} {p : Addr × Obj} {H : Hp} {Q : VK} {n : Str} {te : TE} {σ : L2.St} (h : te σ H fun x H1 => x = .ref p.1 ∧ ∃ (C : Addr) (fs : List (Str × V)) (v : V), ExcAt H1 p C fs ∧ XcF K C ∧ PySem.W.findIn K (.ref C) n = some none ∧ fs.lookup n = some v ∧ Q v H1) :
    tFldP K p n te σ H Q := h
theorem rr_fldL {K : PySem.W.Frag} {p : Addr × Obj} {H : Hp} {R : V → Prop} {C : Addr} {fs : List (Str × V)} {n : Str} {v : V} (he : ExcAt H p C fs) (T : XcF K C) (hn : PySem.W.findIn K (.ref C) n = some none) (hl : fs.lookup n = some v) (h : R v) :
    V.ref p.1 = .ref p.1 ∧ ∃ (C : Addr) (fs : List (Str × V)) (v : V), ExcAt H p C fs ∧ XcF K C ∧ PySem.W.findIn K (.ref C) n = some none ∧ fs.lookup n = some v ∧ R v := ⟨rfl, C, fs, v, he, T, hn, hl, h⟩
/-- the same within the suite -/
def rIsA (K : PySem.W.Frag) (a : Addr) (cls : Value) (d : Option Addr) : List V → Hp → VK → Prop := fun xs H Q => ∀ oe : Obj, Zc cls d oe → (∃ fv, oe.data = .fields fv) → rIsP K (a, oe) xs H Q
theorem call_isA {X : Cx} {a : Addr} {oe : Obj} {cls : Value} {d : Option Addr} (hp : (a, oe) ∈ X.pn) (hz : Zc cls d oe) (hf : ∃ fv, oe.data = .fields fv) : CallR X (.builtin "isinstance") (rIsA X.K a cls d) :=
  fun pins s σ H xs us Q I r h => call_isP hp pins s σ H xs us Q I r (h oe hz hf)
theorem rr_callR {R : List V → Hp → VK → Prop} {ts : TA} {σ : L2.St} {H : Hp} {Q : VK} (h : ts σ H fun vs H1 => R vs H1 Q) : tCallR R ts σ H Q := h
/-- found.append(e) -/
theorem rr_app {H : Hp} {l : Addr} {xs : List V} {y : V} {Q : VK} (e : H l = some (.lst xs)) (hz : xs.length < sizeLine) (h : Q .non (upd H l (.lst (xs ++ [y])))) : rAppend (.ref l) [y] H Q := ⟨l, xs, y, rfl, rfl, e, hz, h⟩
theorem rr_cat {H : Hp} {l b : Addr} {xs zs : List V} {Q : VK} (e1 : H l = some (.lst xs)) (e2 : H b = some (.lst zs)) (hz : xs.length + zs.length ≤ sizeLine) (h : ∀ p, H p = none → Q (.ref p) (upd H p (.lst (xs ++ zs)))) : rCat (.ref l) (.ref b) H Q := ⟨l, b, xs, zs, rfl, rfl, e1, e2, hz, h⟩
theorem tyL {K : PySem.W.Frag} {H : Hp} {l : Addr} {xs : List V} (h : H l = some (.lst xs)) : tyV K "list" (.ref l) H := .inl ⟨rfl, _, .inl (.inl h)⟩
end Lx
namespace K01
open PySem PySem.Spec PyProof.Rows L2 Lx
local macro_rules | `(tactic| walk_at "rd") => `(tactic| (with_reducible first
  | refine rr_seq ?_ | refine rr_asg ?_ | refine rr_n0 ?_ | refine rr_n1 ?_ | refine rr_n2 ?_ | refine rr_n3 ?_ | refine rr_n4 ?_ | refine rr_n5 ?_ | refine rr_n6 ?_ | refine rr_n7 ?_ | refine rr_n8 ?_ | refine rr_n9 ?_ | refine rr_n10 ?_ | refine rr_n11 ?_ | refine rr_n12 ?_ | refine rr_n13 ?_ | refine rr_drop ?_ | refine rr_ret ?_ | refine rr_ifs ?_ | refine rr_if ?_ | refine rr_test ?_ | refine rr_tB ?_ | refine rr_bl ?_
  | refine rr_and ?_ | refine rr_or ?_ | refine rr_not ?_ | refine rr_v0 ?_ | refine rr_v1 ?_ | refine rr_v2 ?_ | refine rr_v3 ?_ | refine rr_v4 ?_ | refine rr_v5 ?_ | refine rr_v6 ?_ | refine rr_v7 ?_ | refine rr_v8 ?_ | refine rr_v9 ?_ | refine rr_v10 ?_ | refine rr_v11 ?_ | refine rr_v12 ?_ | refine rr_v13 ?_ | refine rr_c ?_ | refine rr_op ?_ | refine rr_un ?_ | refine rr_i0 ?_ | refine rr_eqi ?_ | refine rr_nei ?_
  | refine rr_cons ?_ | refine rr_nil ?_ | refine rr_cb ?_ | refine rr_call ?_ | refine rr_tup ?_ | refine rr_lst ?_ | refine rr_lstN ?_ | refine rr_dget ?_ | refine rr_dput ?_ | refine rr_next ?_ | refine rr_int ?_))
local macro_rules | `(tactic| walk_at "rds") => `(tactic| repeat walk_at "rd")
def topS (i : Nat) : Stmt := PySem.Challenge.pw_fracsteps_k01_errors.main.body.getD i (.Pass ⟨0, 0, 0, 0⟩)
abbrev s_law_pen : Stmt := topS 19
abbrev s_law_draw : Stmt := topS 20
abbrev s_law_pick : Stmt := topS 21
theorem sc_law_pen : FnScope ["script", "fold", "cell"] ["script"] (defScope s_law_pen) := ⟨rfl, rfl, rfl, by decide +kernel, rfl, by decide +kernel, by decide +kernel⟩
theorem sc_law_draw : FnScope ["pen", "many", "blend", "cell", "digit"] ["pen", "many"] (defScope s_law_draw) := ⟨rfl, rfl, rfl, by decide +kernel, rfl, by decide +kernel, by decide +kernel⟩
theorem sc_law_pick : FnScope ["pen", "some"] ["pen", "some"] (defScope s_law_pick) := ⟨rfl, rfl, rfl, by decide +kernel, rfl, by decide +kernel, by decide +kernel⟩
/-- the built-in names -/
structure Blt (mg : Str → Option Value) : Prop where
  b_int : mg "int" = none
  b_list : mg "list" = none
  b_len : mg "len" = none
  b_range : mg "range" = none
  b_repr : mg "repr" = none
  b_isinstance : mg "isinstance" = none
  b_VE : mg "ValueError" = none
section
variable {P : Program} {w : World} {K : PySem.W.Frag} {mg : Str → Option Value} {base : Heap}
theorem item_at {ns : List Int} {a : Int} (h0 : 0 ≤ a) (h : a < (ns.length : Int)) : ∃ x : Int, atI (ns.map V.int) a = some (.int x) := by
  have hk : a.toNat < ns.length := by omega
  have q : atI (ns.map V.int) ((a.toNat : Nat) : Int) = some (.int ns[a.toNat]) := atI_nat (by rw [List.getElem?_map, List.getElem?_eq_getElem hk] <;> rfl)
  rw [show ((a.toNat : Nat) : Int) = a by omega] at q
  exact ⟨_, q⟩
theorem d_draw (F : Has K mg "_law_draw" s_law_draw) (T : Blt mg) : Keeps P w K mg base CX0 1 "_law_draw" ["pen", "many"] spDraw := by
  refine keep0 F (fun _ _ _ _ _ _ us hl => match us, hl with | [_, _], _ => rfl) sc_law_draw (fun vs H Q E h => ?_) (fun f cdv A outer s H vs Q E hr hg h => ?_)
  · obtain ⟨p, m, rfl, _⟩ := h
    rfl
  have hu := hu_of hr
  refine ⟨_, (pss_cons (ps_dput hu (pv 0) pe_str (pe_op op_add (pe_dget hu (pv 0) pe_str (fun _ _ => rfl)) pe_int) rfl)
    (pss_cons (ps_if (PW.pt (pw_and (pt_cmpR op_eq (pe_dget hu (pv 0) pe_str (fun _ _ => rfl)) pe_int (nomark _)) (pw_and1 (pt_cmpR op_lt (pe_dget hu (pv 0) pe_str (fun _ _ => rfl)) (pe_callB c_len (by rfl) T.b_len PySem.boot_len (pa_cons (pe_dget hu (pv 0) pe_str (fun _ _ => rfl)) pa_nil)) (nomark _))))) (pss_cons (ps_set (i := 3) sc_law_draw.nd rfl (.inl rfl) (pe_ix ix_list (pe_dget hu (pv 0) pe_str (fun _ _ => rfl)) (pe_dget hu (pv 0) pe_str (fun _ _ => rfl)) (fun _ _ => rfl)))
    (pss_cons (ps_dput hu (pv 0) pe_str (pe_op op_add (pe_dget hu (pv 0) pe_str (fun _ _ => rfl)) pe_int) rfl)
    (pss_one (ps_if (pt_cmpR op_ge (pv 3) (pe_op op_pow pe_int pe_int) (nomark _)) (pss_one (ps_dput hu (pv 0) pe_str (pe_op op_sub (pv 3) (pe_op op_pow pe_int pe_int)) rfl)) (pss_one (ps_dput hu (pv 0) pe_str (pe_op op_modN (pe_callTy c_int (by rfl) T.b_int (by decide +kernel) (pa_cons (pe_op op_add (pe_op op_mul (pe_dget hu (pv 0) pe_str (fun _ _ => rfl)) pe_int) (pv 3)) pa_nil)) pe_int) rfl)))))) pss_nil)
    (pss_cons (ps_if (pt_cmpR op_gt (pe_dget hu (pv 0) pe_str (fun _ _ => rfl)) pe_int (nomark _)) (pss_cons (ps_set (i := 4) sc_law_draw.nd rfl (.inl rfl) (pe_op op_modN (pe_callTy c_int (by rfl) T.b_int (by decide +kernel) (pa_cons (pe_dget hu (pv 0) pe_str (fun _ _ => rfl)) pa_nil)) (pv 1)))
    (pss_cons (ps_dput hu (pv 0) pe_str (pe_op op_fdivN (pe_dget hu (pv 0) pe_str (fun _ _ => rfl)) (pv 1)) rfl)
    (pss_one (ps_ret (pv 4))))) pss_nil)
    (pss_cons (ps_set (i := 2) sc_law_draw.nd rfl (.inl rfl) (pe_op op_modN (pe_callTy c_int (by rfl) T.b_int (by decide +kernel) (pa_cons (pe_op op_add (pe_op op_add (pe_op op_mul (pe_dget hu (pv 0) pe_str (fun _ _ => rfl)) pe_int) (pe_op op_mul (pe_dget hu (pv 0) pe_str (fun _ _ => rfl)) pe_int)) pe_int) pa_nil)) pe_int))
    (pss_cons (ps_set (i := 2) sc_law_draw.nd rfl (.inl rfl) (pe_op op_modN (pe_callTy c_int (by rfl) T.b_int (by decide +kernel) (pa_cons (pe_op op_add (pe_op op_add (pe_op op_mul (pv 2) (pv 2)) (pe_op op_mul pe_int (pv 2))) (pe_dget hu (pv 0) pe_str (fun _ _ => rfl))) pa_nil)) pe_int))
    (pss_cons (ps_dput hu (pv 0) pe_str (pe_op op_modN (pe_callTy c_int (by rfl) T.b_int (by decide +kernel) (pa_cons (pe_op op_add (pe_op op_mul (pv 2) pe_int) pe_int) pa_nil)) pe_int) rfl)
    (pss_one (ps_ret (pe_op op_modN (pe_callTy c_int (by rfl) T.b_int (by decide +kernel) (pa_cons (pe_op op_fdivN (pv 2) pe_int) pa_nil)) (pv 1)))))))))), ?_⟩
  obtain ⟨p, m, rfl, ⟨l, ns, a, d, c, f, hp, hl, ha, hd, hc, hf, hf2⟩, hm, hm2, k⟩ := h
  have hlp : l ≠ p := PenAt.ne ⟨hp, hl, ha, hd, hc, hf, hf2⟩
  have hpn : ¬ H p = none := fun z => by rw [z] at hp; cases hp
  have es : L2.start ["pen", "many", "blend", "cell", "digit"] [V.ref p, V.int m] = [some (V.ref p), some (V.int m), none, none, none] := rfl
  rw [es]
  walk_at "rds"
  refine rr_gcount hp ?_
  walk_at "rds"
  refine rr_pcount hp ?_
  with_reducible refine rr_seqJ (fun z : Int × Int × Int × Option V => 0 ≤ z.1 ∧ 0 ≤ z.2.1 ∧ 0 ≤ z.2.2.1 ∧ z.2.2.1 < 2147483648) (fun z => [some (V.ref p), some (V.int m), none, z.2.2.2, none]) (fun z => upd H p (.dK (penL l z.1 z.2.1 (c + 1) z.2.2.1))) (fun ⟨a, d, f, v⟩ ⟨ha, hd, hf, hf2⟩ => ?_) (fun rest => ?_)
  · -- digits, then the mix
    clear hp
    dsimp only at ha hd hf hf2 ⊢
    have fin : ∀ (r : Int) (d' f' : Int), 0 ≤ r → r < m → 0 ≤ d' → 0 ≤ f' → f' < 2147483648 → Q (.int r) (upd H p (.dK (penL l a d' (c + 1) f'))) := fun r d' f' h1 h2 h3 h4 h5 => by
      refine k r _ h1 h2 ⟨l, ns, a, d', c + 1, f', upd_same, ?_, ha, h3, by omega, h4, h5⟩ SameBut.upd fun b hb => ?_
      · rw [upd_ne hlp]; exact hl
      · rw [upd_ne fun z => hpn (by rw [← z]; exact hb)]; exact hb
    walk_at "rds"
    refine rr_gdigits upd_same ?_
    walk_at "rds"
    refine rr_lt0 (fun h => ?_) (fun h => ?_)
    · walk_at "rds"
      refine rr_gdigits upd_same ?_
      walk_at "rds"
      refine rr_i (by omega) ?_
      walk_at "rds"
      refine rr_gdigits upd_same ?_
      walk_at "rds"
      refine rr_i ⟨by omega, by omega⟩ ?_
      walk_at "rds"
      refine rr_pdigits upd_same ?_
      walk_at "rds"
      rw [upd_upd]
      exact fin _ _ _ (modN hm).1 (modN hm).2 (divN hd hm) hf hf2
    · walk_at "rds"
      refine rr_gfold upd_same ?_
      walk_at "rds"
      refine rr_i (.inr (by decide)) ?_
      walk_at "rds"
      refine rr_gcount upd_same ?_
      walk_at "rds"
      refine rr_i (.inr (by decide)) ?_
      walk_at "rds"
      refine rr_i (by decide) ?_
      walk_at "rds"
      have b1 := modN (a := f * 48271 + (c + 1) * 7919 + 13) (b := 2147483647) (by decide)
      generalize (f * 48271 + (c + 1) * 7919 + 13).fmod 2147483647 = e1 at b1 ⊢
      refine rr_i (.inr (by omega)) ?_
      walk_at "rds"
      refine rr_i (.inr (by omega)) ?_
      walk_at "rds"
      refine rr_gcount upd_same ?_
      walk_at "rds"
      refine rr_i (by decide) ?_
      walk_at "rds"
      have b2 := modN (a := e1 * e1 + 31 * e1 + (c + 1)) (b := 2147483629) (by decide)
      generalize (e1 * e1 + 31 * e1 + (c + 1)).fmod 2147483629 = e2 at b2 ⊢
      refine rr_i (.inr (by decide)) ?_
      walk_at "rds"
      refine rr_i (by decide) ?_
      walk_at "rds"
      refine rr_pfold upd_same ?_
      walk_at "rds"
      refine rr_i ⟨by decide, by decide⟩ ?_
      walk_at "rds"
      refine rr_i (by omega) ?_
      rw [upd_upd]
      have b3 := modN (a := e2 * 16807 + 7) (b := 2147483647) (by decide)
      exact fin _ _ _ (modN hm).1 (modN hm).2 hd b3.1 (by omega)
  · -- a further cell
    walk_at "rds"
    refine rr_gdigits upd_same ?_
    walk_at "rds"
    refine rr_lt0 (fun h => ?_) (fun h => rest (a, d, f, none) ⟨ha, hd, hf, hf2⟩)
    walk_at "rds"
    refine rr_gat upd_same ?_
    walk_at "rds"
    refine rr_gcells upd_same ?_
    walk_at "rds"
    have hl' : ∀ o, upd H p o l = some (.lst (ns.map V.int)) := fun o => by rw [upd_ne hlp]; exact hl
    refine rr_len (sqL (hl' _)) ?_
    walk_at "rds"
    refine rr_lt0 (fun h2 => ?_) (fun h2 => rest (a, d, f, none) ⟨ha, hd, hf, hf2⟩)
    walk_at "rds"
    refine rr_gcells upd_same ?_
    walk_at "rds"
    refine rr_gat upd_same ?_
    obtain ⟨x, hx⟩ := item_at (ns := ns) ha (by simpa using h2)
    refine rr_ixL (sqL (hl' _)) hx ?_
    walk_at "rds"
    refine rr_gat upd_same ?_
    walk_at "rds"
    refine rr_pat upd_same ?_
    walk_at "rds"
    refine rr_i ⟨by decide, by decide, by decide⟩ ?_
    walk_at "rds"
    refine rr_lt0 (fun h3 => ?_) (fun h3 => ?_)
    · walk_at "rds"
      refine rr_i ⟨by decide, by decide, by decide⟩ ?_
      walk_at "rds"
      refine rr_pdigits upd_same ?_
      rw [upd_upd, upd_upd]
      exact rest (a + 1, _, f, _) ⟨by show 0 ≤ a + 1; omega, by show 0 ≤ x - _; omega, hf, hf2⟩
    · walk_at "rds"
      refine rr_gfold upd_same ?_
      walk_at "rds"
      refine rr_i (.inr (by decide)) ?_
      walk_at "rds"
      refine rr_i (by decide) ?_
      walk_at "rds"
      refine rr_pfold upd_same ?_
      rw [upd_upd, upd_upd]
      have b3 := modN (a := f * 69069 + x) (b := 2147483587) (by decide)
      exact rest (a + 1, d, _, _) ⟨by show 0 ≤ a + 1; omega, hd, b3.1, Int.lt_trans b3.2 (by decide)⟩
end
end K01
namespace K01
open PySem PySem.Spec PyProof.Rows L2 Lx
local macro_rules | `(tactic| walk_at "rd") => `(tactic| (with_reducible first
  | refine rr_seq ?_ | refine rr_asg ?_ | refine rr_n0 ?_ | refine rr_n1 ?_ | refine rr_n2 ?_ | refine rr_n3 ?_ | refine rr_n4 ?_ | refine rr_n5 ?_ | refine rr_n6 ?_ | refine rr_n7 ?_ | refine rr_n8 ?_ | refine rr_n9 ?_ | refine rr_n10 ?_ | refine rr_n11 ?_ | refine rr_n12 ?_ | refine rr_n13 ?_ | refine rr_drop ?_ | refine rr_ret ?_ | refine rr_ifs ?_ | refine rr_if ?_ | refine rr_test ?_ | refine rr_tB ?_ | refine rr_bl ?_
  | refine rr_and ?_ | refine rr_or ?_ | refine rr_not ?_ | refine rr_v0 ?_ | refine rr_v1 ?_ | refine rr_v2 ?_ | refine rr_v3 ?_ | refine rr_v4 ?_ | refine rr_v5 ?_ | refine rr_v6 ?_ | refine rr_v7 ?_ | refine rr_v8 ?_ | refine rr_v9 ?_ | refine rr_v10 ?_ | refine rr_v11 ?_ | refine rr_v12 ?_ | refine rr_v13 ?_ | refine rr_c ?_ | refine rr_op ?_ | refine rr_un ?_ | refine rr_i0 ?_ | refine rr_eqi ?_ | refine rr_nei ?_
  | refine rr_cons ?_ | refine rr_nil ?_ | refine rr_cb ?_ | refine rr_call ?_ | refine rr_tup ?_ | refine rr_lst ?_ | refine rr_lstN ?_ | refine rr_dget ?_ | refine rr_dput ?_ | refine rr_next ?_ | refine rr_int ?_ | refine rr_disp ?_ | refine rr_pcons ?_ | refine rr_pnil ?_ | refine rr_isN ?_ | refine rr_notN ?_))
local macro_rules | `(tactic| walk_at "rds") => `(tactic| repeat walk_at "rd")

section
variable {P : Program} {w : World} {K : PySem.W.Frag} {mg : Str → Option Value} {base : Heap}
theorem d_pen (F : Has K mg "_law_pen" s_law_pen) (T : Blt mg) : Keeps P w K mg base CX0 1 "_law_pen" ["script"] (spPen K) := by
  refine keep0 F (fun _ _ _ _ _ _ us hl => match us, hl with | [_], _ => rfl) sc_law_pen (fun vs H Q E h => ?_) (fun f cdv A outer s H vs Q E hr hg h => ?_)
  · obtain ⟨a, ns, rfl, _⟩ := h
    rfl
  refine ⟨_, (pss_cons (ps_set (i := 1) sc_law_pen.nd rfl (.inl rfl) pe_int)
    (pss_cons (ps_for PassesOwn.never rfl (pi_list (pv 0)) (pg_name (i := 2) sc_law_pen.nd rfl (.inl rfl)) (pss_one (ps_set (i := 1) sc_law_pen.nd rfl (.inl rfl) (pe_op op_modN (pe_callTy c_int (by rfl) T.b_int (by decide +kernel) (pa_cons (pe_op op_add (pe_op op_mul (pv 1) pe_int) (pv 2)) pa_nil)) pe_int))))
    (pss_one (ps_ret (pe_disp (pps_cons pe_str (pe_callTy c_list (by rfl) T.b_list (by decide +kernel) (pa_cons (pv 0) pa_nil)) (pps_cons pe_str pe_int (pps_cons pe_str pe_int (pps_cons pe_str pe_int (pps_cons pe_str (pv 1) pps_nil))))) (by rfl) (by rfl) (fun z => by cases z) (by decide)))))), ?_⟩
  obtain ⟨a, ns, rfl, hS, k⟩ := h
  have es : L2.start ["script", "fold", "cell"] [V.ref a] = [some (V.ref a), none, none] := rfl
  rw [es]
  walk_at "rds"
  refine ⟨_, rfl, a, rfl, ⟨_, hS⟩, for_list (K := K) (a := a) (xs := ns.map V.int) (fun i σ H' => ∃ (f : Int) (v : Option V), σ = [some (.ref a), some (.int f), v] ∧ 0 ≤ f ∧ f < 1000000007 ∧ H' = H)
    ⟨0, none, rfl, by decide, by decide, rfl⟩ (fun i σ H' _ ⟨_, _, _, _, _, e⟩ => by rw [e]; exact hS) ?_ ?_⟩
  · rintro i y σ H' hi ⟨f, v, rfl, h0, h1, rfl⟩
    obtain ⟨z, rfl⟩ : ∃ z : Int, y = V.int z := by
      rw [List.getElem?_map] at hi
      cases e : ns[i]? with
      | none => rw [e] at hi; cases hi
      | some z => rw [e] at hi; exact ⟨z, (Option.some.inj hi).symm⟩
    walk_at "rds"
    refine rr_i (.inr (by decide)) ?_
    walk_at "rds"
    refine rr_i (by decide) ?_
    have b := modN (a := f * 47 + z) (b := 1000000007) (by decide)
    exact ⟨_, _, rfl, b.1, b.2, rfl⟩
  · rintro σ H' ⟨f, v, rfl, h0, h1, rfl⟩
    walk_at "rds"
    intro p hp
    walk_at "rds"
    refine rr_listL ((sameNew hp _).seq hS) fun l hl => ?_
    walk_at "rds"
    have hlp : l ≠ p := fun z => by rw [z, upd_same] at hl; cases hl
    rw [upd_ne hlp] at hl
    refine ⟨by rw [upd_ne (Ne.symm hlp), upd_same], penL l 0 0 0 f, rfl, (by show 5 ≤ 15; decide), ?_⟩
    refine k p _ ?_ hp ⟨l, ns, 0, 0, 0, f, upd_same, by rw [upd_ne hlp, upd_same], by decide, by decide, by decide, h0, by omega⟩
    intro b o e
    have n1 : b ≠ p := ne_of_none e hp
    have n2 : b ≠ l := ne_of_none e hl
    rw [upd_ne n1, upd_ne n2, upd_ne n1]
    exact e
theorem d_pick (F : Has K mg "_law_pick" s_law_pick) (T : Blt mg) (D1 : Keeps P w K mg base CX0 1 "_law_draw" ["pen", "many"] spDraw) : Keeps P w K mg base CX0 2 "_law_pick" ["pen", "some"] spPick := by
  refine keep0 F (fun _ _ _ _ _ _ us hl => match us, hl with | [_, _], _ => rfl) sc_law_pick (fun vs H Q E h => ?_) (fun f cdv A outer s H vs Q E hr hg h => ?_)
  · obtain ⟨p, q, xs, rfl, _⟩ := h
    rfl
  refine ⟨_, (pss_one (ps_ret (pe_ix ix_seq (pv 1) (pc0 D1 hr hg (pa_cons (pv 0) (pa_cons (pe_callB c_len (by rfl) T.b_len PySem.boot_len (pa_cons (pv 1) pa_nil)) pa_nil))) (fun _ _ => rfl)))), ?_⟩
  obtain ⟨p, q, xs, rfl, hp, hq, h0, h1, hn, k⟩ := h
  have es : L2.start ["pen", "some"] [V.ref p, V.ref q] = [some (V.ref p), some (V.ref q)] := rfl
  rw [es]
  walk_at "rds"
  refine rr_len (sqL hq) ?_
  walk_at "rds"
  refine ⟨p, xs.length, rfl, hp, by omega, by omega, fun r H' r0 r1 hp' hs _ => ?_⟩
  have hk : r.toNat < xs.length := by omega
  have e : atI xs ((r.toNat : Nat) : Int) = some xs[r.toNat] := atI_nat (List.getElem?_eq_getElem hk)
  rw [show ((r.toNat : Nat) : Int) = r by omega] at e
  refine rr_sL (sqL (hs q _ hn hq)) e ?_
  exact k _ _ (List.getElem_mem hk) hp' hs
end
end K01
namespace K01
open PySem PySem.Spec PyProof.Rows L2 Lx
local macro_rules | `(tactic| walk_at "rd") => `(tactic| (with_reducible first
  | refine rr_seq ?_ | refine rr_asg ?_ | refine rr_n0 ?_ | refine rr_n1 ?_ | refine rr_n2 ?_ | refine rr_n3 ?_ | refine rr_n4 ?_ | refine rr_n5 ?_ | refine rr_n6 ?_ | refine rr_n7 ?_ | refine rr_n8 ?_ | refine rr_n9 ?_ | refine rr_n10 ?_ | refine rr_n11 ?_ | refine rr_n12 ?_ | refine rr_n13 ?_ | refine rr_drop ?_ | refine rr_ret ?_ | refine rr_ifs ?_ | refine rr_if ?_ | refine rr_test ?_ | refine rr_tB ?_ | refine rr_bl ?_
  | refine rr_and ?_ | refine rr_or ?_ | refine rr_not ?_ | refine rr_v0 ?_ | refine rr_v1 ?_ | refine rr_v2 ?_ | refine rr_v3 ?_ | refine rr_v4 ?_ | refine rr_v5 ?_ | refine rr_v6 ?_ | refine rr_v7 ?_ | refine rr_v8 ?_ | refine rr_v9 ?_ | refine rr_v10 ?_ | refine rr_v11 ?_ | refine rr_v12 ?_ | refine rr_v13 ?_ | refine rr_c ?_ | refine rr_op ?_ | refine rr_un ?_ | refine rr_i0 ?_ | refine rr_eqi ?_ | refine rr_nei ?_
  | refine rr_cons ?_ | refine rr_nil ?_ | refine rr_cb ?_ | refine rr_call ?_ | refine rr_tup ?_ | refine rr_lst ?_ | refine rr_lstN ?_ | refine rr_dget ?_ | refine rr_dput ?_ | refine rr_next ?_ | refine rr_int ?_ | refine rr_disp ?_ | refine rr_pcons ?_ | refine rr_pnil ?_ | refine rr_isN ?_ | refine rr_notN ?_))
local macro_rules | `(tactic| walk_at "rds") => `(tactic| repeat walk_at "rd")

abbrev s_law_any_field : Stmt := topS 24
theorem sc_law_any_field : FnScope ["pen", "way"] ["pen"] (defScope s_law_any_field) := ⟨rfl, rfl, rfl, by decide +kernel, rfl, by decide +kernel, by decide +kernel⟩
theorem fitC {d : PyData} (h : (d.showable && decide (d.depth ≤ 2) && d.leavesShort 60 && decide (d.weight ≤ 150)) = true) : Fit 2 150 d := by
  simp only [Bool.and_eq_true, decide_eq_true_eq] at h
  exact ⟨h.1.1.1, h.1.1.2, h.1.2, h.2⟩
section
variable {P : Program} {w : World} {K : PySem.W.Frag} {mg : Str → Option Value} {base : Heap}
theorem d_any (F : Has K mg "_law_any_field" s_law_any_field) (D1 : Keeps P w K mg base CX0 1 "_law_draw" ["pen", "many"] spDraw) (D2 : Keeps P w K mg base CX0 2 "_law_pick" ["pen", "some"] spPick) : Keeps P w K mg base CX0 3 "_law_any_field" ["pen"] spAny := by
  refine keep0 F (fun _ _ _ _ _ _ us hl => match us, hl with | [_], _ => rfl) sc_law_any_field (fun vs H Q E h => ?_) (fun f cdv A outer s H vs Q E hr hg h => ?_)
  · obtain ⟨p, rfl, _⟩ := h
    rfl
  refine ⟨_, (pss_cons (ps_set (i := 1) sc_law_any_field.nd rfl (.inl rfl) (pc0 D1 hr hg (pa_cons (pv 0) (pa_cons pe_int pa_nil))))
    (pss_cons (ps_if (pt_cmpR op_eq (pv 1) pe_int (nomark _)) (pss_one (ps_ret (pe_lstN (pa_cons (pc0 D1 hr hg (pa_cons (pv 0) (pa_cons pe_int pa_nil))) (pa_cons (pe_lstN pa_nil) pa_nil))))) pss_nil)
    (pss_cons (ps_if (pt_cmpR op_eq (pv 1) pe_int (nomark _)) (pss_one (ps_ret (pe_tup (pa_cons pe_str (pa_cons (pe_tup (pa_cons (pc0 D1 hr hg (pa_cons (pv 0) (pa_cons (pe_op op_pow pe_int pe_int) pa_nil))) pa_nil)) pa_nil))))) pss_nil)
    (pss_one (ps_ret (pc0 D2 hr hg (pa_cons (pv 0) (pa_cons (pe_lst (pa_cons pe_non (pa_cons pe_bl (pa_cons pe_bl (pa_cons pe_int (pa_cons (pe_un un_neg pe_int) (pa_cons pe_str (pa_cons pe_str (pa_cons (pe_op op_pow pe_int pe_int) (pa_cons (pe_disp (pps_cons pe_str pe_int pps_nil) (by rfl) (by rfl) (fun z => by cases z) (by decide)) pa_nil)))))))))) pa_nil)))))))), ?_⟩
  obtain ⟨p, rfl, hp, k⟩ := h
  have es : L2.start ["pen", "way"] [V.ref p] = [some (V.ref p), none] := rfl
  rw [es]
  walk_at "rds"
  refine ⟨p, 8, rfl, hp, by decide, by decide, fun r H1 r0 r1 hp1 hs1 _ => ?_⟩
  walk_at "rds"
  refine rr_lt0 (fun h => ?_) (fun h => ?_)
  · -- [draw, []]
    walk_at "rds"
    refine ⟨p, 100, rfl, hp1, by decide, by decide, fun z H2 z0 z1 hp2 hs2 _ => ?_⟩
    walk_at "rds"
    refine ⟨by show 0 ≤ sizeLine; decide, fun a ha na => ?_⟩
    walk_at "rds"
    refine ⟨by show 2 ≤ sizeLine; decide, fun b hb nb => ?_⟩
    have pa : p ≠ a := fun e => hp2.some (by rw [e]; exact ha)
    have pb : p ≠ b := fun e => hp2.some (by rw [e]; exact (sameNew ha _).free hb)
    have ab : a ≠ b := fun e => by rw [← e, upd_same] at hb; cases hb
    have s1 : Same H2 (upd (upd H2 a (.lst [])) b (.lst [.int z, .ref a])) := (sameNew ha _).trans (sameNew hb _)
    obtain ⟨f1, f2, f3⟩ := fit_ints z0 (by omega)
    refine k _ (.list [.int z, .list []]) _ (.lst (xs := [.int z, .ref a]) ?_ nb (.cons (.int z) (.cons (.lst (xs := []) ?_ na .nil) .nil))) ⟨?_, ?_, ?_, ?_⟩ (hp2.same s1) (hs1.trans (hs2.trans (.of s1)))
    · rw [hid_ne (Ne.symm pb), upd_same]
    · rw [hid_ne (Ne.symm pa), upd_ne ab, upd_same]
    · simp only [PyData.showable, PyData.showableAll, Bool.and_true]
      simpa only [PyData.showable] using f1
    · simp [PyData.depth, PyData.depthAll]
    · simp only [PyData.leavesShort, PyData.leavesShortAll, Bool.and_true]
      simpa only [PyData.leavesShort] using f2
    · simp only [PyData.weight, PyData.weightAll] at f3 ⊢
      omega
  · walk_at "rds"
    refine rr_lt0 (fun h => ?_) (fun h => ?_)
    · -- ('a', (draw,))
      walk_at "rds"
      refine rr_i ⟨by decide, by decide, by decide⟩ ?_
      walk_at "rds"
      refine ⟨p, _, rfl, hp1, by decide, by decide, fun z H2 z0 z1 hp2 hs2 _ => ?_⟩
      walk_at "rds"
      refine ⟨by show 1 ≤ sizeLine; decide, fun a ha => ?_⟩
      walk_at "rds"
      refine ⟨by show 2 ≤ sizeLine; decide, fun b hb => ?_⟩
      have pa : p ≠ a := fun e => hp2.some (by rw [e]; exact ha)
      have pb : p ≠ b := fun e => hp2.some (by rw [e]; exact (sameNew ha _).free hb)
      have ab : a ≠ b := fun e => by rw [← e, upd_same] at hb; cases hb
      have s1 : Same H2 (upd (upd H2 a (.tup [.int z])) b (.tup [.str "a", .ref a])) := (sameNew ha _).trans (sameNew hb _)
      obtain ⟨f1, f2, f3⟩ := fit_ints z0 (by have e : ((10 : Int) ^ (6 : Int).toNat) = 1000000 := by decide
                                             rw [← e]; exact z1)
      refine k _ (.tuple [.str "a", .tuple [.int z]]) _ (.tup (xs := [.str "a", .ref a]) ?_ (.cons (.str _) (.cons (.tup (xs := [.int z]) ?_ (.cons (.int z) .nil)) .nil))) ⟨?_, ?_, ?_, ?_⟩ (hp2.same s1) (hs1.trans (hs2.trans (.of s1)))
      · rw [hid_ne (Ne.symm pb), upd_same]
      · rw [hid_ne (Ne.symm pa), upd_ne ab, upd_same]
      · simp only [PyData.showable, PyData.showableAll, Bool.and_true, Bool.true_and]
        simpa only [PyData.showable] using f1
      · simp [PyData.depth, PyData.depthAll]
      · have e : (PyData.str "a").leavesShort 60 = true := by decide +kernel
        simp only [PyData.leavesShort, PyData.leavesShortAll, Bool.and_true, Bool.and_eq_true] at e f2 ⊢
        exact ⟨e, f2⟩
      · have e : (PyData.str "a").weight = 1 := by decide +kernel
        simp only [PyData.weight, PyData.weightAll] at f3 e ⊢
        omega
    · -- one of the written values
      walk_at "rds"
      refine ⟨_, rfl, ?_⟩
      walk_at "rds"
      refine rr_i ⟨by decide, by decide, by decide⟩ ?_
      walk_at "rds"
      intro a ha
      walk_at "rds"
      refine ⟨upd_same, [(.inr "k", .int 1)], rfl, (by show 1 ≤ 15; decide), ?_⟩
      walk_at "rds"
      refine ⟨by show 9 ≤ sizeLine; decide, fun b hb => ?_⟩
      rw [upd_upd] at hb ⊢
      have pa : p ≠ a := fun e => hp1.some (by rw [e]; exact ha)
      have pb : p ≠ b := fun e => hp1.some (by rw [e]; exact (sameNew ha _).free hb)
      have ab : a ≠ b := fun e => by rw [← e, upd_same] at hb; cases hb
      have s1 : Same H1 _ := (sameNew ha (.dK (mergeK [] [(.inr "k", .int 1)]))).trans (sameNew hb (.lst [.non, .bl true, .bl false, .int 0, .int (-1), .str "x", .str "", .int ((10 : Int) ^ (40 : Int).toNat), .ref a]))
      walk_at "rds"
      refine ⟨p, b, _, rfl, hp1.same s1, upd_same, by show 0 < 9; decide, by show 9 ≤ 1000; decide, Ne.symm pb, fun v H2 hv hp2 hs2 => ?_⟩
      have ka : ∀ o, o ≠ b → _ := fun o (ho : o ≠ b) => hs2 o
      have fin : ∀ d : PyData, Rp (hid H2 p) v d → (d.showable && decide (d.depth ≤ 2) && d.leavesShort 60 && decide (d.weight ≤ 150)) = true → Q v H2 := fun d r f =>
        k v d H2 r (fitC f) hp2 (hs1.trans ((SameBut.of s1).trans hs2))
      simp only [List.mem_cons, List.not_mem_nil, or_false] at hv
      rcases hv with rfl | rfl | rfl | rfl | rfl | rfl | rfl | rfl | rfl
      · exact fin _ .non (by decide +kernel)
      · exact fin _ (.bl _) (by decide +kernel)
      · exact fin _ (.bl _) (by decide +kernel)
      · exact fin _ (.int _) (by decide +kernel)
      · exact fin _ (.int _) (by decide +kernel)
      · exact fin _ (.str _) (by decide +kernel)
      · exact fin _ (.str _) (by decide +kernel)
      · exact fin _ (.int _) (by decide +kernel)
      · refine fin (.dict [(.str "k", .int 1)]) (.dct (kvs := [(.inr "k", .int 1)]) ?_ rfl (.cons (.int 1) .nil)) (by decide +kernel)
        rw [hid_ne (Ne.symm pa)]
        refine hs2 _ _ (Ne.symm pa) ?_
        rw [upd_ne ab, upd_same]
        rfl
end
end K01
namespace K01
open PySem PySem.Spec PyProof.Rows L2 Lx
local macro_rules | `(tactic| walk_at "rd") => `(tactic| (with_reducible first
  | refine rr_seq ?_ | refine rr_asg ?_ | refine rr_n0 ?_ | refine rr_n1 ?_ | refine rr_n2 ?_ | refine rr_n3 ?_ | refine rr_n4 ?_ | refine rr_n5 ?_ | refine rr_n6 ?_ | refine rr_n7 ?_ | refine rr_n8 ?_ | refine rr_n9 ?_ | refine rr_n10 ?_ | refine rr_n11 ?_ | refine rr_n12 ?_ | refine rr_n13 ?_ | refine rr_drop ?_ | refine rr_ret ?_ | refine rr_ifs ?_ | refine rr_if ?_ | refine rr_test ?_ | refine rr_tB ?_ | refine rr_bl ?_
  | refine rr_and ?_ | refine rr_or ?_ | refine rr_not ?_ | refine rr_v0 ?_ | refine rr_v1 ?_ | refine rr_v2 ?_ | refine rr_v3 ?_ | refine rr_v4 ?_ | refine rr_v5 ?_ | refine rr_v6 ?_ | refine rr_v7 ?_ | refine rr_v8 ?_ | refine rr_v9 ?_ | refine rr_v10 ?_ | refine rr_v11 ?_ | refine rr_v12 ?_ | refine rr_v13 ?_ | refine rr_c ?_ | refine rr_op ?_ | refine rr_un ?_ | refine rr_i0 ?_ | refine rr_eqi ?_ | refine rr_nei ?_
  | refine rr_cons ?_ | refine rr_nil ?_ | refine rr_cb ?_ | refine rr_call ?_ | refine rr_tup ?_ | refine rr_lst ?_ | refine rr_lstN ?_ | refine rr_dget ?_ | refine rr_dput ?_ | refine rr_next ?_ | refine rr_int ?_ | refine rr_disp ?_ | refine rr_pcons ?_ | refine rr_pnil ?_ | refine rr_isN ?_ | refine rr_notN ?_ | refine rr_callR ?_ | refine rr_bm ?_ | refine rr_fldP ?_ | refine rr_rf ?_))
local macro_rules | `(tactic| walk_at "rds") => `(tactic| repeat walk_at "rd")

def fnsOf : Nat → List Str
  | 0 => ["what", "number"]
  | 1 => ["what", "row"]
  | 2 => ["what"]
  | 3 => ["what"]
  | 4 => ["what"]
  | 5 => ["name"]
  | 6 => ["line", "word"]
  | 7 => ["what", "index"]
  | 8 => ["name"]
  | 9 => ["name"]
  | 10 => ["what"]
  | 11 => ["paper"]
  | 12 => ["what", "many", "limit"]
  | 13 => ["promise", "witness"]
  | 14 => []
  | 15 => []
  | _ => []
def fsOf (k : Nat) (a b c : V) : List (Str × V) := ((fnsOf k).zip [a, b, c]).reverse
def due (k : Nat) (a b c : PyData) : PyData := match k with
  | 0 => .tuple [.str "number", a, .str b.shown]
  | 1 => .tuple [.str "row", a, .str b.shown]
  | 2 => .tuple [.str "table", a]
  | 3 => .tuple [.str "tree", a]
  | 4 => .tuple [.str "book", a]
  | 5 => .tuple [.str "badname", .str a.shown]
  | 6 => .tuple [.str "text", a, b]
  | 7 => .tuple [.str "place", a, .str b.shown]
  | 8 => .tuple [.str "noname", .str a.shown]
  | 9 => .tuple [.str "taken", .str a.shown]
  | 10 => .tuple [.str "unlike", a]
  | 11 => .tuple [.str "notthere", a]
  | 12 => .tuple [.str "many", a, b, c]
  | 13 => .tuple [.str "kept", a, b]
  | 14 => .tuple [.str "undo"]
  | 15 => .tuple [.str "redo"]
  | _ => .none
/-- what the text's classes are -/
structure Tx (K : PySem.W.Frag) (mg : Str → Option Value) (S : Addr) (Cs : Nat → Addr) : Prop where
  b : Blt mg
  gS : mg "StepError" = some (.ref S)
  xc : ∀ i, i < 16 → XcF K (Cs i)
  self : ∀ i, i < 16 → PySem.W.kitOne K (.ref (Cs i)) (.ref (Cs i)) = some true
  ne : ∀ i j, i < 16 → j < 16 → i ≠ j → PySem.W.kitOne K (.ref (Cs i)) (.ref (Cs j)) = some false
  ve : ∀ i, i < 16 → PySem.W.kitOne K (.ref (Cs i)) (.type "ValueError") = some true
  sub : ∀ i, i < 16 → PySem.W.exmOne K (.ref (Cs i)) (.ref S) = some true
  nf : ∀ i, i < 16 → ∀ f ∈ fnsOf i, PySem.W.findIn K (.ref (Cs i)) f = some none
  g0 : mg "BadNumber" = some (.ref (Cs 0))
  g1 : mg "BadRow" = some (.ref (Cs 1))
  g2 : mg "BadTable" = some (.ref (Cs 2))
  g3 : mg "BadTree" = some (.ref (Cs 3))
  g4 : mg "BadBook" = some (.ref (Cs 4))
  g5 : mg "BadName" = some (.ref (Cs 5))
  g6 : mg "BadText" = some (.ref (Cs 6))
  g7 : mg "NoPlace" = some (.ref (Cs 7))
  g8 : mg "NoName" = some (.ref (Cs 8))
  g9 : mg "TakenName" = some (.ref (Cs 9))
  g10 : mg "Unlike" = some (.ref (Cs 10))
  g11 : mg "NotThere" = some (.ref (Cs 11))
  g12 : mg "TooMany" = some (.ref (Cs 12))
  g13 : mg "NotKept" = some (.ref (Cs 13))
  g14 : mg "NothingToUndo" = some (.ref (Cs 14))
  g15 : mg "NothingToRedo" = some (.ref (Cs 15))
  x0 : XcI K mg "BadNumber" (Cs 0) ["what", "number"]
  x1 : XcI K mg "BadRow" (Cs 1) ["what", "row"]
  x2 : XcI K mg "BadTable" (Cs 2) ["what"]
  x3 : XcI K mg "BadTree" (Cs 3) ["what"]
  x4 : XcI K mg "BadBook" (Cs 4) ["what"]
  x5 : XcI K mg "BadName" (Cs 5) ["name"]
  x6 : XcI K mg "BadText" (Cs 6) ["line", "word"]
  x7 : XcI K mg "NoPlace" (Cs 7) ["what", "index"]
  x8 : XcI K mg "NoName" (Cs 8) ["name"]
  x9 : XcI K mg "TakenName" (Cs 9) ["name"]
  x10 : XcI K mg "Unlike" (Cs 10) ["what"]
  x11 : XcI K mg "NotThere" (Cs 11) ["paper"]
  x12 : XcI K mg "TooMany" (Cs 12) ["what", "many", "limit"]
  x13 : XcI K mg "NotKept" (Cs 13) ["promise", "witness"]
  u14 : PySem.W.excIn K (Cs 14) [.type "ValueError", .type "Exception", .type "BaseException", .type "object"] "ValueError.__new__" = true
  v14 : PySem.W.keepIn K (.ref (Cs 14)) = true
  w14 : PySem.W.subIn K (.ref (Cs 14)) (.type "BaseException") = some true ∧ PySem.W.typeIn K (.ref (Cs 14)) = some (.type "type")
  u15 : PySem.W.excIn K (Cs 15) [.type "ValueError", .type "Exception", .type "BaseException", .type "object"] "ValueError.__new__" = true
  v15 : PySem.W.keepIn K (.ref (Cs 15)) = true
  w15 : PySem.W.subIn K (.ref (Cs 15)) (.type "BaseException") = some true ∧ PySem.W.typeIn K (.ref (Cs 15)) = some (.type "type")
theorem ini_BadNumber {K : PySem.W.Frag} {mg : Str → Option Value} {C fI : Addr} {fd : FuncData} (F : Fun K "__init__" "BadNumber.__init__" (inClass (topS 2) 0) fI fd) (T : OexC K C) (nf : ∀ f : Str, f ∈ (["what", "number"] : List Str) → PySem.W.findIn K (.ref C) f = some none) (P : Program) (w : World) (base : Heap) :
    FnOk P w K mg base CX0 1 fI fd ["self", "what", "number"] (spI C ["what", "number"]) := by
  have sc : FnScope ["self", "what", "number"] ["self", "what", "number"] (defScope (inClass (topS 2) 0)) := ⟨rfl, rfl, rfl, by decide +kernel, rfl, by decide +kernel, by decide +kernel⟩
  refine F.ok sc (fun vs H Q E h => ?_) (fun cdv A outer s H vs Q E hr h => ⟨_, (pss_cons (ps_ost (pv 0) (pv 1)) (pss_one (ps_ost (pv 0) (pv 2)))), ?_⟩)
  · obtain ⟨a, ws, rfl, hl, _⟩ := h
    rw [List.length_cons, hl]
    rfl
  obtain ⟨a, ws, rfl, hl, ha, k⟩ := h
  obtain ⟨v0, v1, rfl⟩ : ∃ v0 v1, ws = [v0, v1] := match ws, hl with | [a, b], _ => ⟨a, b, rfl⟩
  have es : L2.start ["self", "what", "number"] [V.ref a, v0, v1] = [some (V.ref a), some v0, some v1] := rfl
  rw [es]
  walk_at "rds"
  refine rr_ostA T (nf _ (by simp)) rfl rfl ha fun d hd hn => ?_
  walk_at "rds"
  refine rr_ostB T (nf _ (by simp)) rfl rfl upd_same (by rw [upd_ne hn, upd_same]) (by simp) ?_
  refine k d _ hd hn (by rw [upd_ne (Ne.symm hn), upd_same]) (by rw [upd_same]; rfl) fun b n1 n2 => by rw [upd_ne n2, upd_ne n1, upd_ne n2]
theorem ini_BadRow {K : PySem.W.Frag} {mg : Str → Option Value} {C fI : Addr} {fd : FuncData} (F : Fun K "__init__" "BadRow.__init__" (inClass (topS 3) 0) fI fd) (T : OexC K C) (nf : ∀ f : Str, f ∈ (["what", "row"] : List Str) → PySem.W.findIn K (.ref C) f = some none) (P : Program) (w : World) (base : Heap) :
    FnOk P w K mg base CX0 1 fI fd ["self", "what", "row"] (spI C ["what", "row"]) := by
  have sc : FnScope ["self", "what", "row"] ["self", "what", "row"] (defScope (inClass (topS 3) 0)) := ⟨rfl, rfl, rfl, by decide +kernel, rfl, by decide +kernel, by decide +kernel⟩
  refine F.ok sc (fun vs H Q E h => ?_) (fun cdv A outer s H vs Q E hr h => ⟨_, (pss_cons (ps_ost (pv 0) (pv 1)) (pss_one (ps_ost (pv 0) (pv 2)))), ?_⟩)
  · obtain ⟨a, ws, rfl, hl, _⟩ := h
    rw [List.length_cons, hl]
    rfl
  obtain ⟨a, ws, rfl, hl, ha, k⟩ := h
  obtain ⟨v0, v1, rfl⟩ : ∃ v0 v1, ws = [v0, v1] := match ws, hl with | [a, b], _ => ⟨a, b, rfl⟩
  have es : L2.start ["self", "what", "row"] [V.ref a, v0, v1] = [some (V.ref a), some v0, some v1] := rfl
  rw [es]
  walk_at "rds"
  refine rr_ostA T (nf _ (by simp)) rfl rfl ha fun d hd hn => ?_
  walk_at "rds"
  refine rr_ostB T (nf _ (by simp)) rfl rfl upd_same (by rw [upd_ne hn, upd_same]) (by simp) ?_
  refine k d _ hd hn (by rw [upd_ne (Ne.symm hn), upd_same]) (by rw [upd_same]; rfl) fun b n1 n2 => by rw [upd_ne n2, upd_ne n1, upd_ne n2]
theorem ini_BadTable {K : PySem.W.Frag} {mg : Str → Option Value} {C fI : Addr} {fd : FuncData} (F : Fun K "__init__" "BadTable.__init__" (inClass (topS 4) 0) fI fd) (T : OexC K C) (nf : ∀ f : Str, f ∈ (["what"] : List Str) → PySem.W.findIn K (.ref C) f = some none) (P : Program) (w : World) (base : Heap) :
    FnOk P w K mg base CX0 1 fI fd ["self", "what"] (spI C ["what"]) := by
  have sc : FnScope ["self", "what"] ["self", "what"] (defScope (inClass (topS 4) 0)) := ⟨rfl, rfl, rfl, by decide +kernel, rfl, by decide +kernel, by decide +kernel⟩
  refine F.ok sc (fun vs H Q E h => ?_) (fun cdv A outer s H vs Q E hr h => ⟨_, (pss_one (ps_ost (pv 0) (pv 1))), ?_⟩)
  · obtain ⟨a, ws, rfl, hl, _⟩ := h
    rw [List.length_cons, hl]
    rfl
  obtain ⟨a, ws, rfl, hl, ha, k⟩ := h
  obtain ⟨v0, rfl⟩ : ∃ v0, ws = [v0] := match ws, hl with | [a], _ => ⟨a, rfl⟩
  have es : L2.start ["self", "what"] [V.ref a, v0] = [some (V.ref a), some v0] := rfl
  rw [es]
  walk_at "rds"
  refine rr_ostA T (nf _ (by simp)) rfl rfl ha fun d hd hn => ?_
  refine k d _ hd hn upd_same (by rw [upd_ne hn, upd_same]; rfl) fun b n1 n2 => by rw [upd_ne n1, upd_ne n2]
theorem ini_BadTree {K : PySem.W.Frag} {mg : Str → Option Value} {C fI : Addr} {fd : FuncData} (F : Fun K "__init__" "BadTree.__init__" (inClass (topS 5) 0) fI fd) (T : OexC K C) (nf : ∀ f : Str, f ∈ (["what"] : List Str) → PySem.W.findIn K (.ref C) f = some none) (P : Program) (w : World) (base : Heap) :
    FnOk P w K mg base CX0 1 fI fd ["self", "what"] (spI C ["what"]) := by
  have sc : FnScope ["self", "what"] ["self", "what"] (defScope (inClass (topS 5) 0)) := ⟨rfl, rfl, rfl, by decide +kernel, rfl, by decide +kernel, by decide +kernel⟩
  refine F.ok sc (fun vs H Q E h => ?_) (fun cdv A outer s H vs Q E hr h => ⟨_, (pss_one (ps_ost (pv 0) (pv 1))), ?_⟩)
  · obtain ⟨a, ws, rfl, hl, _⟩ := h
    rw [List.length_cons, hl]
    rfl
  obtain ⟨a, ws, rfl, hl, ha, k⟩ := h
  obtain ⟨v0, rfl⟩ : ∃ v0, ws = [v0] := match ws, hl with | [a], _ => ⟨a, rfl⟩
  have es : L2.start ["self", "what"] [V.ref a, v0] = [some (V.ref a), some v0] := rfl
  rw [es]
  walk_at "rds"
  refine rr_ostA T (nf _ (by simp)) rfl rfl ha fun d hd hn => ?_
  refine k d _ hd hn upd_same (by rw [upd_ne hn, upd_same]; rfl) fun b n1 n2 => by rw [upd_ne n1, upd_ne n2]
theorem ini_BadBook {K : PySem.W.Frag} {mg : Str → Option Value} {C fI : Addr} {fd : FuncData} (F : Fun K "__init__" "BadBook.__init__" (inClass (topS 6) 0) fI fd) (T : OexC K C) (nf : ∀ f : Str, f ∈ (["what"] : List Str) → PySem.W.findIn K (.ref C) f = some none) (P : Program) (w : World) (base : Heap) :
    FnOk P w K mg base CX0 1 fI fd ["self", "what"] (spI C ["what"]) := by
  have sc : FnScope ["self", "what"] ["self", "what"] (defScope (inClass (topS 6) 0)) := ⟨rfl, rfl, rfl, by decide +kernel, rfl, by decide +kernel, by decide +kernel⟩
  refine F.ok sc (fun vs H Q E h => ?_) (fun cdv A outer s H vs Q E hr h => ⟨_, (pss_one (ps_ost (pv 0) (pv 1))), ?_⟩)
  · obtain ⟨a, ws, rfl, hl, _⟩ := h
    rw [List.length_cons, hl]
    rfl
  obtain ⟨a, ws, rfl, hl, ha, k⟩ := h
  obtain ⟨v0, rfl⟩ : ∃ v0, ws = [v0] := match ws, hl with | [a], _ => ⟨a, rfl⟩
  have es : L2.start ["self", "what"] [V.ref a, v0] = [some (V.ref a), some v0] := rfl
  rw [es]
  walk_at "rds"
  refine rr_ostA T (nf _ (by simp)) rfl rfl ha fun d hd hn => ?_
  refine k d _ hd hn upd_same (by rw [upd_ne hn, upd_same]; rfl) fun b n1 n2 => by rw [upd_ne n1, upd_ne n2]
theorem ini_BadName {K : PySem.W.Frag} {mg : Str → Option Value} {C fI : Addr} {fd : FuncData} (F : Fun K "__init__" "BadName.__init__" (inClass (topS 7) 0) fI fd) (T : OexC K C) (nf : ∀ f : Str, f ∈ (["name"] : List Str) → PySem.W.findIn K (.ref C) f = some none) (P : Program) (w : World) (base : Heap) :
    FnOk P w K mg base CX0 1 fI fd ["self", "name"] (spI C ["name"]) := by
  have sc : FnScope ["self", "name"] ["self", "name"] (defScope (inClass (topS 7) 0)) := ⟨rfl, rfl, rfl, by decide +kernel, rfl, by decide +kernel, by decide +kernel⟩
  refine F.ok sc (fun vs H Q E h => ?_) (fun cdv A outer s H vs Q E hr h => ⟨_, (pss_one (ps_ost (pv 0) (pv 1))), ?_⟩)
  · obtain ⟨a, ws, rfl, hl, _⟩ := h
    rw [List.length_cons, hl]
    rfl
  obtain ⟨a, ws, rfl, hl, ha, k⟩ := h
  obtain ⟨v0, rfl⟩ : ∃ v0, ws = [v0] := match ws, hl with | [a], _ => ⟨a, rfl⟩
  have es : L2.start ["self", "name"] [V.ref a, v0] = [some (V.ref a), some v0] := rfl
  rw [es]
  walk_at "rds"
  refine rr_ostA T (nf _ (by simp)) rfl rfl ha fun d hd hn => ?_
  refine k d _ hd hn upd_same (by rw [upd_ne hn, upd_same]; rfl) fun b n1 n2 => by rw [upd_ne n1, upd_ne n2]
theorem ini_BadText {K : PySem.W.Frag} {mg : Str → Option Value} {C fI : Addr} {fd : FuncData} (F : Fun K "__init__" "BadText.__init__" (inClass (topS 8) 0) fI fd) (T : OexC K C) (nf : ∀ f : Str, f ∈ (["line", "word"] : List Str) → PySem.W.findIn K (.ref C) f = some none) (P : Program) (w : World) (base : Heap) :
    FnOk P w K mg base CX0 1 fI fd ["self", "line", "word"] (spI C ["line", "word"]) := by
  have sc : FnScope ["self", "line", "word"] ["self", "line", "word"] (defScope (inClass (topS 8) 0)) := ⟨rfl, rfl, rfl, by decide +kernel, rfl, by decide +kernel, by decide +kernel⟩
  refine F.ok sc (fun vs H Q E h => ?_) (fun cdv A outer s H vs Q E hr h => ⟨_, (pss_cons (ps_ost (pv 0) (pv 1)) (pss_one (ps_ost (pv 0) (pv 2)))), ?_⟩)
  · obtain ⟨a, ws, rfl, hl, _⟩ := h
    rw [List.length_cons, hl]
    rfl
  obtain ⟨a, ws, rfl, hl, ha, k⟩ := h
  obtain ⟨v0, v1, rfl⟩ : ∃ v0 v1, ws = [v0, v1] := match ws, hl with | [a, b], _ => ⟨a, b, rfl⟩
  have es : L2.start ["self", "line", "word"] [V.ref a, v0, v1] = [some (V.ref a), some v0, some v1] := rfl
  rw [es]
  walk_at "rds"
  refine rr_ostA T (nf _ (by simp)) rfl rfl ha fun d hd hn => ?_
  walk_at "rds"
  refine rr_ostB T (nf _ (by simp)) rfl rfl upd_same (by rw [upd_ne hn, upd_same]) (by simp) ?_
  refine k d _ hd hn (by rw [upd_ne (Ne.symm hn), upd_same]) (by rw [upd_same]; rfl) fun b n1 n2 => by rw [upd_ne n2, upd_ne n1, upd_ne n2]
theorem ini_NoPlace {K : PySem.W.Frag} {mg : Str → Option Value} {C fI : Addr} {fd : FuncData} (F : Fun K "__init__" "NoPlace.__init__" (inClass (topS 9) 0) fI fd) (T : OexC K C) (nf : ∀ f : Str, f ∈ (["what", "index"] : List Str) → PySem.W.findIn K (.ref C) f = some none) (P : Program) (w : World) (base : Heap) :
    FnOk P w K mg base CX0 1 fI fd ["self", "what", "index"] (spI C ["what", "index"]) := by
  have sc : FnScope ["self", "what", "index"] ["self", "what", "index"] (defScope (inClass (topS 9) 0)) := ⟨rfl, rfl, rfl, by decide +kernel, rfl, by decide +kernel, by decide +kernel⟩
  refine F.ok sc (fun vs H Q E h => ?_) (fun cdv A outer s H vs Q E hr h => ⟨_, (pss_cons (ps_ost (pv 0) (pv 1)) (pss_one (ps_ost (pv 0) (pv 2)))), ?_⟩)
  · obtain ⟨a, ws, rfl, hl, _⟩ := h
    rw [List.length_cons, hl]
    rfl
  obtain ⟨a, ws, rfl, hl, ha, k⟩ := h
  obtain ⟨v0, v1, rfl⟩ : ∃ v0 v1, ws = [v0, v1] := match ws, hl with | [a, b], _ => ⟨a, b, rfl⟩
  have es : L2.start ["self", "what", "index"] [V.ref a, v0, v1] = [some (V.ref a), some v0, some v1] := rfl
  rw [es]
  walk_at "rds"
  refine rr_ostA T (nf _ (by simp)) rfl rfl ha fun d hd hn => ?_
  walk_at "rds"
  refine rr_ostB T (nf _ (by simp)) rfl rfl upd_same (by rw [upd_ne hn, upd_same]) (by simp) ?_
  refine k d _ hd hn (by rw [upd_ne (Ne.symm hn), upd_same]) (by rw [upd_same]; rfl) fun b n1 n2 => by rw [upd_ne n2, upd_ne n1, upd_ne n2]
theorem ini_NoName {K : PySem.W.Frag} {mg : Str → Option Value} {C fI : Addr} {fd : FuncData} (F : Fun K "__init__" "NoName.__init__" (inClass (topS 10) 0) fI fd) (T : OexC K C) (nf : ∀ f : Str, f ∈ (["name"] : List Str) → PySem.W.findIn K (.ref C) f = some none) (P : Program) (w : World) (base : Heap) :
    FnOk P w K mg base CX0 1 fI fd ["self", "name"] (spI C ["name"]) := by
  have sc : FnScope ["self", "name"] ["self", "name"] (defScope (inClass (topS 10) 0)) := ⟨rfl, rfl, rfl, by decide +kernel, rfl, by decide +kernel, by decide +kernel⟩
  refine F.ok sc (fun vs H Q E h => ?_) (fun cdv A outer s H vs Q E hr h => ⟨_, (pss_one (ps_ost (pv 0) (pv 1))), ?_⟩)
  · obtain ⟨a, ws, rfl, hl, _⟩ := h
    rw [List.length_cons, hl]
    rfl
  obtain ⟨a, ws, rfl, hl, ha, k⟩ := h
  obtain ⟨v0, rfl⟩ : ∃ v0, ws = [v0] := match ws, hl with | [a], _ => ⟨a, rfl⟩
  have es : L2.start ["self", "name"] [V.ref a, v0] = [some (V.ref a), some v0] := rfl
  rw [es]
  walk_at "rds"
  refine rr_ostA T (nf _ (by simp)) rfl rfl ha fun d hd hn => ?_
  refine k d _ hd hn upd_same (by rw [upd_ne hn, upd_same]; rfl) fun b n1 n2 => by rw [upd_ne n1, upd_ne n2]
theorem ini_TakenName {K : PySem.W.Frag} {mg : Str → Option Value} {C fI : Addr} {fd : FuncData} (F : Fun K "__init__" "TakenName.__init__" (inClass (topS 11) 0) fI fd) (T : OexC K C) (nf : ∀ f : Str, f ∈ (["name"] : List Str) → PySem.W.findIn K (.ref C) f = some none) (P : Program) (w : World) (base : Heap) :
    FnOk P w K mg base CX0 1 fI fd ["self", "name"] (spI C ["name"]) := by
  have sc : FnScope ["self", "name"] ["self", "name"] (defScope (inClass (topS 11) 0)) := ⟨rfl, rfl, rfl, by decide +kernel, rfl, by decide +kernel, by decide +kernel⟩
  refine F.ok sc (fun vs H Q E h => ?_) (fun cdv A outer s H vs Q E hr h => ⟨_, (pss_one (ps_ost (pv 0) (pv 1))), ?_⟩)
  · obtain ⟨a, ws, rfl, hl, _⟩ := h
    rw [List.length_cons, hl]
    rfl
  obtain ⟨a, ws, rfl, hl, ha, k⟩ := h
  obtain ⟨v0, rfl⟩ : ∃ v0, ws = [v0] := match ws, hl with | [a], _ => ⟨a, rfl⟩
  have es : L2.start ["self", "name"] [V.ref a, v0] = [some (V.ref a), some v0] := rfl
  rw [es]
  walk_at "rds"
  refine rr_ostA T (nf _ (by simp)) rfl rfl ha fun d hd hn => ?_
  refine k d _ hd hn upd_same (by rw [upd_ne hn, upd_same]; rfl) fun b n1 n2 => by rw [upd_ne n1, upd_ne n2]
theorem ini_Unlike {K : PySem.W.Frag} {mg : Str → Option Value} {C fI : Addr} {fd : FuncData} (F : Fun K "__init__" "Unlike.__init__" (inClass (topS 12) 0) fI fd) (T : OexC K C) (nf : ∀ f : Str, f ∈ (["what"] : List Str) → PySem.W.findIn K (.ref C) f = some none) (P : Program) (w : World) (base : Heap) :
    FnOk P w K mg base CX0 1 fI fd ["self", "what"] (spI C ["what"]) := by
  have sc : FnScope ["self", "what"] ["self", "what"] (defScope (inClass (topS 12) 0)) := ⟨rfl, rfl, rfl, by decide +kernel, rfl, by decide +kernel, by decide +kernel⟩
  refine F.ok sc (fun vs H Q E h => ?_) (fun cdv A outer s H vs Q E hr h => ⟨_, (pss_one (ps_ost (pv 0) (pv 1))), ?_⟩)
  · obtain ⟨a, ws, rfl, hl, _⟩ := h
    rw [List.length_cons, hl]
    rfl
  obtain ⟨a, ws, rfl, hl, ha, k⟩ := h
  obtain ⟨v0, rfl⟩ : ∃ v0, ws = [v0] := match ws, hl with | [a], _ => ⟨a, rfl⟩
  have es : L2.start ["self", "what"] [V.ref a, v0] = [some (V.ref a), some v0] := rfl
  rw [es]
  walk_at "rds"
  refine rr_ostA T (nf _ (by simp)) rfl rfl ha fun d hd hn => ?_
  refine k d _ hd hn upd_same (by rw [upd_ne hn, upd_same]; rfl) fun b n1 n2 => by rw [upd_ne n1, upd_ne n2]
theorem ini_NotThere {K : PySem.W.Frag} {mg : Str → Option Value} {C fI : Addr} {fd : FuncData} (F : Fun K "__init__" "NotThere.__init__" (inClass (topS 13) 0) fI fd) (T : OexC K C) (nf : ∀ f : Str, f ∈ (["paper"] : List Str) → PySem.W.findIn K (.ref C) f = some none) (P : Program) (w : World) (base : Heap) :
    FnOk P w K mg base CX0 1 fI fd ["self", "paper"] (spI C ["paper"]) := by
  have sc : FnScope ["self", "paper"] ["self", "paper"] (defScope (inClass (topS 13) 0)) := ⟨rfl, rfl, rfl, by decide +kernel, rfl, by decide +kernel, by decide +kernel⟩
  refine F.ok sc (fun vs H Q E h => ?_) (fun cdv A outer s H vs Q E hr h => ⟨_, (pss_one (ps_ost (pv 0) (pv 1))), ?_⟩)
  · obtain ⟨a, ws, rfl, hl, _⟩ := h
    rw [List.length_cons, hl]
    rfl
  obtain ⟨a, ws, rfl, hl, ha, k⟩ := h
  obtain ⟨v0, rfl⟩ : ∃ v0, ws = [v0] := match ws, hl with | [a], _ => ⟨a, rfl⟩
  have es : L2.start ["self", "paper"] [V.ref a, v0] = [some (V.ref a), some v0] := rfl
  rw [es]
  walk_at "rds"
  refine rr_ostA T (nf _ (by simp)) rfl rfl ha fun d hd hn => ?_
  refine k d _ hd hn upd_same (by rw [upd_ne hn, upd_same]; rfl) fun b n1 n2 => by rw [upd_ne n1, upd_ne n2]
theorem ini_TooMany {K : PySem.W.Frag} {mg : Str → Option Value} {C fI : Addr} {fd : FuncData} (F : Fun K "__init__" "TooMany.__init__" (inClass (topS 14) 0) fI fd) (T : OexC K C) (nf : ∀ f : Str, f ∈ (["what", "many", "limit"] : List Str) → PySem.W.findIn K (.ref C) f = some none) (P : Program) (w : World) (base : Heap) :
    FnOk P w K mg base CX0 1 fI fd ["self", "what", "many", "limit"] (spI C ["what", "many", "limit"]) := by
  have sc : FnScope ["self", "what", "many", "limit"] ["self", "what", "many", "limit"] (defScope (inClass (topS 14) 0)) := ⟨rfl, rfl, rfl, by decide +kernel, rfl, by decide +kernel, by decide +kernel⟩
  refine F.ok sc (fun vs H Q E h => ?_) (fun cdv A outer s H vs Q E hr h => ⟨_, (pss_cons (ps_ost (pv 0) (pv 1)) (pss_cons (ps_ost (pv 0) (pv 2)) (pss_one (ps_ost (pv 0) (pv 3))))), ?_⟩)
  · obtain ⟨a, ws, rfl, hl, _⟩ := h
    rw [List.length_cons, hl]
    rfl
  obtain ⟨a, ws, rfl, hl, ha, k⟩ := h
  obtain ⟨v0, v1, v2, rfl⟩ : ∃ v0 v1 v2, ws = [v0, v1, v2] := match ws, hl with | [a, b, c], _ => ⟨a, b, c, rfl⟩
  have es : L2.start ["self", "what", "many", "limit"] [V.ref a, v0, v1, v2] = [some (V.ref a), some v0, some v1, some v2] := rfl
  rw [es]
  walk_at "rds"
  refine rr_ostA T (nf _ (by simp)) rfl rfl ha fun d hd hn => ?_
  walk_at "rds"
  refine rr_ostB T (nf _ (by simp)) rfl rfl upd_same (by rw [upd_ne hn, upd_same]) (by simp) ?_
  walk_at "rds"
  refine rr_ostB T (nf _ (by simp)) rfl rfl (by rw [upd_ne (Ne.symm hn), upd_same]) upd_same (by simp) ?_
  rw [upd_upd]
  refine k d _ hd hn (by rw [upd_ne (Ne.symm hn), upd_same]) (by rw [upd_same]; rfl) fun b n1 n2 => by rw [upd_ne n2, upd_ne n1, upd_ne n2]
theorem ini_NotKept {K : PySem.W.Frag} {mg : Str → Option Value} {C fI : Addr} {fd : FuncData} (F : Fun K "__init__" "NotKept.__init__" (inClass (topS 15) 0) fI fd) (T : OexC K C) (nf : ∀ f : Str, f ∈ (["promise", "witness"] : List Str) → PySem.W.findIn K (.ref C) f = some none) (P : Program) (w : World) (base : Heap) :
    FnOk P w K mg base CX0 1 fI fd ["self", "promise", "witness"] (spI C ["promise", "witness"]) := by
  have sc : FnScope ["self", "promise", "witness"] ["self", "promise", "witness"] (defScope (inClass (topS 15) 0)) := ⟨rfl, rfl, rfl, by decide +kernel, rfl, by decide +kernel, by decide +kernel⟩
  refine F.ok sc (fun vs H Q E h => ?_) (fun cdv A outer s H vs Q E hr h => ⟨_, (pss_cons (ps_ost (pv 0) (pv 1)) (pss_one (ps_ost (pv 0) (pv 2)))), ?_⟩)
  · obtain ⟨a, ws, rfl, hl, _⟩ := h
    rw [List.length_cons, hl]
    rfl
  obtain ⟨a, ws, rfl, hl, ha, k⟩ := h
  obtain ⟨v0, v1, rfl⟩ : ∃ v0 v1, ws = [v0, v1] := match ws, hl with | [a, b], _ => ⟨a, b, rfl⟩
  have es : L2.start ["self", "promise", "witness"] [V.ref a, v0, v1] = [some (V.ref a), some v0, some v1] := rfl
  rw [es]
  walk_at "rds"
  refine rr_ostA T (nf _ (by simp)) rfl rfl ha fun d hd hn => ?_
  walk_at "rds"
  refine rr_ostB T (nf _ (by simp)) rfl rfl upd_same (by rw [upd_ne hn, upd_same]) (by simp) ?_
  refine k d _ hd hn (by rw [upd_ne (Ne.symm hn), upd_same]) (by rw [upd_same]; rfl) fun b n1 n2 => by rw [upd_ne n2, upd_ne n1, upd_ne n2]
end K01
namespace K01
open PySem PySem.Spec PyProof.Rows L2 Lx
local macro_rules | `(tactic| walk_at "rd") => `(tactic| (with_reducible first
  | refine rr_seq ?_ | refine rr_asg ?_ | refine rr_n0 ?_ | refine rr_n1 ?_ | refine rr_n2 ?_ | refine rr_n3 ?_ | refine rr_n4 ?_ | refine rr_n5 ?_ | refine rr_n6 ?_ | refine rr_n7 ?_ | refine rr_n8 ?_ | refine rr_n9 ?_ | refine rr_n10 ?_ | refine rr_n11 ?_ | refine rr_n12 ?_ | refine rr_n13 ?_ | refine rr_drop ?_ | refine rr_ret ?_ | refine rr_ifs ?_ | refine rr_if ?_ | refine rr_test ?_ | refine rr_tB ?_ | refine rr_bl ?_
  | refine rr_and ?_ | refine rr_or ?_ | refine rr_not ?_ | refine rr_v0 ?_ | refine rr_v1 ?_ | refine rr_v2 ?_ | refine rr_v3 ?_ | refine rr_v4 ?_ | refine rr_v5 ?_ | refine rr_v6 ?_ | refine rr_v7 ?_ | refine rr_v8 ?_ | refine rr_v9 ?_ | refine rr_v10 ?_ | refine rr_v11 ?_ | refine rr_v12 ?_ | refine rr_v13 ?_ | refine rr_c ?_ | refine rr_op ?_ | refine rr_un ?_ | refine rr_i0 ?_ | refine rr_eqi ?_ | refine rr_nei ?_
  | refine rr_cons ?_ | refine rr_nil ?_ | refine rr_cb ?_ | refine rr_call ?_ | refine rr_tup ?_ | refine rr_lst ?_ | refine rr_lstN ?_ | refine rr_dget ?_ | refine rr_dput ?_ | refine rr_next ?_ | refine rr_int ?_ | refine rr_disp ?_ | refine rr_pcons ?_ | refine rr_pnil ?_ | refine rr_isN ?_ | refine rr_notN ?_ | refine rr_callR ?_ | refine rr_bm ?_ | refine rr_fldP ?_ | refine rr_rf ?_))
local macro_rules | `(tactic| walk_at "rds") => `(tactic| repeat walk_at "rd")

/-- the error of the kind k flies -/
def flies (Cs : Nat → Addr) (k : Nat) (a b c : V) (H : Hp) (E : XK) : Prop := if k < 14 then ∀ d, H d = none → E (.ref (Cs k)) (some d) (upd H d (.xd (fsOf k a b c))) else E (.ref (Cs k)) none H
/-- _law_raised, _law_raised_too: the errors of the kinds from lo on, below hi -/
def spRaised (Cs : Nat → Addr) (lo hi : Nat) : Sp := fun vs H Q E => ∃ (k : Nat) (a b c : V), vs = [.int k, a, b, c] ∧ k < 16 ∧ (lo ≤ k → k < hi → flies Cs k a b c H E) ∧ (¬ (lo ≤ k ∧ k < hi) → Q .non H)
section
variable {P : Program} {w : World} {K : PySem.W.Frag} {mg : Str → Option Value} {base : Heap} {S : Addr} {Cs : Nat → Addr}
abbrev s_law_raised : Stmt := topS 25
theorem sc_law_raised : FnScope ["kind", "one", "two", "three"] ["kind", "one", "two", "three"] (defScope s_law_raised) := ⟨rfl, rfl, rfl, by decide +kernel, rfl, by decide +kernel, by decide +kernel⟩
theorem d_law_raised (F : Has K mg "_law_raised" s_law_raised) (T : Tx K mg S Cs) : Keeps P w K mg base (L2.CX P w) 3 "_law_raised" ["kind", "one", "two", "three"] (spRaised Cs 0 8) := by
  refine keepX F (fun _ _ _ _ _ _ us hl => match us, hl with | [_, _, _, _], _ => rfl) sc_law_raised (fun vs H Q E h => ?_) (fun f cdv A outer s H vs Q E hr hg h => ?_)
  · obtain ⟨k, a, b, c, rfl, _⟩ := h
    rfl
  refine ⟨_, (pss_cons (ps_if (pt_cmpR op_eq (pv 0) pe_int (nomark _)) (pss_one (ps_rf (W := fun cls d _ H' => E cls d H') T.x0 hr (takes_of rfl rfl rfl rfl) (pa_cons (pv 1) (pa_cons (pv 2) pa_nil)))) pss_nil)
    (pss_cons (ps_if (pt_cmpR op_eq (pv 0) pe_int (nomark _)) (pss_one (ps_rf (W := fun cls d _ H' => E cls d H') T.x1 hr (takes_of rfl rfl rfl rfl) (pa_cons (pv 1) (pa_cons (pv 2) pa_nil)))) pss_nil)
    (pss_cons (ps_if (pt_cmpR op_eq (pv 0) pe_int (nomark _)) (pss_one (ps_rf (W := fun cls d _ H' => E cls d H') T.x2 hr (takes_of rfl rfl rfl rfl) (pa_cons (pv 1) pa_nil))) pss_nil)
    (pss_cons (ps_if (pt_cmpR op_eq (pv 0) pe_int (nomark _)) (pss_one (ps_rf (W := fun cls d _ H' => E cls d H') T.x3 hr (takes_of rfl rfl rfl rfl) (pa_cons (pv 1) pa_nil))) pss_nil)
    (pss_cons (ps_if (pt_cmpR op_eq (pv 0) pe_int (nomark _)) (pss_one (ps_rf (W := fun cls d _ H' => E cls d H') T.x4 hr (takes_of rfl rfl rfl rfl) (pa_cons (pv 1) pa_nil))) pss_nil)
    (pss_cons (ps_if (pt_cmpR op_eq (pv 0) pe_int (nomark _)) (pss_one (ps_rf (W := fun cls d _ H' => E cls d H') T.x5 hr (takes_of rfl rfl rfl rfl) (pa_cons (pv 1) pa_nil))) pss_nil)
    (pss_cons (ps_if (pt_cmpR op_eq (pv 0) pe_int (nomark _)) (pss_one (ps_rf (W := fun cls d _ H' => E cls d H') T.x6 hr (takes_of rfl rfl rfl rfl) (pa_cons (pv 1) (pa_cons (pv 2) pa_nil)))) pss_nil)
    (pss_one (ps_if (pt_cmpR op_eq (pv 0) pe_int (nomark _)) (pss_one (ps_rf (W := fun cls d _ H' => E cls d H') T.x7 hr (takes_of rfl rfl rfl rfl) (pa_cons (pv 1) (pa_cons (pv 2) pa_nil)))) pss_nil))))))))), ?_⟩
  obtain ⟨k, a, b, c, rfl, hk, hy, hn⟩ := h
  have es : L2.start ["kind", "one", "two", "three"] [V.int k, a, b, c] = [some (V.int k), some a, some b, some c] := rfl
  rw [es]
  walk_at "rds"
  refine rr_lt0 (fun h => ?_) (fun h0 => ?_)
  · obtain rfl : k = 0 := by omega
    have y := hy (by decide) (by decide)
    walk_at "rds"
    exact leafI_of rfl (by decide) fun d hd => y d hd
  walk_at "rds"
  refine rr_lt0 (fun h => ?_) (fun h1 => ?_)
  · obtain rfl : k = 1 := by omega
    have y := hy (by decide) (by decide)
    walk_at "rds"
    exact leafI_of rfl (by decide) fun d hd => y d hd
  walk_at "rds"
  refine rr_lt0 (fun h => ?_) (fun h2 => ?_)
  · obtain rfl : k = 2 := by omega
    have y := hy (by decide) (by decide)
    walk_at "rds"
    exact leafI_of rfl (by decide) fun d hd => y d hd
  walk_at "rds"
  refine rr_lt0 (fun h => ?_) (fun h3 => ?_)
  · obtain rfl : k = 3 := by omega
    have y := hy (by decide) (by decide)
    walk_at "rds"
    exact leafI_of rfl (by decide) fun d hd => y d hd
  walk_at "rds"
  refine rr_lt0 (fun h => ?_) (fun h4 => ?_)
  · obtain rfl : k = 4 := by omega
    have y := hy (by decide) (by decide)
    walk_at "rds"
    exact leafI_of rfl (by decide) fun d hd => y d hd
  walk_at "rds"
  refine rr_lt0 (fun h => ?_) (fun h5 => ?_)
  · obtain rfl : k = 5 := by omega
    have y := hy (by decide) (by decide)
    walk_at "rds"
    exact leafI_of rfl (by decide) fun d hd => y d hd
  walk_at "rds"
  refine rr_lt0 (fun h => ?_) (fun h6 => ?_)
  · obtain rfl : k = 6 := by omega
    have y := hy (by decide) (by decide)
    walk_at "rds"
    exact leafI_of rfl (by decide) fun d hd => y d hd
  walk_at "rds"
  refine rr_lt0 (fun h => ?_) (fun h7 => ?_)
  · obtain rfl : k = 7 := by omega
    have y := hy (by decide) (by decide)
    walk_at "rds"
    exact leafI_of rfl (by decide) fun d hd => y d hd
  exact hn (by omega)
abbrev s_law_raised_too : Stmt := topS 26
theorem sc_law_raised_too : FnScope ["kind", "one", "two", "three"] ["kind", "one", "two", "three"] (defScope s_law_raised_too) := ⟨rfl, rfl, rfl, by decide +kernel, rfl, by decide +kernel, by decide +kernel⟩
theorem d_law_raised_too (F : Has K mg "_law_raised_too" s_law_raised_too) (T : Tx K mg S Cs) : Keeps P w K mg base (L2.CX P w) 3 "_law_raised_too" ["kind", "one", "two", "three"] (spRaised Cs 8 16) := by
  refine keepX F (fun _ _ _ _ _ _ us hl => match us, hl with | [_, _, _, _], _ => rfl) sc_law_raised_too (fun vs H Q E h => ?_) (fun f cdv A outer s H vs Q E hr hg h => ?_)
  · obtain ⟨k, a, b, c, rfl, _⟩ := h
    rfl
  refine ⟨_, (pss_cons (ps_if (pt_cmpR op_eq (pv 0) pe_int (nomark _)) (pss_one (ps_rf (W := fun cls d _ H' => E cls d H') T.x8 hr (takes_of rfl rfl rfl rfl) (pa_cons (pv 1) pa_nil))) pss_nil)
    (pss_cons (ps_if (pt_cmpR op_eq (pv 0) pe_int (nomark _)) (pss_one (ps_rf (W := fun cls d _ H' => E cls d H') T.x9 hr (takes_of rfl rfl rfl rfl) (pa_cons (pv 1) pa_nil))) pss_nil)
    (pss_cons (ps_if (pt_cmpR op_eq (pv 0) pe_int (nomark _)) (pss_one (ps_rf (W := fun cls d _ H' => E cls d H') T.x10 hr (takes_of rfl rfl rfl rfl) (pa_cons (pv 1) pa_nil))) pss_nil)
    (pss_cons (ps_if (pt_cmpR op_eq (pv 0) pe_int (nomark _)) (pss_one (ps_rf (W := fun cls d _ H' => E cls d H') T.x11 hr (takes_of rfl rfl rfl rfl) (pa_cons (pv 1) pa_nil))) pss_nil)
    (pss_cons (ps_if (pt_cmpR op_eq (pv 0) pe_int (nomark _)) (pss_one (ps_rf (W := fun cls d _ H' => E cls d H') T.x12 hr (takes_of rfl rfl rfl rfl) (pa_cons (pv 1) (pa_cons (pv 2) (pa_cons (pv 3) pa_nil))))) pss_nil)
    (pss_cons (ps_if (pt_cmpR op_eq (pv 0) pe_int (nomark _)) (pss_one (ps_rf (W := fun cls d _ H' => E cls d H') T.x13 hr (takes_of rfl rfl rfl rfl) (pa_cons (pv 1) (pa_cons (pv 2) pa_nil)))) pss_nil)
    (pss_cons (ps_if (pt_cmpR op_eq (pv 0) pe_int (nomark _)) (pss_one (ps_rf0 (W := fun cls d _ H' => E cls d H') PySem.F.excBase_ValueError T.u14 T.g14 T.v14 (raises_own T.w14.1 T.w14.2) (takes_of rfl rfl rfl rfl))) pss_nil)
    (pss_one (ps_if (pt_cmpR op_eq (pv 0) pe_int (nomark _)) (pss_one (ps_rf0 (W := fun cls d _ H' => E cls d H') PySem.F.excBase_ValueError T.u15 T.g15 T.v15 (raises_own T.w15.1 T.w15.2) (takes_of rfl rfl rfl rfl))) pss_nil))))))))), ?_⟩
  obtain ⟨k, a, b, c, rfl, hk, hy, hn⟩ := h
  have es : L2.start ["kind", "one", "two", "three"] [V.int k, a, b, c] = [some (V.int k), some a, some b, some c] := rfl
  rw [es]
  walk_at "rds"
  refine rr_lt0 (fun h => ?_) (fun h8 => ?_)
  · obtain rfl : k = 8 := by omega
    have y := hy (by decide) (by decide)
    walk_at "rds"
    exact leafI_of rfl (by decide) fun d hd => y d hd
  walk_at "rds"
  refine rr_lt0 (fun h => ?_) (fun h9 => ?_)
  · obtain rfl : k = 9 := by omega
    have y := hy (by decide) (by decide)
    walk_at "rds"
    exact leafI_of rfl (by decide) fun d hd => y d hd
  walk_at "rds"
  refine rr_lt0 (fun h => ?_) (fun h10 => ?_)
  · obtain rfl : k = 10 := by omega
    have y := hy (by decide) (by decide)
    walk_at "rds"
    exact leafI_of rfl (by decide) fun d hd => y d hd
  walk_at "rds"
  refine rr_lt0 (fun h => ?_) (fun h11 => ?_)
  · obtain rfl : k = 11 := by omega
    have y := hy (by decide) (by decide)
    walk_at "rds"
    exact leafI_of rfl (by decide) fun d hd => y d hd
  walk_at "rds"
  refine rr_lt0 (fun h => ?_) (fun h12 => ?_)
  · obtain rfl : k = 12 := by omega
    have y := hy (by decide) (by decide)
    walk_at "rds"
    exact leafI_of rfl (by decide) fun d hd => y d hd
  walk_at "rds"
  refine rr_lt0 (fun h => ?_) (fun h13 => ?_)
  · obtain rfl : k = 13 := by omega
    have y := hy (by decide) (by decide)
    walk_at "rds"
    exact leafI_of rfl (by decide) fun d hd => y d hd
  walk_at "rds"
  refine rr_lt0 (fun h => ?_) (fun h14 => ?_)
  · obtain rfl : k = 14 := by omega
    have y := hy (by decide) (by decide)
    exact y
  walk_at "rds"
  refine rr_lt0 (fun h => ?_) (fun h15 => ?_)
  · obtain rfl : k = 15 := by omega
    have y := hy (by decide) (by decide)
    exact y
  exact hn (by omega)
end
end K01
namespace K01
open PySem PySem.Spec PyProof.Rows L2 Lx
local macro_rules | `(tactic| walk_at "rd") => `(tactic| (with_reducible first
  | refine rr_seq ?_ | refine rr_asg ?_ | refine rr_n0 ?_ | refine rr_n1 ?_ | refine rr_n2 ?_ | refine rr_n3 ?_ | refine rr_n4 ?_ | refine rr_n5 ?_ | refine rr_n6 ?_ | refine rr_n7 ?_ | refine rr_n8 ?_ | refine rr_n9 ?_ | refine rr_n10 ?_ | refine rr_n11 ?_ | refine rr_n12 ?_ | refine rr_n13 ?_ | refine rr_drop ?_ | refine rr_ret ?_ | refine rr_ifs ?_ | refine rr_if ?_ | refine rr_test ?_ | refine rr_tB ?_ | refine rr_bl ?_
  | refine rr_and ?_ | refine rr_or ?_ | refine rr_not ?_ | refine rr_v0 ?_ | refine rr_v1 ?_ | refine rr_v2 ?_ | refine rr_v3 ?_ | refine rr_v4 ?_ | refine rr_v5 ?_ | refine rr_v6 ?_ | refine rr_v7 ?_ | refine rr_v8 ?_ | refine rr_v9 ?_ | refine rr_v10 ?_ | refine rr_v11 ?_ | refine rr_v12 ?_ | refine rr_v13 ?_ | refine rr_c ?_ | refine rr_op ?_ | refine rr_un ?_ | refine rr_i0 ?_ | refine rr_eqi ?_ | refine rr_nei ?_
  | refine rr_cons ?_ | refine rr_nil ?_ | refine rr_cb ?_ | refine rr_call ?_ | refine rr_tup ?_ | refine rr_lst ?_ | refine rr_lstN ?_ | refine rr_dget ?_ | refine rr_dput ?_ | refine rr_next ?_ | refine rr_int ?_ | refine rr_disp ?_ | refine rr_pcons ?_ | refine rr_pnil ?_ | refine rr_isN ?_ | refine rr_notN ?_ | refine rr_callR ?_ | refine rr_bm ?_ | refine rr_fldP ?_ | refine rr_rf ?_))
local macro_rules | `(tactic| walk_at "rds") => `(tactic| repeat walk_at "rd")

/-- the exception at p is of the kind k, its fields data -/
def ErrIs (Cs : Nat → Addr) (H : Hp) (p : Addr × Obj) (k : Nat) (a b c : V) (d1 d2 d3 : PyData) : Prop := k < 16 ∧ ExcAt H p (Cs k) (fsOf k a b c) ∧ Rp H a d1 ∧ Rp H b d2 ∧ Rp H c d3 ∧ Fit 2 150 d1 ∧ Fit 2 150 d2 ∧ Fit 2 150 d3
/-- behind the looks for the kinds from lo on, below j: what the list at l holds -/
def StK (H : Hp) (l : Addr) (k lo j : Nat) (d1 d2 d3 : PyData) (H' : Hp) : Prop := ∃ L, H' l = some (.lst L) ∧ Same H H' ∧ ((lo ≤ k ∧ k < j ∧ ∃ t, L = [.ref t] ∧ Rp H' (.ref t) (due k d1 d2 d3)) ∨ (¬ (lo ≤ k ∧ k < j) ∧ L = []))
def spMore (Cs : Nat → Addr) (p : Addr × Obj) : Sp := fun vs H Q _ => vs = [.ref p.1] ∧ ∃ (k : Nat) (a b c : V) (d1 d2 d3 : PyData), ErrIs Cs H p k a b c d1 d2 d3 ∧
  ∀ (l : Addr) (H' : Hp), Same H H' → H l = none → ((8 ≤ k ∧ ∃ t, H' l = some (.lst [.ref t]) ∧ Rp H' (.ref t) (due k d1 d2 d3)) ∨ (k < 8 ∧ H' l = some (.lst []))) → Q (.ref l) H'
def spKinds (Cs : Nat → Addr) (p : Addr × Obj) : Sp := fun vs H Q _ => vs = [.ref p.1] ∧ ∃ (k : Nat) (a b c : V) (d1 d2 d3 : PyData), ErrIs Cs H p k a b c d1 d2 d3 ∧
  ∀ (l t : Addr) (H' : Hp), Same H H' → H' l = some (.lst [.ref t]) → Rp H' (.ref t) (due k d1 d2 d3) → Q (.ref l) H'
section
variable {P : Program} {w : World} {K : PySem.W.Frag} {mg : Str → Option Value} {base : Heap} {S : Addr} {Cs : Nat → Addr}
abbrev s_law_more_kinds : Stmt := topS 23
theorem sc_law_more_kinds : FnScope ["e", "found"] ["e"] (defScope s_law_more_kinds) := ⟨rfl, rfl, rfl, by decide +kernel, rfl, by decide +kernel, by decide +kernel⟩
theorem d_law_more_kinds (F : Has K mg "_law_more_kinds" s_law_more_kinds) (T : Tx K mg S Cs) : KeepsE P w K mg base 1 "_law_more_kinds" ["e"] (spMore Cs) := by
  refine keepE F (fun _ _ _ _ _ _ us hl => match us, hl with | [_], _ => rfl) sc_law_more_kinds (fun p vs H Q E h => ?_) (fun f cdv A outer s H vs Q E p hr hg h => ?_)
  · obtain ⟨rfl, _⟩ := h
    rfl
  have hu : (A.deeper (envOfC "_law_more_kinds" (defScope s_law_more_kinds) s.heap.objs.size f cdv)).units + 65 < cLine := by have := hr.un; omega
  have hp : p ∈ (L2H.cxH CX0 P w K mg base ["e", "found"] "_law_more_kinds" (defScope s_law_more_kinds) f cdv A outer s H E p).nox.pn := List.mem_cons_self
  refine ⟨_, (pss_cons (ps_set (i := 1) sc_law_more_kinds.nd rfl (.inl rfl) (pe_lst pa_nil))
    (pss_cons (ps_if (pt_val (pe_callB (call_isP hp) (by rfl) T.b.b_isinstance (by decide +kernel) (pa_cons (pv 0) (pa_cons (pe_glob (v := .ref (Cs 8)) rfl T.g8 rfl) pa_nil)))) (pss_one (ps_expr (pe_bm PySem.F.plainAttrs_list PySem.F.slot_list_append PySem.F.type_list_append mt_append (pv 1) (pa_cons (pe_tup (pa_cons pe_str (pa_cons (pe_callB (call_repr hg hu) (by rfl) T.b.b_repr (by decide +kernel) (pa_cons (pe_fldP hp (pv 0)) pa_nil)) pa_nil))) pa_nil)))) pss_nil)
    (pss_cons (ps_if (pt_val (pe_callB (call_isP hp) (by rfl) T.b.b_isinstance (by decide +kernel) (pa_cons (pv 0) (pa_cons (pe_glob (v := .ref (Cs 9)) rfl T.g9 rfl) pa_nil)))) (pss_one (ps_expr (pe_bm PySem.F.plainAttrs_list PySem.F.slot_list_append PySem.F.type_list_append mt_append (pv 1) (pa_cons (pe_tup (pa_cons pe_str (pa_cons (pe_callB (call_repr hg hu) (by rfl) T.b.b_repr (by decide +kernel) (pa_cons (pe_fldP hp (pv 0)) pa_nil)) pa_nil))) pa_nil)))) pss_nil)
    (pss_cons (ps_if (pt_val (pe_callB (call_isP hp) (by rfl) T.b.b_isinstance (by decide +kernel) (pa_cons (pv 0) (pa_cons (pe_glob (v := .ref (Cs 10)) rfl T.g10 rfl) pa_nil)))) (pss_one (ps_expr (pe_bm PySem.F.plainAttrs_list PySem.F.slot_list_append PySem.F.type_list_append mt_append (pv 1) (pa_cons (pe_tup (pa_cons pe_str (pa_cons (pe_fldP hp (pv 0)) pa_nil))) pa_nil)))) pss_nil)
    (pss_cons (ps_if (pt_val (pe_callB (call_isP hp) (by rfl) T.b.b_isinstance (by decide +kernel) (pa_cons (pv 0) (pa_cons (pe_glob (v := .ref (Cs 11)) rfl T.g11 rfl) pa_nil)))) (pss_one (ps_expr (pe_bm PySem.F.plainAttrs_list PySem.F.slot_list_append PySem.F.type_list_append mt_append (pv 1) (pa_cons (pe_tup (pa_cons pe_str (pa_cons (pe_fldP hp (pv 0)) pa_nil))) pa_nil)))) pss_nil)
    (pss_cons (ps_if (pt_val (pe_callB (call_isP hp) (by rfl) T.b.b_isinstance (by decide +kernel) (pa_cons (pv 0) (pa_cons (pe_glob (v := .ref (Cs 12)) rfl T.g12 rfl) pa_nil)))) (pss_one (ps_expr (pe_bm PySem.F.plainAttrs_list PySem.F.slot_list_append PySem.F.type_list_append mt_append (pv 1) (pa_cons (pe_tup (pa_cons pe_str (pa_cons (pe_fldP hp (pv 0)) (pa_cons (pe_fldP hp (pv 0)) (pa_cons (pe_fldP hp (pv 0)) pa_nil))))) pa_nil)))) pss_nil)
    (pss_cons (ps_if (pt_val (pe_callB (call_isP hp) (by rfl) T.b.b_isinstance (by decide +kernel) (pa_cons (pv 0) (pa_cons (pe_glob (v := .ref (Cs 13)) rfl T.g13 rfl) pa_nil)))) (pss_one (ps_expr (pe_bm PySem.F.plainAttrs_list PySem.F.slot_list_append PySem.F.type_list_append mt_append (pv 1) (pa_cons (pe_tup (pa_cons pe_str (pa_cons (pe_fldP hp (pv 0)) (pa_cons (pe_fldP hp (pv 0)) pa_nil)))) pa_nil)))) pss_nil)
    (pss_cons (ps_if (pt_val (pe_callB (call_isP hp) (by rfl) T.b.b_isinstance (by decide +kernel) (pa_cons (pv 0) (pa_cons (pe_glob (v := .ref (Cs 14)) rfl T.g14 rfl) pa_nil)))) (pss_one (ps_expr (pe_bm PySem.F.plainAttrs_list PySem.F.slot_list_append PySem.F.type_list_append mt_append (pv 1) (pa_cons (pe_tup (pa_cons pe_str pa_nil)) pa_nil)))) pss_nil)
    (pss_cons (ps_if (pt_val (pe_callB (call_isP hp) (by rfl) T.b.b_isinstance (by decide +kernel) (pa_cons (pv 0) (pa_cons (pe_glob (v := .ref (Cs 15)) rfl T.g15 rfl) pa_nil)))) (pss_one (ps_expr (pe_bm PySem.F.plainAttrs_list PySem.F.slot_list_append PySem.F.type_list_append mt_append (pv 1) (pa_cons (pe_tup (pa_cons pe_str pa_nil)) pa_nil)))) pss_nil)
    (pss_one (ps_ret (pv 1)))))))))))), ?_⟩
  obtain ⟨rfl, k, a, b, c, d1, d2, d3, ⟨hk, he, ra, rb, rc, fa, fb, fc⟩, fin⟩ := h
  have es : L2.start ["e", "found"] [V.ref p.1] = [some (V.ref p.1), none] := rfl
  rw [es]
  walk_at "rds"
  refine ⟨by show 0 ≤ sizeLine; decide, fun l hl0 => ?_⟩
  refine rr_n1 ?_
  have i8 : StK H l k 8 8 d1 d2 d3 (upd H l (.lst [])) := ⟨[], upd_same, sameNew hl0 _, .inr ⟨by omega, rfl⟩⟩
  generalize upd H l (.lst []) = H8 at i8 ⊢
  with_reducible refine rr_seqJ (fun z : Hp => StK H l k 8 9 d1 d2 d3 z) (fun _ => [some (V.ref p.1), some (V.ref l)]) (fun z => z) (fun H9 i9 => ?_) (fun rest => ?_)
  rotate_left
  · obtain ⟨L, hl, hS, hc⟩ := i8
    walk_at "rds"
    by_cases hkj : k = 8
    · subst hkj
      refine rr_isP (he.same hS) (T.xc 8 (by decide)) (T.self 8 (by decide)) (fun _ h => h) ?_
      walk_at "rds"
      refine iteT ?_
      have eL : L = [] := by
        rcases hc with ⟨h1, h2, _⟩ | ⟨_, h⟩
        · omega
        · exact h
      subst eL
      walk_at "rds"
      refine ⟨tyL hl, ?_⟩
      walk_at "rds"
      refine rr_fldL (he.same hS) (T.xc 8 (by decide)) (T.nf 8 (by decide) "name" (by simp [fnsOf])) rfl ?_
      walk_at "rds"
      refine rr_repr (ra.same hS) fa ?_
      walk_at "rds"
      refine ⟨by show 2 ≤ sizeLine; decide, fun t ht => ?_⟩
      walk_at "rds"
      have lt : l ≠ t := ne_of_none hl ht
      refine rr_app (by rw [upd_ne lt]; exact hl) (by show 0 < sizeLine; decide) ?_
      have s2 : Same H (upd (upd H8 t (.tup [.str "noname", .str d1.shown])) l (.lst ([] ++ [.ref t]))) := fun b o e => by
        rw [upd_ne (ne_of_none e hl0), upd_ne (ne_of_none (hS _ _ e) ht)]
        exact hS _ _ e
      exact rest _ ⟨[.ref t], upd_same, s2, .inl ⟨by decide, by decide, t, rfl, .tup (xs := [.str "noname", .str d1.shown]) (by rw [upd_ne (Ne.symm lt), upd_same]) (.cons (.str _) (.cons ((.str _)) .nil))⟩⟩
    · refine rr_isP (he.same hS) (T.xc k hk) (T.ne k 8 hk (by decide) hkj) (fun _ h => h) ?_
      walk_at "rds"
      refine iteF (rr_next ?_)
      refine rest H8 ⟨L, hl, hS, ?_⟩
      rcases hc with ⟨h1, h2, h3⟩ | ⟨h1, h3⟩
      · exact .inl ⟨h1, by omega, h3⟩
      · exact .inr ⟨by omega, h3⟩
  with_reducible refine rr_seqJ (fun z : Hp => StK H l k 8 10 d1 d2 d3 z) (fun _ => [some (V.ref p.1), some (V.ref l)]) (fun z => z) (fun H10 i10 => ?_) (fun rest => ?_)
  rotate_left
  · obtain ⟨L, hl, hS, hc⟩ := i9
    walk_at "rds"
    by_cases hkj : k = 9
    · subst hkj
      refine rr_isP (he.same hS) (T.xc 9 (by decide)) (T.self 9 (by decide)) (fun _ h => h) ?_
      walk_at "rds"
      refine iteT ?_
      have eL : L = [] := by
        rcases hc with ⟨h1, h2, _⟩ | ⟨_, h⟩
        · omega
        · exact h
      subst eL
      walk_at "rds"
      refine ⟨tyL hl, ?_⟩
      walk_at "rds"
      refine rr_fldL (he.same hS) (T.xc 9 (by decide)) (T.nf 9 (by decide) "name" (by simp [fnsOf])) rfl ?_
      walk_at "rds"
      refine rr_repr (ra.same hS) fa ?_
      walk_at "rds"
      refine ⟨by show 2 ≤ sizeLine; decide, fun t ht => ?_⟩
      walk_at "rds"
      have lt : l ≠ t := ne_of_none hl ht
      refine rr_app (by rw [upd_ne lt]; exact hl) (by show 0 < sizeLine; decide) ?_
      have s2 : Same H (upd (upd H9 t (.tup [.str "taken", .str d1.shown])) l (.lst ([] ++ [.ref t]))) := fun b o e => by
        rw [upd_ne (ne_of_none e hl0), upd_ne (ne_of_none (hS _ _ e) ht)]
        exact hS _ _ e
      exact rest _ ⟨[.ref t], upd_same, s2, .inl ⟨by decide, by decide, t, rfl, .tup (xs := [.str "taken", .str d1.shown]) (by rw [upd_ne (Ne.symm lt), upd_same]) (.cons (.str _) (.cons ((.str _)) .nil))⟩⟩
    · refine rr_isP (he.same hS) (T.xc k hk) (T.ne k 9 hk (by decide) hkj) (fun _ h => h) ?_
      walk_at "rds"
      refine iteF (rr_next ?_)
      refine rest H9 ⟨L, hl, hS, ?_⟩
      rcases hc with ⟨h1, h2, h3⟩ | ⟨h1, h3⟩
      · exact .inl ⟨h1, by omega, h3⟩
      · exact .inr ⟨by omega, h3⟩
  with_reducible refine rr_seqJ (fun z : Hp => StK H l k 8 11 d1 d2 d3 z) (fun _ => [some (V.ref p.1), some (V.ref l)]) (fun z => z) (fun H11 i11 => ?_) (fun rest => ?_)
  rotate_left
  · obtain ⟨L, hl, hS, hc⟩ := i10
    walk_at "rds"
    by_cases hkj : k = 10
    · subst hkj
      refine rr_isP (he.same hS) (T.xc 10 (by decide)) (T.self 10 (by decide)) (fun _ h => h) ?_
      walk_at "rds"
      refine iteT ?_
      have eL : L = [] := by
        rcases hc with ⟨h1, h2, _⟩ | ⟨_, h⟩
        · omega
        · exact h
      subst eL
      walk_at "rds"
      refine ⟨tyL hl, ?_⟩
      walk_at "rds"
      refine rr_fldL (he.same hS) (T.xc 10 (by decide)) (T.nf 10 (by decide) "what" (by simp [fnsOf])) rfl ?_
      walk_at "rds"
      refine ⟨by show 2 ≤ sizeLine; decide, fun t ht => ?_⟩
      walk_at "rds"
      have lt : l ≠ t := ne_of_none hl ht
      refine rr_app (by rw [upd_ne lt]; exact hl) (by show 0 < sizeLine; decide) ?_
      have s2 : Same H (upd (upd H10 t (.tup [.str "unlike", a])) l (.lst ([] ++ [.ref t]))) := fun b o e => by
        rw [upd_ne (ne_of_none e hl0), upd_ne (ne_of_none (hS _ _ e) ht)]
        exact hS _ _ e
      exact rest _ ⟨[.ref t], upd_same, s2, .inl ⟨by decide, by decide, t, rfl, .tup (xs := [.str "unlike", a]) (by rw [upd_ne (Ne.symm lt), upd_same]) (.cons (.str _) (.cons ((ra.same s2)) .nil))⟩⟩
    · refine rr_isP (he.same hS) (T.xc k hk) (T.ne k 10 hk (by decide) hkj) (fun _ h => h) ?_
      walk_at "rds"
      refine iteF (rr_next ?_)
      refine rest H10 ⟨L, hl, hS, ?_⟩
      rcases hc with ⟨h1, h2, h3⟩ | ⟨h1, h3⟩
      · exact .inl ⟨h1, by omega, h3⟩
      · exact .inr ⟨by omega, h3⟩
  with_reducible refine rr_seqJ (fun z : Hp => StK H l k 8 12 d1 d2 d3 z) (fun _ => [some (V.ref p.1), some (V.ref l)]) (fun z => z) (fun H12 i12 => ?_) (fun rest => ?_)
  rotate_left
  · obtain ⟨L, hl, hS, hc⟩ := i11
    walk_at "rds"
    by_cases hkj : k = 11
    · subst hkj
      refine rr_isP (he.same hS) (T.xc 11 (by decide)) (T.self 11 (by decide)) (fun _ h => h) ?_
      walk_at "rds"
      refine iteT ?_
      have eL : L = [] := by
        rcases hc with ⟨h1, h2, _⟩ | ⟨_, h⟩
        · omega
        · exact h
      subst eL
      walk_at "rds"
      refine ⟨tyL hl, ?_⟩
      walk_at "rds"
      refine rr_fldL (he.same hS) (T.xc 11 (by decide)) (T.nf 11 (by decide) "paper" (by simp [fnsOf])) rfl ?_
      walk_at "rds"
      refine ⟨by show 2 ≤ sizeLine; decide, fun t ht => ?_⟩
      walk_at "rds"
      have lt : l ≠ t := ne_of_none hl ht
      refine rr_app (by rw [upd_ne lt]; exact hl) (by show 0 < sizeLine; decide) ?_
      have s2 : Same H (upd (upd H11 t (.tup [.str "notthere", a])) l (.lst ([] ++ [.ref t]))) := fun b o e => by
        rw [upd_ne (ne_of_none e hl0), upd_ne (ne_of_none (hS _ _ e) ht)]
        exact hS _ _ e
      exact rest _ ⟨[.ref t], upd_same, s2, .inl ⟨by decide, by decide, t, rfl, .tup (xs := [.str "notthere", a]) (by rw [upd_ne (Ne.symm lt), upd_same]) (.cons (.str _) (.cons ((ra.same s2)) .nil))⟩⟩
    · refine rr_isP (he.same hS) (T.xc k hk) (T.ne k 11 hk (by decide) hkj) (fun _ h => h) ?_
      walk_at "rds"
      refine iteF (rr_next ?_)
      refine rest H11 ⟨L, hl, hS, ?_⟩
      rcases hc with ⟨h1, h2, h3⟩ | ⟨h1, h3⟩
      · exact .inl ⟨h1, by omega, h3⟩
      · exact .inr ⟨by omega, h3⟩
  with_reducible refine rr_seqJ (fun z : Hp => StK H l k 8 13 d1 d2 d3 z) (fun _ => [some (V.ref p.1), some (V.ref l)]) (fun z => z) (fun H13 i13 => ?_) (fun rest => ?_)
  rotate_left
  · obtain ⟨L, hl, hS, hc⟩ := i12
    walk_at "rds"
    by_cases hkj : k = 12
    · subst hkj
      refine rr_isP (he.same hS) (T.xc 12 (by decide)) (T.self 12 (by decide)) (fun _ h => h) ?_
      walk_at "rds"
      refine iteT ?_
      have eL : L = [] := by
        rcases hc with ⟨h1, h2, _⟩ | ⟨_, h⟩
        · omega
        · exact h
      subst eL
      walk_at "rds"
      refine ⟨tyL hl, ?_⟩
      walk_at "rds"
      refine rr_fldL (he.same hS) (T.xc 12 (by decide)) (T.nf 12 (by decide) "what" (by simp [fnsOf])) rfl ?_
      walk_at "rds"
      refine rr_fldL (he.same hS) (T.xc 12 (by decide)) (T.nf 12 (by decide) "many" (by simp [fnsOf])) rfl ?_
      walk_at "rds"
      refine rr_fldL (he.same hS) (T.xc 12 (by decide)) (T.nf 12 (by decide) "limit" (by simp [fnsOf])) rfl ?_
      walk_at "rds"
      refine ⟨by show 4 ≤ sizeLine; decide, fun t ht => ?_⟩
      walk_at "rds"
      have lt : l ≠ t := ne_of_none hl ht
      refine rr_app (by rw [upd_ne lt]; exact hl) (by show 0 < sizeLine; decide) ?_
      have s2 : Same H (upd (upd H12 t (.tup [.str "many", a, b, c])) l (.lst ([] ++ [.ref t]))) := fun b o e => by
        rw [upd_ne (ne_of_none e hl0), upd_ne (ne_of_none (hS _ _ e) ht)]
        exact hS _ _ e
      exact rest _ ⟨[.ref t], upd_same, s2, .inl ⟨by decide, by decide, t, rfl, .tup (xs := [.str "many", a, b, c]) (by rw [upd_ne (Ne.symm lt), upd_same]) (.cons (.str _) (.cons ((ra.same s2)) (.cons ((rb.same s2)) (.cons ((rc.same s2)) .nil))))⟩⟩
    · refine rr_isP (he.same hS) (T.xc k hk) (T.ne k 12 hk (by decide) hkj) (fun _ h => h) ?_
      walk_at "rds"
      refine iteF (rr_next ?_)
      refine rest H12 ⟨L, hl, hS, ?_⟩
      rcases hc with ⟨h1, h2, h3⟩ | ⟨h1, h3⟩
      · exact .inl ⟨h1, by omega, h3⟩
      · exact .inr ⟨by omega, h3⟩
  with_reducible refine rr_seqJ (fun z : Hp => StK H l k 8 14 d1 d2 d3 z) (fun _ => [some (V.ref p.1), some (V.ref l)]) (fun z => z) (fun H14 i14 => ?_) (fun rest => ?_)
  rotate_left
  · obtain ⟨L, hl, hS, hc⟩ := i13
    walk_at "rds"
    by_cases hkj : k = 13
    · subst hkj
      refine rr_isP (he.same hS) (T.xc 13 (by decide)) (T.self 13 (by decide)) (fun _ h => h) ?_
      walk_at "rds"
      refine iteT ?_
      have eL : L = [] := by
        rcases hc with ⟨h1, h2, _⟩ | ⟨_, h⟩
        · omega
        · exact h
      subst eL
      walk_at "rds"
      refine ⟨tyL hl, ?_⟩
      walk_at "rds"
      refine rr_fldL (he.same hS) (T.xc 13 (by decide)) (T.nf 13 (by decide) "promise" (by simp [fnsOf])) rfl ?_
      walk_at "rds"
      refine rr_fldL (he.same hS) (T.xc 13 (by decide)) (T.nf 13 (by decide) "witness" (by simp [fnsOf])) rfl ?_
      walk_at "rds"
      refine ⟨by show 3 ≤ sizeLine; decide, fun t ht => ?_⟩
      walk_at "rds"
      have lt : l ≠ t := ne_of_none hl ht
      refine rr_app (by rw [upd_ne lt]; exact hl) (by show 0 < sizeLine; decide) ?_
      have s2 : Same H (upd (upd H13 t (.tup [.str "kept", a, b])) l (.lst ([] ++ [.ref t]))) := fun b o e => by
        rw [upd_ne (ne_of_none e hl0), upd_ne (ne_of_none (hS _ _ e) ht)]
        exact hS _ _ e
      exact rest _ ⟨[.ref t], upd_same, s2, .inl ⟨by decide, by decide, t, rfl, .tup (xs := [.str "kept", a, b]) (by rw [upd_ne (Ne.symm lt), upd_same]) (.cons (.str _) (.cons ((ra.same s2)) (.cons ((rb.same s2)) .nil)))⟩⟩
    · refine rr_isP (he.same hS) (T.xc k hk) (T.ne k 13 hk (by decide) hkj) (fun _ h => h) ?_
      walk_at "rds"
      refine iteF (rr_next ?_)
      refine rest H13 ⟨L, hl, hS, ?_⟩
      rcases hc with ⟨h1, h2, h3⟩ | ⟨h1, h3⟩
      · exact .inl ⟨h1, by omega, h3⟩
      · exact .inr ⟨by omega, h3⟩
  with_reducible refine rr_seqJ (fun z : Hp => StK H l k 8 15 d1 d2 d3 z) (fun _ => [some (V.ref p.1), some (V.ref l)]) (fun z => z) (fun H15 i15 => ?_) (fun rest => ?_)
  rotate_left
  · obtain ⟨L, hl, hS, hc⟩ := i14
    walk_at "rds"
    by_cases hkj : k = 14
    · subst hkj
      refine rr_isP (he.same hS) (T.xc 14 (by decide)) (T.self 14 (by decide)) (fun _ h => h) ?_
      walk_at "rds"
      refine iteT ?_
      have eL : L = [] := by
        rcases hc with ⟨h1, h2, _⟩ | ⟨_, h⟩
        · omega
        · exact h
      subst eL
      walk_at "rds"
      refine ⟨tyL hl, ?_⟩
      walk_at "rds"
      refine ⟨by show 1 ≤ sizeLine; decide, fun t ht => ?_⟩
      walk_at "rds"
      have lt : l ≠ t := ne_of_none hl ht
      refine rr_app (by rw [upd_ne lt]; exact hl) (by show 0 < sizeLine; decide) ?_
      have s2 : Same H (upd (upd H14 t (.tup [.str "undo"])) l (.lst ([] ++ [.ref t]))) := fun b o e => by
        rw [upd_ne (ne_of_none e hl0), upd_ne (ne_of_none (hS _ _ e) ht)]
        exact hS _ _ e
      exact rest _ ⟨[.ref t], upd_same, s2, .inl ⟨by decide, by decide, t, rfl, .tup (xs := [.str "undo"]) (by rw [upd_ne (Ne.symm lt), upd_same]) (.cons (.str _) .nil)⟩⟩
    · refine rr_isP (he.same hS) (T.xc k hk) (T.ne k 14 hk (by decide) hkj) (fun _ h => h) ?_
      walk_at "rds"
      refine iteF (rr_next ?_)
      refine rest H14 ⟨L, hl, hS, ?_⟩
      rcases hc with ⟨h1, h2, h3⟩ | ⟨h1, h3⟩
      · exact .inl ⟨h1, by omega, h3⟩
      · exact .inr ⟨by omega, h3⟩
  with_reducible refine rr_seqJ (fun z : Hp => StK H l k 8 16 d1 d2 d3 z) (fun _ => [some (V.ref p.1), some (V.ref l)]) (fun z => z) (fun H16 i16 => ?_) (fun rest => ?_)
  rotate_left
  · obtain ⟨L, hl, hS, hc⟩ := i15
    walk_at "rds"
    by_cases hkj : k = 15
    · subst hkj
      refine rr_isP (he.same hS) (T.xc 15 (by decide)) (T.self 15 (by decide)) (fun _ h => h) ?_
      walk_at "rds"
      refine iteT ?_
      have eL : L = [] := by
        rcases hc with ⟨h1, h2, _⟩ | ⟨_, h⟩
        · omega
        · exact h
      subst eL
      walk_at "rds"
      refine ⟨tyL hl, ?_⟩
      walk_at "rds"
      refine ⟨by show 1 ≤ sizeLine; decide, fun t ht => ?_⟩
      walk_at "rds"
      have lt : l ≠ t := ne_of_none hl ht
      refine rr_app (by rw [upd_ne lt]; exact hl) (by show 0 < sizeLine; decide) ?_
      have s2 : Same H (upd (upd H15 t (.tup [.str "redo"])) l (.lst ([] ++ [.ref t]))) := fun b o e => by
        rw [upd_ne (ne_of_none e hl0), upd_ne (ne_of_none (hS _ _ e) ht)]
        exact hS _ _ e
      exact rest _ ⟨[.ref t], upd_same, s2, .inl ⟨by decide, by decide, t, rfl, .tup (xs := [.str "redo"]) (by rw [upd_ne (Ne.symm lt), upd_same]) (.cons (.str _) .nil)⟩⟩
    · refine rr_isP (he.same hS) (T.xc k hk) (T.ne k 15 hk (by decide) hkj) (fun _ h => h) ?_
      walk_at "rds"
      refine iteF (rr_next ?_)
      refine rest H15 ⟨L, hl, hS, ?_⟩
      rcases hc with ⟨h1, h2, h3⟩ | ⟨h1, h3⟩
      · exact .inl ⟨h1, by omega, h3⟩
      · exact .inr ⟨by omega, h3⟩
  obtain ⟨L, hl, hS, hc⟩ := i16
  walk_at "rds"
  refine fin l H16 hS hl0 ?_
  rcases hc with ⟨h1, h2, t, rfl, r⟩ | ⟨h1, rfl⟩
  · exact .inl ⟨h1, t, hl, r⟩
  · exact .inr ⟨by omega, hl⟩
abbrev s_law_kinds : Stmt := topS 22
theorem sc_law_kinds : FnScope ["e", "found"] ["e"] (defScope s_law_kinds) := ⟨rfl, rfl, rfl, by decide +kernel, rfl, by decide +kernel, by decide +kernel⟩
theorem d_law_kinds (F : Has K mg "_law_kinds" s_law_kinds) (T : Tx K mg S Cs) (DM : KeepsE P w K mg base 1 "_law_more_kinds" ["e"] (spMore Cs)) : KeepsE P w K mg base 2 "_law_kinds" ["e"] (spKinds Cs) := by
  refine keepE F (fun _ _ _ _ _ _ us hl => match us, hl with | [_], _ => rfl) sc_law_kinds (fun p vs H Q E h => ?_) (fun f cdv A outer s H vs Q E p hr hg h => ?_)
  · obtain ⟨rfl, _⟩ := h
    rfl
  have hu : (A.deeper (envOfC "_law_kinds" (defScope s_law_kinds) s.heap.objs.size f cdv)).units + 65 < cLine := by have := hr.un; omega
  have hp : p ∈ (L2H.cxH CX0 P w K mg base ["e", "found"] "_law_kinds" (defScope s_law_kinds) f cdv A outer s H E p).nox.pn := List.mem_cons_self
  refine ⟨_, (pss_cons (ps_set (i := 1) sc_law_kinds.nd rfl (.inl rfl) (pe_lst pa_nil))
    (pss_cons (ps_if (pt_val (pe_callB (call_isP hp) (by rfl) T.b.b_isinstance (by decide +kernel) (pa_cons (pv 0) (pa_cons (pe_glob (v := .ref (Cs 0)) rfl T.g0 rfl) pa_nil)))) (pss_one (ps_expr (pe_bm PySem.F.plainAttrs_list PySem.F.slot_list_append PySem.F.type_list_append mt_append (pv 1) (pa_cons (pe_tup (pa_cons pe_str (pa_cons (pe_fldP hp (pv 0)) (pa_cons (pe_callB (call_repr hg hu) (by rfl) T.b.b_repr (by decide +kernel) (pa_cons (pe_fldP hp (pv 0)) pa_nil)) pa_nil)))) pa_nil)))) pss_nil)
    (pss_cons (ps_if (pt_val (pe_callB (call_isP hp) (by rfl) T.b.b_isinstance (by decide +kernel) (pa_cons (pv 0) (pa_cons (pe_glob (v := .ref (Cs 1)) rfl T.g1 rfl) pa_nil)))) (pss_one (ps_expr (pe_bm PySem.F.plainAttrs_list PySem.F.slot_list_append PySem.F.type_list_append mt_append (pv 1) (pa_cons (pe_tup (pa_cons pe_str (pa_cons (pe_fldP hp (pv 0)) (pa_cons (pe_callB (call_repr hg hu) (by rfl) T.b.b_repr (by decide +kernel) (pa_cons (pe_fldP hp (pv 0)) pa_nil)) pa_nil)))) pa_nil)))) pss_nil)
    (pss_cons (ps_if (pt_val (pe_callB (call_isP hp) (by rfl) T.b.b_isinstance (by decide +kernel) (pa_cons (pv 0) (pa_cons (pe_glob (v := .ref (Cs 2)) rfl T.g2 rfl) pa_nil)))) (pss_one (ps_expr (pe_bm PySem.F.plainAttrs_list PySem.F.slot_list_append PySem.F.type_list_append mt_append (pv 1) (pa_cons (pe_tup (pa_cons pe_str (pa_cons (pe_fldP hp (pv 0)) pa_nil))) pa_nil)))) pss_nil)
    (pss_cons (ps_if (pt_val (pe_callB (call_isP hp) (by rfl) T.b.b_isinstance (by decide +kernel) (pa_cons (pv 0) (pa_cons (pe_glob (v := .ref (Cs 3)) rfl T.g3 rfl) pa_nil)))) (pss_one (ps_expr (pe_bm PySem.F.plainAttrs_list PySem.F.slot_list_append PySem.F.type_list_append mt_append (pv 1) (pa_cons (pe_tup (pa_cons pe_str (pa_cons (pe_fldP hp (pv 0)) pa_nil))) pa_nil)))) pss_nil)
    (pss_cons (ps_if (pt_val (pe_callB (call_isP hp) (by rfl) T.b.b_isinstance (by decide +kernel) (pa_cons (pv 0) (pa_cons (pe_glob (v := .ref (Cs 4)) rfl T.g4 rfl) pa_nil)))) (pss_one (ps_expr (pe_bm PySem.F.plainAttrs_list PySem.F.slot_list_append PySem.F.type_list_append mt_append (pv 1) (pa_cons (pe_tup (pa_cons pe_str (pa_cons (pe_fldP hp (pv 0)) pa_nil))) pa_nil)))) pss_nil)
    (pss_cons (ps_if (pt_val (pe_callB (call_isP hp) (by rfl) T.b.b_isinstance (by decide +kernel) (pa_cons (pv 0) (pa_cons (pe_glob (v := .ref (Cs 5)) rfl T.g5 rfl) pa_nil)))) (pss_one (ps_expr (pe_bm PySem.F.plainAttrs_list PySem.F.slot_list_append PySem.F.type_list_append mt_append (pv 1) (pa_cons (pe_tup (pa_cons pe_str (pa_cons (pe_callB (call_repr hg hu) (by rfl) T.b.b_repr (by decide +kernel) (pa_cons (pe_fldP hp (pv 0)) pa_nil)) pa_nil))) pa_nil)))) pss_nil)
    (pss_cons (ps_if (pt_val (pe_callB (call_isP hp) (by rfl) T.b.b_isinstance (by decide +kernel) (pa_cons (pv 0) (pa_cons (pe_glob (v := .ref (Cs 6)) rfl T.g6 rfl) pa_nil)))) (pss_one (ps_expr (pe_bm PySem.F.plainAttrs_list PySem.F.slot_list_append PySem.F.type_list_append mt_append (pv 1) (pa_cons (pe_tup (pa_cons pe_str (pa_cons (pe_fldP hp (pv 0)) (pa_cons (pe_fldP hp (pv 0)) pa_nil)))) pa_nil)))) pss_nil)
    (pss_cons (ps_if (pt_val (pe_callB (call_isP hp) (by rfl) T.b.b_isinstance (by decide +kernel) (pa_cons (pv 0) (pa_cons (pe_glob (v := .ref (Cs 7)) rfl T.g7 rfl) pa_nil)))) (pss_one (ps_expr (pe_bm PySem.F.plainAttrs_list PySem.F.slot_list_append PySem.F.type_list_append mt_append (pv 1) (pa_cons (pe_tup (pa_cons pe_str (pa_cons (pe_fldP hp (pv 0)) (pa_cons (pe_callB (call_repr hg hu) (by rfl) T.b.b_repr (by decide +kernel) (pa_cons (pe_fldP hp (pv 0)) pa_nil)) pa_nil)))) pa_nil)))) pss_nil)
    (pss_one (ps_ret (pe_op op_cat (pv 1) (pcE DM hr hg hp (pa_cons (pv 0) pa_nil)))))))))))))), ?_⟩
  obtain ⟨rfl, k, a, b, c, d1, d2, d3, ⟨hk, he, ra, rb, rc, fa, fb, fc⟩, fin⟩ := h
  have es : L2.start ["e", "found"] [V.ref p.1] = [some (V.ref p.1), none] := rfl
  rw [es]
  walk_at "rds"
  refine ⟨by show 0 ≤ sizeLine; decide, fun l hl0 => ?_⟩
  refine rr_n1 ?_
  have i0 : StK H l k 0 0 d1 d2 d3 (upd H l (.lst [])) := ⟨[], upd_same, sameNew hl0 _, .inr ⟨by omega, rfl⟩⟩
  generalize upd H l (.lst []) = H0 at i0 ⊢
  with_reducible refine rr_seqJ (fun z : Hp => StK H l k 0 1 d1 d2 d3 z) (fun _ => [some (V.ref p.1), some (V.ref l)]) (fun z => z) (fun H1 i1 => ?_) (fun rest => ?_)
  rotate_left
  · obtain ⟨L, hl, hS, hc⟩ := i0
    walk_at "rds"
    by_cases hkj : k = 0
    · subst hkj
      refine rr_isP (he.same hS) (T.xc 0 (by decide)) (T.self 0 (by decide)) (fun _ h => h) ?_
      walk_at "rds"
      refine iteT ?_
      have eL : L = [] := by
        rcases hc with ⟨h1, h2, _⟩ | ⟨_, h⟩
        · omega
        · exact h
      subst eL
      walk_at "rds"
      refine ⟨tyL hl, ?_⟩
      walk_at "rds"
      refine rr_fldL (he.same hS) (T.xc 0 (by decide)) (T.nf 0 (by decide) "what" (by simp [fnsOf])) rfl ?_
      walk_at "rds"
      refine rr_fldL (he.same hS) (T.xc 0 (by decide)) (T.nf 0 (by decide) "number" (by simp [fnsOf])) rfl ?_
      walk_at "rds"
      refine rr_repr (rb.same hS) fb ?_
      walk_at "rds"
      refine ⟨by show 3 ≤ sizeLine; decide, fun t ht => ?_⟩
      walk_at "rds"
      have lt : l ≠ t := ne_of_none hl ht
      refine rr_app (by rw [upd_ne lt]; exact hl) (by show 0 < sizeLine; decide) ?_
      have s2 : Same H (upd (upd H0 t (.tup [.str "number", a, .str d2.shown])) l (.lst ([] ++ [.ref t]))) := fun b o e => by
        rw [upd_ne (ne_of_none e hl0), upd_ne (ne_of_none (hS _ _ e) ht)]
        exact hS _ _ e
      exact rest _ ⟨[.ref t], upd_same, s2, .inl ⟨by decide, by decide, t, rfl, .tup (xs := [.str "number", a, .str d2.shown]) (by rw [upd_ne (Ne.symm lt), upd_same]) (.cons (.str _) (.cons ((ra.same s2)) (.cons ((.str _)) .nil)))⟩⟩
    · refine rr_isP (he.same hS) (T.xc k hk) (T.ne k 0 hk (by decide) hkj) (fun _ h => h) ?_
      walk_at "rds"
      refine iteF (rr_next ?_)
      refine rest H0 ⟨L, hl, hS, ?_⟩
      rcases hc with ⟨h1, h2, h3⟩ | ⟨h1, h3⟩
      · exact .inl ⟨h1, by omega, h3⟩
      · exact .inr ⟨by omega, h3⟩
  with_reducible refine rr_seqJ (fun z : Hp => StK H l k 0 2 d1 d2 d3 z) (fun _ => [some (V.ref p.1), some (V.ref l)]) (fun z => z) (fun H2 i2 => ?_) (fun rest => ?_)
  rotate_left
  · obtain ⟨L, hl, hS, hc⟩ := i1
    walk_at "rds"
    by_cases hkj : k = 1
    · subst hkj
      refine rr_isP (he.same hS) (T.xc 1 (by decide)) (T.self 1 (by decide)) (fun _ h => h) ?_
      walk_at "rds"
      refine iteT ?_
      have eL : L = [] := by
        rcases hc with ⟨h1, h2, _⟩ | ⟨_, h⟩
        · omega
        · exact h
      subst eL
      walk_at "rds"
      refine ⟨tyL hl, ?_⟩
      walk_at "rds"
      refine rr_fldL (he.same hS) (T.xc 1 (by decide)) (T.nf 1 (by decide) "what" (by simp [fnsOf])) rfl ?_
      walk_at "rds"
      refine rr_fldL (he.same hS) (T.xc 1 (by decide)) (T.nf 1 (by decide) "row" (by simp [fnsOf])) rfl ?_
      walk_at "rds"
      refine rr_repr (rb.same hS) fb ?_
      walk_at "rds"
      refine ⟨by show 3 ≤ sizeLine; decide, fun t ht => ?_⟩
      walk_at "rds"
      have lt : l ≠ t := ne_of_none hl ht
      refine rr_app (by rw [upd_ne lt]; exact hl) (by show 0 < sizeLine; decide) ?_
      have s2 : Same H (upd (upd H1 t (.tup [.str "row", a, .str d2.shown])) l (.lst ([] ++ [.ref t]))) := fun b o e => by
        rw [upd_ne (ne_of_none e hl0), upd_ne (ne_of_none (hS _ _ e) ht)]
        exact hS _ _ e
      exact rest _ ⟨[.ref t], upd_same, s2, .inl ⟨by decide, by decide, t, rfl, .tup (xs := [.str "row", a, .str d2.shown]) (by rw [upd_ne (Ne.symm lt), upd_same]) (.cons (.str _) (.cons ((ra.same s2)) (.cons ((.str _)) .nil)))⟩⟩
    · refine rr_isP (he.same hS) (T.xc k hk) (T.ne k 1 hk (by decide) hkj) (fun _ h => h) ?_
      walk_at "rds"
      refine iteF (rr_next ?_)
      refine rest H1 ⟨L, hl, hS, ?_⟩
      rcases hc with ⟨h1, h2, h3⟩ | ⟨h1, h3⟩
      · exact .inl ⟨h1, by omega, h3⟩
      · exact .inr ⟨by omega, h3⟩
  with_reducible refine rr_seqJ (fun z : Hp => StK H l k 0 3 d1 d2 d3 z) (fun _ => [some (V.ref p.1), some (V.ref l)]) (fun z => z) (fun H3 i3 => ?_) (fun rest => ?_)
  rotate_left
  · obtain ⟨L, hl, hS, hc⟩ := i2
    walk_at "rds"
    by_cases hkj : k = 2
    · subst hkj
      refine rr_isP (he.same hS) (T.xc 2 (by decide)) (T.self 2 (by decide)) (fun _ h => h) ?_
      walk_at "rds"
      refine iteT ?_
      have eL : L = [] := by
        rcases hc with ⟨h1, h2, _⟩ | ⟨_, h⟩
        · omega
        · exact h
      subst eL
      walk_at "rds"
      refine ⟨tyL hl, ?_⟩
      walk_at "rds"
      refine rr_fldL (he.same hS) (T.xc 2 (by decide)) (T.nf 2 (by decide) "what" (by simp [fnsOf])) rfl ?_
      walk_at "rds"
      refine ⟨by show 2 ≤ sizeLine; decide, fun t ht => ?_⟩
      walk_at "rds"
      have lt : l ≠ t := ne_of_none hl ht
      refine rr_app (by rw [upd_ne lt]; exact hl) (by show 0 < sizeLine; decide) ?_
      have s2 : Same H (upd (upd H2 t (.tup [.str "table", a])) l (.lst ([] ++ [.ref t]))) := fun b o e => by
        rw [upd_ne (ne_of_none e hl0), upd_ne (ne_of_none (hS _ _ e) ht)]
        exact hS _ _ e
      exact rest _ ⟨[.ref t], upd_same, s2, .inl ⟨by decide, by decide, t, rfl, .tup (xs := [.str "table", a]) (by rw [upd_ne (Ne.symm lt), upd_same]) (.cons (.str _) (.cons ((ra.same s2)) .nil))⟩⟩
    · refine rr_isP (he.same hS) (T.xc k hk) (T.ne k 2 hk (by decide) hkj) (fun _ h => h) ?_
      walk_at "rds"
      refine iteF (rr_next ?_)
      refine rest H2 ⟨L, hl, hS, ?_⟩
      rcases hc with ⟨h1, h2, h3⟩ | ⟨h1, h3⟩
      · exact .inl ⟨h1, by omega, h3⟩
      · exact .inr ⟨by omega, h3⟩
  with_reducible refine rr_seqJ (fun z : Hp => StK H l k 0 4 d1 d2 d3 z) (fun _ => [some (V.ref p.1), some (V.ref l)]) (fun z => z) (fun H4 i4 => ?_) (fun rest => ?_)
  rotate_left
  · obtain ⟨L, hl, hS, hc⟩ := i3
    walk_at "rds"
    by_cases hkj : k = 3
    · subst hkj
      refine rr_isP (he.same hS) (T.xc 3 (by decide)) (T.self 3 (by decide)) (fun _ h => h) ?_
      walk_at "rds"
      refine iteT ?_
      have eL : L = [] := by
        rcases hc with ⟨h1, h2, _⟩ | ⟨_, h⟩
        · omega
        · exact h
      subst eL
      walk_at "rds"
      refine ⟨tyL hl, ?_⟩
      walk_at "rds"
      refine rr_fldL (he.same hS) (T.xc 3 (by decide)) (T.nf 3 (by decide) "what" (by simp [fnsOf])) rfl ?_
      walk_at "rds"
      refine ⟨by show 2 ≤ sizeLine; decide, fun t ht => ?_⟩
      walk_at "rds"
      have lt : l ≠ t := ne_of_none hl ht
      refine rr_app (by rw [upd_ne lt]; exact hl) (by show 0 < sizeLine; decide) ?_
      have s2 : Same H (upd (upd H3 t (.tup [.str "tree", a])) l (.lst ([] ++ [.ref t]))) := fun b o e => by
        rw [upd_ne (ne_of_none e hl0), upd_ne (ne_of_none (hS _ _ e) ht)]
        exact hS _ _ e
      exact rest _ ⟨[.ref t], upd_same, s2, .inl ⟨by decide, by decide, t, rfl, .tup (xs := [.str "tree", a]) (by rw [upd_ne (Ne.symm lt), upd_same]) (.cons (.str _) (.cons ((ra.same s2)) .nil))⟩⟩
    · refine rr_isP (he.same hS) (T.xc k hk) (T.ne k 3 hk (by decide) hkj) (fun _ h => h) ?_
      walk_at "rds"
      refine iteF (rr_next ?_)
      refine rest H3 ⟨L, hl, hS, ?_⟩
      rcases hc with ⟨h1, h2, h3⟩ | ⟨h1, h3⟩
      · exact .inl ⟨h1, by omega, h3⟩
      · exact .inr ⟨by omega, h3⟩
  with_reducible refine rr_seqJ (fun z : Hp => StK H l k 0 5 d1 d2 d3 z) (fun _ => [some (V.ref p.1), some (V.ref l)]) (fun z => z) (fun H5 i5 => ?_) (fun rest => ?_)
  rotate_left
  · obtain ⟨L, hl, hS, hc⟩ := i4
    walk_at "rds"
    by_cases hkj : k = 4
    · subst hkj
      refine rr_isP (he.same hS) (T.xc 4 (by decide)) (T.self 4 (by decide)) (fun _ h => h) ?_
      walk_at "rds"
      refine iteT ?_
      have eL : L = [] := by
        rcases hc with ⟨h1, h2, _⟩ | ⟨_, h⟩
        · omega
        · exact h
      subst eL
      walk_at "rds"
      refine ⟨tyL hl, ?_⟩
      walk_at "rds"
      refine rr_fldL (he.same hS) (T.xc 4 (by decide)) (T.nf 4 (by decide) "what" (by simp [fnsOf])) rfl ?_
      walk_at "rds"
      refine ⟨by show 2 ≤ sizeLine; decide, fun t ht => ?_⟩
      walk_at "rds"
      have lt : l ≠ t := ne_of_none hl ht
      refine rr_app (by rw [upd_ne lt]; exact hl) (by show 0 < sizeLine; decide) ?_
      have s2 : Same H (upd (upd H4 t (.tup [.str "book", a])) l (.lst ([] ++ [.ref t]))) := fun b o e => by
        rw [upd_ne (ne_of_none e hl0), upd_ne (ne_of_none (hS _ _ e) ht)]
        exact hS _ _ e
      exact rest _ ⟨[.ref t], upd_same, s2, .inl ⟨by decide, by decide, t, rfl, .tup (xs := [.str "book", a]) (by rw [upd_ne (Ne.symm lt), upd_same]) (.cons (.str _) (.cons ((ra.same s2)) .nil))⟩⟩
    · refine rr_isP (he.same hS) (T.xc k hk) (T.ne k 4 hk (by decide) hkj) (fun _ h => h) ?_
      walk_at "rds"
      refine iteF (rr_next ?_)
      refine rest H4 ⟨L, hl, hS, ?_⟩
      rcases hc with ⟨h1, h2, h3⟩ | ⟨h1, h3⟩
      · exact .inl ⟨h1, by omega, h3⟩
      · exact .inr ⟨by omega, h3⟩
  with_reducible refine rr_seqJ (fun z : Hp => StK H l k 0 6 d1 d2 d3 z) (fun _ => [some (V.ref p.1), some (V.ref l)]) (fun z => z) (fun H6 i6 => ?_) (fun rest => ?_)
  rotate_left
  · obtain ⟨L, hl, hS, hc⟩ := i5
    walk_at "rds"
    by_cases hkj : k = 5
    · subst hkj
      refine rr_isP (he.same hS) (T.xc 5 (by decide)) (T.self 5 (by decide)) (fun _ h => h) ?_
      walk_at "rds"
      refine iteT ?_
      have eL : L = [] := by
        rcases hc with ⟨h1, h2, _⟩ | ⟨_, h⟩
        · omega
        · exact h
      subst eL
      walk_at "rds"
      refine ⟨tyL hl, ?_⟩
      walk_at "rds"
      refine rr_fldL (he.same hS) (T.xc 5 (by decide)) (T.nf 5 (by decide) "name" (by simp [fnsOf])) rfl ?_
      walk_at "rds"
      refine rr_repr (ra.same hS) fa ?_
      walk_at "rds"
      refine ⟨by show 2 ≤ sizeLine; decide, fun t ht => ?_⟩
      walk_at "rds"
      have lt : l ≠ t := ne_of_none hl ht
      refine rr_app (by rw [upd_ne lt]; exact hl) (by show 0 < sizeLine; decide) ?_
      have s2 : Same H (upd (upd H5 t (.tup [.str "badname", .str d1.shown])) l (.lst ([] ++ [.ref t]))) := fun b o e => by
        rw [upd_ne (ne_of_none e hl0), upd_ne (ne_of_none (hS _ _ e) ht)]
        exact hS _ _ e
      exact rest _ ⟨[.ref t], upd_same, s2, .inl ⟨by decide, by decide, t, rfl, .tup (xs := [.str "badname", .str d1.shown]) (by rw [upd_ne (Ne.symm lt), upd_same]) (.cons (.str _) (.cons ((.str _)) .nil))⟩⟩
    · refine rr_isP (he.same hS) (T.xc k hk) (T.ne k 5 hk (by decide) hkj) (fun _ h => h) ?_
      walk_at "rds"
      refine iteF (rr_next ?_)
      refine rest H5 ⟨L, hl, hS, ?_⟩
      rcases hc with ⟨h1, h2, h3⟩ | ⟨h1, h3⟩
      · exact .inl ⟨h1, by omega, h3⟩
      · exact .inr ⟨by omega, h3⟩
  with_reducible refine rr_seqJ (fun z : Hp => StK H l k 0 7 d1 d2 d3 z) (fun _ => [some (V.ref p.1), some (V.ref l)]) (fun z => z) (fun H7 i7 => ?_) (fun rest => ?_)
  rotate_left
  · obtain ⟨L, hl, hS, hc⟩ := i6
    walk_at "rds"
    by_cases hkj : k = 6
    · subst hkj
      refine rr_isP (he.same hS) (T.xc 6 (by decide)) (T.self 6 (by decide)) (fun _ h => h) ?_
      walk_at "rds"
      refine iteT ?_
      have eL : L = [] := by
        rcases hc with ⟨h1, h2, _⟩ | ⟨_, h⟩
        · omega
        · exact h
      subst eL
      walk_at "rds"
      refine ⟨tyL hl, ?_⟩
      walk_at "rds"
      refine rr_fldL (he.same hS) (T.xc 6 (by decide)) (T.nf 6 (by decide) "line" (by simp [fnsOf])) rfl ?_
      walk_at "rds"
      refine rr_fldL (he.same hS) (T.xc 6 (by decide)) (T.nf 6 (by decide) "word" (by simp [fnsOf])) rfl ?_
      walk_at "rds"
      refine ⟨by show 3 ≤ sizeLine; decide, fun t ht => ?_⟩
      walk_at "rds"
      have lt : l ≠ t := ne_of_none hl ht
      refine rr_app (by rw [upd_ne lt]; exact hl) (by show 0 < sizeLine; decide) ?_
      have s2 : Same H (upd (upd H6 t (.tup [.str "text", a, b])) l (.lst ([] ++ [.ref t]))) := fun b o e => by
        rw [upd_ne (ne_of_none e hl0), upd_ne (ne_of_none (hS _ _ e) ht)]
        exact hS _ _ e
      exact rest _ ⟨[.ref t], upd_same, s2, .inl ⟨by decide, by decide, t, rfl, .tup (xs := [.str "text", a, b]) (by rw [upd_ne (Ne.symm lt), upd_same]) (.cons (.str _) (.cons ((ra.same s2)) (.cons ((rb.same s2)) .nil)))⟩⟩
    · refine rr_isP (he.same hS) (T.xc k hk) (T.ne k 6 hk (by decide) hkj) (fun _ h => h) ?_
      walk_at "rds"
      refine iteF (rr_next ?_)
      refine rest H6 ⟨L, hl, hS, ?_⟩
      rcases hc with ⟨h1, h2, h3⟩ | ⟨h1, h3⟩
      · exact .inl ⟨h1, by omega, h3⟩
      · exact .inr ⟨by omega, h3⟩
  with_reducible refine rr_seqJ (fun z : Hp => StK H l k 0 8 d1 d2 d3 z) (fun _ => [some (V.ref p.1), some (V.ref l)]) (fun z => z) (fun H8 i8 => ?_) (fun rest => ?_)
  rotate_left
  · obtain ⟨L, hl, hS, hc⟩ := i7
    walk_at "rds"
    by_cases hkj : k = 7
    · subst hkj
      refine rr_isP (he.same hS) (T.xc 7 (by decide)) (T.self 7 (by decide)) (fun _ h => h) ?_
      walk_at "rds"
      refine iteT ?_
      have eL : L = [] := by
        rcases hc with ⟨h1, h2, _⟩ | ⟨_, h⟩
        · omega
        · exact h
      subst eL
      walk_at "rds"
      refine ⟨tyL hl, ?_⟩
      walk_at "rds"
      refine rr_fldL (he.same hS) (T.xc 7 (by decide)) (T.nf 7 (by decide) "what" (by simp [fnsOf])) rfl ?_
      walk_at "rds"
      refine rr_fldL (he.same hS) (T.xc 7 (by decide)) (T.nf 7 (by decide) "index" (by simp [fnsOf])) rfl ?_
      walk_at "rds"
      refine rr_repr (rb.same hS) fb ?_
      walk_at "rds"
      refine ⟨by show 3 ≤ sizeLine; decide, fun t ht => ?_⟩
      walk_at "rds"
      have lt : l ≠ t := ne_of_none hl ht
      refine rr_app (by rw [upd_ne lt]; exact hl) (by show 0 < sizeLine; decide) ?_
      have s2 : Same H (upd (upd H7 t (.tup [.str "place", a, .str d2.shown])) l (.lst ([] ++ [.ref t]))) := fun b o e => by
        rw [upd_ne (ne_of_none e hl0), upd_ne (ne_of_none (hS _ _ e) ht)]
        exact hS _ _ e
      exact rest _ ⟨[.ref t], upd_same, s2, .inl ⟨by decide, by decide, t, rfl, .tup (xs := [.str "place", a, .str d2.shown]) (by rw [upd_ne (Ne.symm lt), upd_same]) (.cons (.str _) (.cons ((ra.same s2)) (.cons ((.str _)) .nil)))⟩⟩
    · refine rr_isP (he.same hS) (T.xc k hk) (T.ne k 7 hk (by decide) hkj) (fun _ h => h) ?_
      walk_at "rds"
      refine iteF (rr_next ?_)
      refine rest H7 ⟨L, hl, hS, ?_⟩
      rcases hc with ⟨h1, h2, h3⟩ | ⟨h1, h3⟩
      · exact .inl ⟨h1, by omega, h3⟩
      · exact .inr ⟨by omega, h3⟩
  obtain ⟨L, hl, hS, hc⟩ := i8
  walk_at "rds"
  refine ⟨rfl, k, a, b, c, d1, d2, d3, ⟨hk, he.same hS, ra.same hS, rb.same hS, rc.same hS, fa, fb, fc⟩, fun l2 H9 s9 hn9 h9 => ?_⟩
  have n2 : l2 ≠ l := fun z => by rw [z, hl] at hn9; cases hn9
  have hl9 := s9 _ _ hl
  rcases h9 with ⟨h1, t, e2, r⟩ | ⟨h1, e2⟩
  · have eL : L = [] := by
      rcases hc with ⟨_, h2, _⟩ | ⟨_, h⟩
      · omega
      · exact h
    subst eL
    refine rr_cat hl9 e2 (by show 0 + 1 ≤ sizeLine; decide) fun q hq => ?_
    exact fin q t _ ((hS.trans s9).trans (sameNew hq _)) upd_same (r.same (sameNew hq _))
  · rcases hc with ⟨_, _, t, rfl, r⟩ | ⟨h2, _⟩
    · refine rr_cat hl9 e2 (by show 1 + 0 ≤ sizeLine; decide) fun q hq => ?_
      exact fin q t _ ((hS.trans s9).trans (sameNew hq _)) upd_same ((r.same s9).same (sameNew hq _))
    · omega
end
end K01
namespace K01
open PySem PySem.Spec PyProof.Rows L2 Lx
local macro_rules | `(tactic| walk_at "rd") => `(tactic| (with_reducible first
  | refine rr_seq ?_ | refine rr_asg ?_ | refine rr_n0 ?_ | refine rr_n1 ?_ | refine rr_n2 ?_ | refine rr_n3 ?_ | refine rr_n4 ?_ | refine rr_n5 ?_ | refine rr_n6 ?_ | refine rr_n7 ?_ | refine rr_n8 ?_ | refine rr_n9 ?_ | refine rr_n10 ?_ | refine rr_n11 ?_ | refine rr_n12 ?_ | refine rr_n13 ?_ | refine rr_drop ?_ | refine rr_ret ?_ | refine rr_ifs ?_ | refine rr_if ?_ | refine rr_test ?_ | refine rr_tB ?_ | refine rr_bl ?_
  | refine rr_and ?_ | refine rr_or ?_ | refine rr_not ?_ | refine rr_v0 ?_ | refine rr_v1 ?_ | refine rr_v2 ?_ | refine rr_v3 ?_ | refine rr_v4 ?_ | refine rr_v5 ?_ | refine rr_v6 ?_ | refine rr_v7 ?_ | refine rr_v8 ?_ | refine rr_v9 ?_ | refine rr_v10 ?_ | refine rr_v11 ?_ | refine rr_v12 ?_ | refine rr_v13 ?_ | refine rr_c ?_ | refine rr_op ?_ | refine rr_un ?_ | refine rr_i0 ?_ | refine rr_eqi ?_ | refine rr_nei ?_
  | refine rr_cons ?_ | refine rr_nil ?_ | refine rr_cb ?_ | refine rr_call ?_ | refine rr_tup ?_ | refine rr_lst ?_ | refine rr_lstN ?_ | refine rr_dget ?_ | refine rr_dput ?_ | refine rr_next ?_ | refine rr_int ?_ | refine rr_disp ?_ | refine rr_pcons ?_ | refine rr_pnil ?_ | refine rr_isN ?_ | refine rr_notN ?_ | refine rr_callR ?_ | refine rr_bm ?_ | refine rr_fldP ?_ | refine rr_rf ?_))
local macro_rules | `(tactic| walk_at "rds") => `(tactic| repeat walk_at "rd")

abbrev s_law_due_fields : Stmt := topS 28
theorem sc_law_due_fields : FnScope ["kind", "one", "two", "three", "words"] ["kind", "one", "two", "three"] (defScope s_law_due_fields) := ⟨rfl, rfl, rfl, by decide +kernel, rfl, by decide +kernel, by decide +kernel⟩
/-- _law_due_fields(kind, one, two, three) -/
def spDue : Sp := fun vs H Q _ => ∃ (k : Nat) (a b c : V) (d1 d2 d3 : PyData), vs = [.int k, a, b, c] ∧ k < 16 ∧ Rp H a d1 ∧ Rp H b d2 ∧ Rp H c d3 ∧ Fit 2 150 d1 ∧ Fit 2 150 d2 ∧ Fit 2 150 d3 ∧
  ∀ (t : Addr) (H' : Hp), Same H H' → Rp H' (.ref t) (due k d1 d2 d3) → Q (.ref t) H'
theorem ifT {b : Bool} {A B : Prop} (hb : b = true) (h : A) : if b = true then A else B := by rw [if_pos hb]; exact h
theorem ifF {b : Bool} {A B : Prop} (hb : b = false) (h : B) : if b = true then A else B := by rw [hb, if_neg Bool.false_ne_true]; exact h
theorem rr_in {K : PySem.W.Frag} {H : Hp} {x : V} {p : Addr} {xs : List V} {Q : VK} (e : H p = some (.tup xs)) (h1 : flatV x = true) (h2 : xs.all flatV = true) (h : Q (.bl (inV x xs)) H) : rIn K false x (.ref p) H Q := ⟨p, xs, rfl, .inr (sqT e), h1, h2, h⟩
section
variable {P : Program} {w : World} {K : PySem.W.Frag} {mg : Str → Option Value} {base : Heap} {S : Addr} {Cs : Nat → Addr}
theorem d_due (F : Has K mg "_law_due_fields" s_law_due_fields) (T : Blt mg) : Keeps P w K mg base CX0 1 "_law_due_fields" ["kind", "one", "two", "three"] spDue := by
  refine keep0 F (fun _ _ _ _ _ _ us hl => match us, hl with | [_, _, _, _], _ => rfl) sc_law_due_fields (fun vs H Q E h => ?_) (fun f cdv A outer s H vs Q E hr hg h => ?_)
  · obtain ⟨k, a, b, c, d1, d2, d3, rfl, _⟩ := h
    rfl
  have hu : (A.deeper (envOfC "_law_due_fields" (defScope s_law_due_fields) s.heap.objs.size f cdv)).units + 65 < cLine := by have := hr.un; omega
  refine ⟨_, (pss_cons (ps_set (i := 4) sc_law_due_fields.nd rfl (.inl rfl) (pe_lst (pa_cons pe_str (pa_cons pe_str (pa_cons pe_str (pa_cons pe_str (pa_cons pe_str (pa_cons pe_str (pa_cons pe_str (pa_cons pe_str (pa_cons pe_str (pa_cons pe_str (pa_cons pe_str (pa_cons pe_str pa_nil))))))))))))))
    (pss_cons (ps_set (i := 4) sc_law_due_fields.nd rfl (.inl rfl) (pe_op op_cat (pv 4) (pe_lst (pa_cons pe_str (pa_cons pe_str (pa_cons pe_str (pa_cons pe_str pa_nil)))))))
    (pss_cons (ps_if (pt_cmpR op_in_seq (pv 0) (pe_tup (pa_cons pe_int (pa_cons pe_int (pa_cons pe_int pa_nil)))) (by rfl)) (pss_one (ps_ret (pe_tup (pa_cons (pe_ix ix_list (pv 4) (pv 0) (fun _ _ => rfl)) (pa_cons (pv 1) (pa_cons (pe_callB (call_repr hg hu) (by rfl) T.b_repr (by decide +kernel) (pa_cons (pv 2) pa_nil)) pa_nil)))))) pss_nil)
    (pss_cons (ps_if (pt_cmpR op_in_seq (pv 0) (pe_tup (pa_cons pe_int (pa_cons pe_int (pa_cons pe_int (pa_cons pe_int (pa_cons pe_int pa_nil)))))) (by rfl)) (pss_one (ps_ret (pe_tup (pa_cons (pe_ix ix_list (pv 4) (pv 0) (fun _ _ => rfl)) (pa_cons (pv 1) pa_nil))))) pss_nil)
    (pss_cons (ps_if (pt_cmpR op_in_seq (pv 0) (pe_tup (pa_cons pe_int (pa_cons pe_int (pa_cons pe_int pa_nil)))) (by rfl)) (pss_one (ps_ret (pe_tup (pa_cons (pe_ix ix_list (pv 4) (pv 0) (fun _ _ => rfl)) (pa_cons (pe_callB (call_repr hg hu) (by rfl) T.b_repr (by decide +kernel) (pa_cons (pv 1) pa_nil)) pa_nil))))) pss_nil)
    (pss_cons (ps_if (pt_cmpR op_in_seq (pv 0) (pe_tup (pa_cons pe_int (pa_cons pe_int pa_nil))) (by rfl)) (pss_one (ps_ret (pe_tup (pa_cons (pe_ix ix_list (pv 4) (pv 0) (fun _ _ => rfl)) (pa_cons (pv 1) (pa_cons (pv 2) pa_nil)))))) pss_nil)
    (pss_one (ps_ret (pe_ifExp (pt_cmpR op_eq (pv 0) pe_int (nomark _)) (pe_tup (pa_cons (pe_ix ix_list (pv 4) (pv 0) (fun _ _ => rfl)) (pa_cons (pv 1) (pa_cons (pv 2) (pa_cons (pv 3) pa_nil))))) (pe_tup (pa_cons (pe_ix ix_list (pv 4) (pv 0) (fun _ _ => rfl)) pa_nil))))))))))), ?_⟩
  obtain ⟨k, a, b, c, d1, d2, d3, rfl, hk, ra, rb, rc, fa, fb, fc, fin⟩ := h
  have es : L2.start ["kind", "one", "two", "three", "words"] [V.int k, a, b, c] = [some (V.int k), some a, some b, some c, none] := rfl
  rw [es]
  walk_at "rds"
  refine ⟨by show 12 ≤ sizeLine; decide, fun w1 h1 => ?_⟩
  walk_at "rds"
  refine ⟨by show 4 ≤ sizeLine; decide, fun w2 h2 => ?_⟩
  have n12 : w1 ≠ w2 := fun z => by rw [← z, upd_same] at h2; cases h2
  refine rr_cat (by rw [upd_ne n12, upd_same]) upd_same (by show 12 + 4 ≤ sizeLine; decide) fun w3 h3 => ?_
  refine rr_n4 ?_
  have s0 := ((sameNew h1 _).trans (sameNew h2 _)).trans (sameNew h3 (.lst ([.str "number", .str "row", .str "table", .str "tree", .str "book", .str "badname", .str "text", .str "place", .str "noname", .str "taken", .str "unlike", .str "notthere"] ++ [.str "many", .str "kept", .str "undo", .str "redo"])))
  generalize hH : upd (upd (upd H w1 _) w2 _) w3 _ = H1 at s0 ⊢
  have hw : H1 w3 = some (.lst [.str "number", .str "row", .str "table", .str "tree", .str "book", .str "badname", .str "text", .str "place", .str "noname", .str "taken", .str "unlike", .str "notthere", .str "many", .str "kept", .str "undo", .str "redo"]) := by rw [← hH, upd_same]; rfl
  clear hH h1 h2 h3 n12
  replace ra := ra.same s0
  replace rb := rb.same s0
  replace rc := rc.same s0
  replace fin : ∀ (t : Addr) (H' : Hp), Same H1 H' → Rp H' (.ref t) (due k d1 d2 d3) → Q (.ref t) H' := fun t H' z => fin t H' (s0.trans z)
  have hcase : k = 0 ∨ k = 1 ∨ k = 2 ∨ k = 3 ∨ k = 4 ∨ k = 5 ∨ k = 6 ∨ k = 7 ∨ k = 8 ∨ k = 9 ∨ k = 10 ∨ k = 11 ∨ k = 12 ∨ k = 13 ∨ k = 14 ∨ k = 15 := by omega
  rcases hcase with rfl | rfl | rfl | rfl | rfl | rfl | rfl | rfl | rfl | rfl | rfl | rfl | rfl | rfl | rfl | rfl
  · -- kind 0
    walk_at "rds"
    refine ⟨by show 3 ≤ sizeLine; decide, fun q1 h1 => ?_⟩
    walk_at "rds"
    refine rr_in upd_same rfl rfl ?_
    walk_at "rds"
    have y1 := sameNew h1 (.tup [V.int 0, V.int 1, V.int 7])
    replace hw := y1 _ _ hw
    replace ra := ra.same y1
    replace rb := rb.same y1
    replace rc := rc.same y1
    replace fin := fun t H' z => fin t H' (y1.trans z)
    refine ifT (by rfl) ?_
    walk_at "rds"
    refine rr_ixL (sqL hw) (by rfl) ?_
    walk_at "rds"
    refine rr_repr rb fb ?_
    walk_at "rds"
    refine ⟨by show 3 ≤ sizeLine; decide, fun t ht => ?_⟩
    exact fin t _ (sameNew ht _) (.tup upd_same (.cons (.str _) (.cons (ra.same (sameNew ht _)) (.cons (.str _) .nil))))
  · -- kind 1
    walk_at "rds"
    refine ⟨by show 3 ≤ sizeLine; decide, fun q1 h1 => ?_⟩
    walk_at "rds"
    refine rr_in upd_same rfl rfl ?_
    walk_at "rds"
    have y1 := sameNew h1 (.tup [V.int 0, V.int 1, V.int 7])
    replace hw := y1 _ _ hw
    replace ra := ra.same y1
    replace rb := rb.same y1
    replace rc := rc.same y1
    replace fin := fun t H' z => fin t H' (y1.trans z)
    refine ifT (by rfl) ?_
    walk_at "rds"
    refine rr_ixL (sqL hw) (by rfl) ?_
    walk_at "rds"
    refine rr_repr rb fb ?_
    walk_at "rds"
    refine ⟨by show 3 ≤ sizeLine; decide, fun t ht => ?_⟩
    exact fin t _ (sameNew ht _) (.tup upd_same (.cons (.str _) (.cons (ra.same (sameNew ht _)) (.cons (.str _) .nil))))
  · -- kind 2
    walk_at "rds"
    refine ⟨by show 3 ≤ sizeLine; decide, fun q1 h1 => ?_⟩
    walk_at "rds"
    refine rr_in upd_same rfl rfl ?_
    walk_at "rds"
    have y1 := sameNew h1 (.tup [V.int 0, V.int 1, V.int 7])
    replace hw := y1 _ _ hw
    replace ra := ra.same y1
    replace rb := rb.same y1
    replace rc := rc.same y1
    replace fin := fun t H' z => fin t H' (y1.trans z)
    refine ifF (by rfl) ?_
    walk_at "rds"
    refine ⟨by show 5 ≤ sizeLine; decide, fun q2 h2 => ?_⟩
    walk_at "rds"
    refine rr_in upd_same rfl rfl ?_
    walk_at "rds"
    have y2 := sameNew h2 (.tup [V.int 2, V.int 3, V.int 4, V.int 10, V.int 11])
    replace hw := y2 _ _ hw
    replace ra := ra.same y2
    replace rb := rb.same y2
    replace rc := rc.same y2
    replace fin := fun t H' z => fin t H' (y2.trans z)
    refine ifT (by rfl) ?_
    walk_at "rds"
    refine rr_ixL (sqL hw) (by rfl) ?_
    walk_at "rds"
    refine ⟨by show 2 ≤ sizeLine; decide, fun t ht => ?_⟩
    exact fin t _ (sameNew ht _) (.tup upd_same (.cons (.str _) (.cons (ra.same (sameNew ht _)) .nil)))
  · -- kind 3
    walk_at "rds"
    refine ⟨by show 3 ≤ sizeLine; decide, fun q1 h1 => ?_⟩
    walk_at "rds"
    refine rr_in upd_same rfl rfl ?_
    walk_at "rds"
    have y1 := sameNew h1 (.tup [V.int 0, V.int 1, V.int 7])
    replace hw := y1 _ _ hw
    replace ra := ra.same y1
    replace rb := rb.same y1
    replace rc := rc.same y1
    replace fin := fun t H' z => fin t H' (y1.trans z)
    refine ifF (by rfl) ?_
    walk_at "rds"
    refine ⟨by show 5 ≤ sizeLine; decide, fun q2 h2 => ?_⟩
    walk_at "rds"
    refine rr_in upd_same rfl rfl ?_
    walk_at "rds"
    have y2 := sameNew h2 (.tup [V.int 2, V.int 3, V.int 4, V.int 10, V.int 11])
    replace hw := y2 _ _ hw
    replace ra := ra.same y2
    replace rb := rb.same y2
    replace rc := rc.same y2
    replace fin := fun t H' z => fin t H' (y2.trans z)
    refine ifT (by rfl) ?_
    walk_at "rds"
    refine rr_ixL (sqL hw) (by rfl) ?_
    walk_at "rds"
    refine ⟨by show 2 ≤ sizeLine; decide, fun t ht => ?_⟩
    exact fin t _ (sameNew ht _) (.tup upd_same (.cons (.str _) (.cons (ra.same (sameNew ht _)) .nil)))
  · -- kind 4
    walk_at "rds"
    refine ⟨by show 3 ≤ sizeLine; decide, fun q1 h1 => ?_⟩
    walk_at "rds"
    refine rr_in upd_same rfl rfl ?_
    walk_at "rds"
    have y1 := sameNew h1 (.tup [V.int 0, V.int 1, V.int 7])
    replace hw := y1 _ _ hw
    replace ra := ra.same y1
    replace rb := rb.same y1
    replace rc := rc.same y1
    replace fin := fun t H' z => fin t H' (y1.trans z)
    refine ifF (by rfl) ?_
    walk_at "rds"
    refine ⟨by show 5 ≤ sizeLine; decide, fun q2 h2 => ?_⟩
    walk_at "rds"
    refine rr_in upd_same rfl rfl ?_
    walk_at "rds"
    have y2 := sameNew h2 (.tup [V.int 2, V.int 3, V.int 4, V.int 10, V.int 11])
    replace hw := y2 _ _ hw
    replace ra := ra.same y2
    replace rb := rb.same y2
    replace rc := rc.same y2
    replace fin := fun t H' z => fin t H' (y2.trans z)
    refine ifT (by rfl) ?_
    walk_at "rds"
    refine rr_ixL (sqL hw) (by rfl) ?_
    walk_at "rds"
    refine ⟨by show 2 ≤ sizeLine; decide, fun t ht => ?_⟩
    exact fin t _ (sameNew ht _) (.tup upd_same (.cons (.str _) (.cons (ra.same (sameNew ht _)) .nil)))
  · -- kind 5
    walk_at "rds"
    refine ⟨by show 3 ≤ sizeLine; decide, fun q1 h1 => ?_⟩
    walk_at "rds"
    refine rr_in upd_same rfl rfl ?_
    walk_at "rds"
    have y1 := sameNew h1 (.tup [V.int 0, V.int 1, V.int 7])
    replace hw := y1 _ _ hw
    replace ra := ra.same y1
    replace rb := rb.same y1
    replace rc := rc.same y1
    replace fin := fun t H' z => fin t H' (y1.trans z)
    refine ifF (by rfl) ?_
    walk_at "rds"
    refine ⟨by show 5 ≤ sizeLine; decide, fun q2 h2 => ?_⟩
    walk_at "rds"
    refine rr_in upd_same rfl rfl ?_
    walk_at "rds"
    have y2 := sameNew h2 (.tup [V.int 2, V.int 3, V.int 4, V.int 10, V.int 11])
    replace hw := y2 _ _ hw
    replace ra := ra.same y2
    replace rb := rb.same y2
    replace rc := rc.same y2
    replace fin := fun t H' z => fin t H' (y2.trans z)
    refine ifF (by rfl) ?_
    walk_at "rds"
    refine ⟨by show 3 ≤ sizeLine; decide, fun q3 h3 => ?_⟩
    walk_at "rds"
    refine rr_in upd_same rfl rfl ?_
    walk_at "rds"
    have y3 := sameNew h3 (.tup [V.int 5, V.int 8, V.int 9])
    replace hw := y3 _ _ hw
    replace ra := ra.same y3
    replace rb := rb.same y3
    replace rc := rc.same y3
    replace fin := fun t H' z => fin t H' (y3.trans z)
    refine ifT (by rfl) ?_
    walk_at "rds"
    refine rr_ixL (sqL hw) (by rfl) ?_
    walk_at "rds"
    refine rr_repr ra fa ?_
    walk_at "rds"
    refine ⟨by show 2 ≤ sizeLine; decide, fun t ht => ?_⟩
    exact fin t _ (sameNew ht _) (.tup upd_same (.cons (.str _) (.cons (.str _) .nil)))
  · -- kind 6
    walk_at "rds"
    refine ⟨by show 3 ≤ sizeLine; decide, fun q1 h1 => ?_⟩
    walk_at "rds"
    refine rr_in upd_same rfl rfl ?_
    walk_at "rds"
    have y1 := sameNew h1 (.tup [V.int 0, V.int 1, V.int 7])
    replace hw := y1 _ _ hw
    replace ra := ra.same y1
    replace rb := rb.same y1
    replace rc := rc.same y1
    replace fin := fun t H' z => fin t H' (y1.trans z)
    refine ifF (by rfl) ?_
    walk_at "rds"
    refine ⟨by show 5 ≤ sizeLine; decide, fun q2 h2 => ?_⟩
    walk_at "rds"
    refine rr_in upd_same rfl rfl ?_
    walk_at "rds"
    have y2 := sameNew h2 (.tup [V.int 2, V.int 3, V.int 4, V.int 10, V.int 11])
    replace hw := y2 _ _ hw
    replace ra := ra.same y2
    replace rb := rb.same y2
    replace rc := rc.same y2
    replace fin := fun t H' z => fin t H' (y2.trans z)
    refine ifF (by rfl) ?_
    walk_at "rds"
    refine ⟨by show 3 ≤ sizeLine; decide, fun q3 h3 => ?_⟩
    walk_at "rds"
    refine rr_in upd_same rfl rfl ?_
    walk_at "rds"
    have y3 := sameNew h3 (.tup [V.int 5, V.int 8, V.int 9])
    replace hw := y3 _ _ hw
    replace ra := ra.same y3
    replace rb := rb.same y3
    replace rc := rc.same y3
    replace fin := fun t H' z => fin t H' (y3.trans z)
    refine ifF (by rfl) ?_
    walk_at "rds"
    refine ⟨by show 2 ≤ sizeLine; decide, fun q4 h4 => ?_⟩
    walk_at "rds"
    refine rr_in upd_same rfl rfl ?_
    walk_at "rds"
    have y4 := sameNew h4 (.tup [V.int 6, V.int 13])
    replace hw := y4 _ _ hw
    replace ra := ra.same y4
    replace rb := rb.same y4
    replace rc := rc.same y4
    replace fin := fun t H' z => fin t H' (y4.trans z)
    refine ifT (by rfl) ?_
    walk_at "rds"
    refine rr_ixL (sqL hw) (by rfl) ?_
    walk_at "rds"
    refine ⟨by show 3 ≤ sizeLine; decide, fun t ht => ?_⟩
    exact fin t _ (sameNew ht _) (.tup upd_same (.cons (.str _) (.cons (ra.same (sameNew ht _)) (.cons (rb.same (sameNew ht _)) .nil))))
  · -- kind 7
    walk_at "rds"
    refine ⟨by show 3 ≤ sizeLine; decide, fun q1 h1 => ?_⟩
    walk_at "rds"
    refine rr_in upd_same rfl rfl ?_
    walk_at "rds"
    have y1 := sameNew h1 (.tup [V.int 0, V.int 1, V.int 7])
    replace hw := y1 _ _ hw
    replace ra := ra.same y1
    replace rb := rb.same y1
    replace rc := rc.same y1
    replace fin := fun t H' z => fin t H' (y1.trans z)
    refine ifT (by rfl) ?_
    walk_at "rds"
    refine rr_ixL (sqL hw) (by rfl) ?_
    walk_at "rds"
    refine rr_repr rb fb ?_
    walk_at "rds"
    refine ⟨by show 3 ≤ sizeLine; decide, fun t ht => ?_⟩
    exact fin t _ (sameNew ht _) (.tup upd_same (.cons (.str _) (.cons (ra.same (sameNew ht _)) (.cons (.str _) .nil))))
  · -- kind 8
    walk_at "rds"
    refine ⟨by show 3 ≤ sizeLine; decide, fun q1 h1 => ?_⟩
    walk_at "rds"
    refine rr_in upd_same rfl rfl ?_
    walk_at "rds"
    have y1 := sameNew h1 (.tup [V.int 0, V.int 1, V.int 7])
    replace hw := y1 _ _ hw
    replace ra := ra.same y1
    replace rb := rb.same y1
    replace rc := rc.same y1
    replace fin := fun t H' z => fin t H' (y1.trans z)
    refine ifF (by rfl) ?_
    walk_at "rds"
    refine ⟨by show 5 ≤ sizeLine; decide, fun q2 h2 => ?_⟩
    walk_at "rds"
    refine rr_in upd_same rfl rfl ?_
    walk_at "rds"
    have y2 := sameNew h2 (.tup [V.int 2, V.int 3, V.int 4, V.int 10, V.int 11])
    replace hw := y2 _ _ hw
    replace ra := ra.same y2
    replace rb := rb.same y2
    replace rc := rc.same y2
    replace fin := fun t H' z => fin t H' (y2.trans z)
    refine ifF (by rfl) ?_
    walk_at "rds"
    refine ⟨by show 3 ≤ sizeLine; decide, fun q3 h3 => ?_⟩
    walk_at "rds"
    refine rr_in upd_same rfl rfl ?_
    walk_at "rds"
    have y3 := sameNew h3 (.tup [V.int 5, V.int 8, V.int 9])
    replace hw := y3 _ _ hw
    replace ra := ra.same y3
    replace rb := rb.same y3
    replace rc := rc.same y3
    replace fin := fun t H' z => fin t H' (y3.trans z)
    refine ifT (by rfl) ?_
    walk_at "rds"
    refine rr_ixL (sqL hw) (by rfl) ?_
    walk_at "rds"
    refine rr_repr ra fa ?_
    walk_at "rds"
    refine ⟨by show 2 ≤ sizeLine; decide, fun t ht => ?_⟩
    exact fin t _ (sameNew ht _) (.tup upd_same (.cons (.str _) (.cons (.str _) .nil)))
  · -- kind 9
    walk_at "rds"
    refine ⟨by show 3 ≤ sizeLine; decide, fun q1 h1 => ?_⟩
    walk_at "rds"
    refine rr_in upd_same rfl rfl ?_
    walk_at "rds"
    have y1 := sameNew h1 (.tup [V.int 0, V.int 1, V.int 7])
    replace hw := y1 _ _ hw
    replace ra := ra.same y1
    replace rb := rb.same y1
    replace rc := rc.same y1
    replace fin := fun t H' z => fin t H' (y1.trans z)
    refine ifF (by rfl) ?_
    walk_at "rds"
    refine ⟨by show 5 ≤ sizeLine; decide, fun q2 h2 => ?_⟩
    walk_at "rds"
    refine rr_in upd_same rfl rfl ?_
    walk_at "rds"
    have y2 := sameNew h2 (.tup [V.int 2, V.int 3, V.int 4, V.int 10, V.int 11])
    replace hw := y2 _ _ hw
    replace ra := ra.same y2
    replace rb := rb.same y2
    replace rc := rc.same y2
    replace fin := fun t H' z => fin t H' (y2.trans z)
    refine ifF (by rfl) ?_
    walk_at "rds"
    refine ⟨by show 3 ≤ sizeLine; decide, fun q3 h3 => ?_⟩
    walk_at "rds"
    refine rr_in upd_same rfl rfl ?_
    walk_at "rds"
    have y3 := sameNew h3 (.tup [V.int 5, V.int 8, V.int 9])
    replace hw := y3 _ _ hw
    replace ra := ra.same y3
    replace rb := rb.same y3
    replace rc := rc.same y3
    replace fin := fun t H' z => fin t H' (y3.trans z)
    refine ifT (by rfl) ?_
    walk_at "rds"
    refine rr_ixL (sqL hw) (by rfl) ?_
    walk_at "rds"
    refine rr_repr ra fa ?_
    walk_at "rds"
    refine ⟨by show 2 ≤ sizeLine; decide, fun t ht => ?_⟩
    exact fin t _ (sameNew ht _) (.tup upd_same (.cons (.str _) (.cons (.str _) .nil)))
  · -- kind 10
    walk_at "rds"
    refine ⟨by show 3 ≤ sizeLine; decide, fun q1 h1 => ?_⟩
    walk_at "rds"
    refine rr_in upd_same rfl rfl ?_
    walk_at "rds"
    have y1 := sameNew h1 (.tup [V.int 0, V.int 1, V.int 7])
    replace hw := y1 _ _ hw
    replace ra := ra.same y1
    replace rb := rb.same y1
    replace rc := rc.same y1
    replace fin := fun t H' z => fin t H' (y1.trans z)
    refine ifF (by rfl) ?_
    walk_at "rds"
    refine ⟨by show 5 ≤ sizeLine; decide, fun q2 h2 => ?_⟩
    walk_at "rds"
    refine rr_in upd_same rfl rfl ?_
    walk_at "rds"
    have y2 := sameNew h2 (.tup [V.int 2, V.int 3, V.int 4, V.int 10, V.int 11])
    replace hw := y2 _ _ hw
    replace ra := ra.same y2
    replace rb := rb.same y2
    replace rc := rc.same y2
    replace fin := fun t H' z => fin t H' (y2.trans z)
    refine ifT (by rfl) ?_
    walk_at "rds"
    refine rr_ixL (sqL hw) (by rfl) ?_
    walk_at "rds"
    refine ⟨by show 2 ≤ sizeLine; decide, fun t ht => ?_⟩
    exact fin t _ (sameNew ht _) (.tup upd_same (.cons (.str _) (.cons (ra.same (sameNew ht _)) .nil)))
  · -- kind 11
    walk_at "rds"
    refine ⟨by show 3 ≤ sizeLine; decide, fun q1 h1 => ?_⟩
    walk_at "rds"
    refine rr_in upd_same rfl rfl ?_
    walk_at "rds"
    have y1 := sameNew h1 (.tup [V.int 0, V.int 1, V.int 7])
    replace hw := y1 _ _ hw
    replace ra := ra.same y1
    replace rb := rb.same y1
    replace rc := rc.same y1
    replace fin := fun t H' z => fin t H' (y1.trans z)
    refine ifF (by rfl) ?_
    walk_at "rds"
    refine ⟨by show 5 ≤ sizeLine; decide, fun q2 h2 => ?_⟩
    walk_at "rds"
    refine rr_in upd_same rfl rfl ?_
    walk_at "rds"
    have y2 := sameNew h2 (.tup [V.int 2, V.int 3, V.int 4, V.int 10, V.int 11])
    replace hw := y2 _ _ hw
    replace ra := ra.same y2
    replace rb := rb.same y2
    replace rc := rc.same y2
    replace fin := fun t H' z => fin t H' (y2.trans z)
    refine ifT (by rfl) ?_
    walk_at "rds"
    refine rr_ixL (sqL hw) (by rfl) ?_
    walk_at "rds"
    refine ⟨by show 2 ≤ sizeLine; decide, fun t ht => ?_⟩
    exact fin t _ (sameNew ht _) (.tup upd_same (.cons (.str _) (.cons (ra.same (sameNew ht _)) .nil)))
  · -- kind 12
    walk_at "rds"
    refine ⟨by show 3 ≤ sizeLine; decide, fun q1 h1 => ?_⟩
    walk_at "rds"
    refine rr_in upd_same rfl rfl ?_
    walk_at "rds"
    have y1 := sameNew h1 (.tup [V.int 0, V.int 1, V.int 7])
    replace hw := y1 _ _ hw
    replace ra := ra.same y1
    replace rb := rb.same y1
    replace rc := rc.same y1
    replace fin := fun t H' z => fin t H' (y1.trans z)
    refine ifF (by rfl) ?_
    walk_at "rds"
    refine ⟨by show 5 ≤ sizeLine; decide, fun q2 h2 => ?_⟩
    walk_at "rds"
    refine rr_in upd_same rfl rfl ?_
    walk_at "rds"
    have y2 := sameNew h2 (.tup [V.int 2, V.int 3, V.int 4, V.int 10, V.int 11])
    replace hw := y2 _ _ hw
    replace ra := ra.same y2
    replace rb := rb.same y2
    replace rc := rc.same y2
    replace fin := fun t H' z => fin t H' (y2.trans z)
    refine ifF (by rfl) ?_
    walk_at "rds"
    refine ⟨by show 3 ≤ sizeLine; decide, fun q3 h3 => ?_⟩
    walk_at "rds"
    refine rr_in upd_same rfl rfl ?_
    walk_at "rds"
    have y3 := sameNew h3 (.tup [V.int 5, V.int 8, V.int 9])
    replace hw := y3 _ _ hw
    replace ra := ra.same y3
    replace rb := rb.same y3
    replace rc := rc.same y3
    replace fin := fun t H' z => fin t H' (y3.trans z)
    refine ifF (by rfl) ?_
    walk_at "rds"
    refine ⟨by show 2 ≤ sizeLine; decide, fun q4 h4 => ?_⟩
    walk_at "rds"
    refine rr_in upd_same rfl rfl ?_
    walk_at "rds"
    have y4 := sameNew h4 (.tup [V.int 6, V.int 13])
    replace hw := y4 _ _ hw
    replace ra := ra.same y4
    replace rb := rb.same y4
    replace rc := rc.same y4
    replace fin := fun t H' z => fin t H' (y4.trans z)
    refine ifF (by rfl) ?_
    walk_at "rds"
    refine ifT (by rfl) ?_
    walk_at "rds"
    refine rr_ixL (sqL hw) (by rfl) ?_
    walk_at "rds"
    refine ⟨by show 4 ≤ sizeLine; decide, fun t ht => ?_⟩
    exact fin t _ (sameNew ht _) (.tup upd_same (.cons (.str _) (.cons (ra.same (sameNew ht _)) (.cons (rb.same (sameNew ht _)) (.cons (rc.same (sameNew ht _)) .nil)))))
  · -- kind 13
    walk_at "rds"
    refine ⟨by show 3 ≤ sizeLine; decide, fun q1 h1 => ?_⟩
    walk_at "rds"
    refine rr_in upd_same rfl rfl ?_
    walk_at "rds"
    have y1 := sameNew h1 (.tup [V.int 0, V.int 1, V.int 7])
    replace hw := y1 _ _ hw
    replace ra := ra.same y1
    replace rb := rb.same y1
    replace rc := rc.same y1
    replace fin := fun t H' z => fin t H' (y1.trans z)
    refine ifF (by rfl) ?_
    walk_at "rds"
    refine ⟨by show 5 ≤ sizeLine; decide, fun q2 h2 => ?_⟩
    walk_at "rds"
    refine rr_in upd_same rfl rfl ?_
    walk_at "rds"
    have y2 := sameNew h2 (.tup [V.int 2, V.int 3, V.int 4, V.int 10, V.int 11])
    replace hw := y2 _ _ hw
    replace ra := ra.same y2
    replace rb := rb.same y2
    replace rc := rc.same y2
    replace fin := fun t H' z => fin t H' (y2.trans z)
    refine ifF (by rfl) ?_
    walk_at "rds"
    refine ⟨by show 3 ≤ sizeLine; decide, fun q3 h3 => ?_⟩
    walk_at "rds"
    refine rr_in upd_same rfl rfl ?_
    walk_at "rds"
    have y3 := sameNew h3 (.tup [V.int 5, V.int 8, V.int 9])
    replace hw := y3 _ _ hw
    replace ra := ra.same y3
    replace rb := rb.same y3
    replace rc := rc.same y3
    replace fin := fun t H' z => fin t H' (y3.trans z)
    refine ifF (by rfl) ?_
    walk_at "rds"
    refine ⟨by show 2 ≤ sizeLine; decide, fun q4 h4 => ?_⟩
    walk_at "rds"
    refine rr_in upd_same rfl rfl ?_
    walk_at "rds"
    have y4 := sameNew h4 (.tup [V.int 6, V.int 13])
    replace hw := y4 _ _ hw
    replace ra := ra.same y4
    replace rb := rb.same y4
    replace rc := rc.same y4
    replace fin := fun t H' z => fin t H' (y4.trans z)
    refine ifT (by rfl) ?_
    walk_at "rds"
    refine rr_ixL (sqL hw) (by rfl) ?_
    walk_at "rds"
    refine ⟨by show 3 ≤ sizeLine; decide, fun t ht => ?_⟩
    exact fin t _ (sameNew ht _) (.tup upd_same (.cons (.str _) (.cons (ra.same (sameNew ht _)) (.cons (rb.same (sameNew ht _)) .nil))))
  · -- kind 14
    walk_at "rds"
    refine ⟨by show 3 ≤ sizeLine; decide, fun q1 h1 => ?_⟩
    walk_at "rds"
    refine rr_in upd_same rfl rfl ?_
    walk_at "rds"
    have y1 := sameNew h1 (.tup [V.int 0, V.int 1, V.int 7])
    replace hw := y1 _ _ hw
    replace ra := ra.same y1
    replace rb := rb.same y1
    replace rc := rc.same y1
    replace fin := fun t H' z => fin t H' (y1.trans z)
    refine ifF (by rfl) ?_
    walk_at "rds"
    refine ⟨by show 5 ≤ sizeLine; decide, fun q2 h2 => ?_⟩
    walk_at "rds"
    refine rr_in upd_same rfl rfl ?_
    walk_at "rds"
    have y2 := sameNew h2 (.tup [V.int 2, V.int 3, V.int 4, V.int 10, V.int 11])
    replace hw := y2 _ _ hw
    replace ra := ra.same y2
    replace rb := rb.same y2
    replace rc := rc.same y2
    replace fin := fun t H' z => fin t H' (y2.trans z)
    refine ifF (by rfl) ?_
    walk_at "rds"
    refine ⟨by show 3 ≤ sizeLine; decide, fun q3 h3 => ?_⟩
    walk_at "rds"
    refine rr_in upd_same rfl rfl ?_
    walk_at "rds"
    have y3 := sameNew h3 (.tup [V.int 5, V.int 8, V.int 9])
    replace hw := y3 _ _ hw
    replace ra := ra.same y3
    replace rb := rb.same y3
    replace rc := rc.same y3
    replace fin := fun t H' z => fin t H' (y3.trans z)
    refine ifF (by rfl) ?_
    walk_at "rds"
    refine ⟨by show 2 ≤ sizeLine; decide, fun q4 h4 => ?_⟩
    walk_at "rds"
    refine rr_in upd_same rfl rfl ?_
    walk_at "rds"
    have y4 := sameNew h4 (.tup [V.int 6, V.int 13])
    replace hw := y4 _ _ hw
    replace ra := ra.same y4
    replace rb := rb.same y4
    replace rc := rc.same y4
    replace fin := fun t H' z => fin t H' (y4.trans z)
    refine ifF (by rfl) ?_
    walk_at "rds"
    refine ifF (by rfl) ?_
    walk_at "rds"
    refine rr_ixL (sqL hw) (by rfl) ?_
    walk_at "rds"
    refine ⟨by show 1 ≤ sizeLine; decide, fun t ht => ?_⟩
    exact fin t _ (sameNew ht _) (.tup upd_same (.cons (.str _) .nil))
  · -- kind 15
    walk_at "rds"
    refine ⟨by show 3 ≤ sizeLine; decide, fun q1 h1 => ?_⟩
    walk_at "rds"
    refine rr_in upd_same rfl rfl ?_
    walk_at "rds"
    have y1 := sameNew h1 (.tup [V.int 0, V.int 1, V.int 7])
    replace hw := y1 _ _ hw
    replace ra := ra.same y1
    replace rb := rb.same y1
    replace rc := rc.same y1
    replace fin := fun t H' z => fin t H' (y1.trans z)
    refine ifF (by rfl) ?_
    walk_at "rds"
    refine ⟨by show 5 ≤ sizeLine; decide, fun q2 h2 => ?_⟩
    walk_at "rds"
    refine rr_in upd_same rfl rfl ?_
    walk_at "rds"
    have y2 := sameNew h2 (.tup [V.int 2, V.int 3, V.int 4, V.int 10, V.int 11])
    replace hw := y2 _ _ hw
    replace ra := ra.same y2
    replace rb := rb.same y2
    replace rc := rc.same y2
    replace fin := fun t H' z => fin t H' (y2.trans z)
    refine ifF (by rfl) ?_
    walk_at "rds"
    refine ⟨by show 3 ≤ sizeLine; decide, fun q3 h3 => ?_⟩
    walk_at "rds"
    refine rr_in upd_same rfl rfl ?_
    walk_at "rds"
    have y3 := sameNew h3 (.tup [V.int 5, V.int 8, V.int 9])
    replace hw := y3 _ _ hw
    replace ra := ra.same y3
    replace rb := rb.same y3
    replace rc := rc.same y3
    replace fin := fun t H' z => fin t H' (y3.trans z)
    refine ifF (by rfl) ?_
    walk_at "rds"
    refine ⟨by show 2 ≤ sizeLine; decide, fun q4 h4 => ?_⟩
    walk_at "rds"
    refine rr_in upd_same rfl rfl ?_
    walk_at "rds"
    have y4 := sameNew h4 (.tup [V.int 6, V.int 13])
    replace hw := y4 _ _ hw
    replace ra := ra.same y4
    replace rb := rb.same y4
    replace rc := rc.same y4
    replace fin := fun t H' z => fin t H' (y4.trans z)
    refine ifF (by rfl) ?_
    walk_at "rds"
    refine ifF (by rfl) ?_
    walk_at "rds"
    refine rr_ixL (sqL hw) (by rfl) ?_
    walk_at "rds"
    refine ⟨by show 1 ≤ sizeLine; decide, fun t ht => ?_⟩
    exact fin t _ (sameNew ht _) (.tup upd_same (.cons (.str _) .nil))
end
end K01
namespace K01
open PySem PySem.Spec PyProof.Rows L2 Lx
local macro_rules | `(tactic| walk_at "rd") => `(tactic| (with_reducible first
  | refine rr_seq ?_ | refine rr_asg ?_ | refine rr_n0 ?_ | refine rr_n1 ?_ | refine rr_n2 ?_ | refine rr_n3 ?_ | refine rr_n4 ?_ | refine rr_n5 ?_ | refine rr_n6 ?_ | refine rr_n7 ?_ | refine rr_n8 ?_ | refine rr_n9 ?_ | refine rr_n10 ?_ | refine rr_n11 ?_ | refine rr_n12 ?_ | refine rr_n13 ?_ | refine rr_drop ?_ | refine rr_ret ?_ | refine rr_ifs ?_ | refine rr_if ?_ | refine rr_test ?_ | refine rr_tB ?_ | refine rr_bl ?_
  | refine rr_and ?_ | refine rr_or ?_ | refine rr_not ?_ | refine rr_v0 ?_ | refine rr_v1 ?_ | refine rr_v2 ?_ | refine rr_v3 ?_ | refine rr_v4 ?_ | refine rr_v5 ?_ | refine rr_v6 ?_ | refine rr_v7 ?_ | refine rr_v8 ?_ | refine rr_v9 ?_ | refine rr_v10 ?_ | refine rr_v11 ?_ | refine rr_v12 ?_ | refine rr_v13 ?_ | refine rr_c ?_ | refine rr_op ?_ | refine rr_un ?_ | refine rr_i0 ?_ | refine rr_eqi ?_ | refine rr_nei ?_
  | refine rr_cons ?_ | refine rr_nil ?_ | refine rr_cb ?_ | refine rr_call ?_ | refine rr_tup ?_ | refine rr_lst ?_ | refine rr_lstN ?_ | refine rr_dget ?_ | refine rr_dput ?_ | refine rr_next ?_ | refine rr_int ?_ | refine rr_disp ?_ | refine rr_pcons ?_ | refine rr_pnil ?_ | refine rr_isN ?_ | refine rr_notN ?_ | refine rr_callR ?_ | refine rr_bm ?_ | refine rr_fldP ?_ | refine rr_rf ?_))
local macro_rules | `(tactic| walk_at "rds") => `(tactic| repeat walk_at "rd")

abbrev s_law_told : Stmt := topS 27
theorem sc_law_told : FnScope ["kind", "one", "two", "three", "found", "e"] ["kind", "one", "two", "three"] (defScope s_law_told) := ⟨rfl, rfl, rfl, by decide +kernel, rfl, by decide +kernel, by decide +kernel⟩
/-- _law_told(kind, one, two, three) -/
def spTold : Sp := fun vs H Q _ => ∃ (k : Nat) (a b c : V) (d1 d2 d3 : PyData), vs = [.int k, a, b, c] ∧ k < 16 ∧ Rp H a d1 ∧ Rp H b d2 ∧ Rp H c d3 ∧ Fit 2 150 d1 ∧ Fit 2 150 d2 ∧ Fit 2 150 d3 ∧
  ∀ (l t : Addr) (H' : Hp), Same H H' → H' l = some (.lst [.ref t]) → Rp H' (.ref t) (due k d1 d2 d3) → Q (.ref l) H'
def t_suite (K : PySem.W.Frag) (Cs : Nat → Addr) : Addr → Value → Option Addr → TS := fun a cls d =>
  tIfS (tTest (tCB (rIsA K a cls d) (tCons (tVar 5) (tCons (tC (.ty "ValueError")) tNil)))) (tAsg (tCallR (callA (spKinds Cs) a cls d) (tCons (tVar 5) tNil)) (gName 4)) tNext
def t_body (Cs : Nat → Addr) (W : WX) : TS := tSeq (tDrop (tCallS (spRaised Cs 0 8) (WE W) (tCons (tVar 0) (tCons (tVar 1) (tCons (tVar 2) (tCons (tVar 3) tNil)))))) (tDrop (tCallS (spRaised Cs 8 16) (WE W) (tCons (tVar 0) (tCons (tVar 1) (tCons (tVar 2) (tCons (tVar 3) tNil))))))
theorem roomMark {A : Around} {k : Nat} {v : Option Value} (h : Room k A) : L2H.RoomH k (A.mark v) := ⟨h.dp, h.un⟩
section
variable {P : Program} {w : World} {K : PySem.W.Frag} {mg : Str → Option Value} {base : Heap} {S : Addr} {Cs : Nat → Addr}
theorem fs_nil {k : Nat} {a b c : V} (h : ¬ k < 14) (hk : k < 16) : fsOf k a b c = [] := by
  have : k = 14 ∨ k = 15 := by omega
  rcases this with rfl | rfl <;> rfl
theorem d_told (F : Has K mg "_law_told" s_law_told) (T : Tx K mg S Cs) (D1 : Keeps P w K mg base (L2.CX P w) 3 "_law_raised" ["kind", "one", "two", "three"] (spRaised Cs 0 8)) (D2 : Keeps P w K mg base (L2.CX P w) 3 "_law_raised_too" ["kind", "one", "two", "three"] (spRaised Cs 8 16))
    (DK : KeepsE P w K mg base 2 "_law_kinds" ["e"] (spKinds Cs)) : Keeps P w K mg base CX0 4 "_law_told" ["kind", "one", "two", "three"] spTold := by
  refine keep0 F (fun _ _ _ _ _ _ us hl => match us, hl with | [_, _, _, _], _ => rfl) sc_law_told (fun vs H Q E h => ?_) (fun f cdv A outer s H vs Q E hr hg h => ?_)
  · obtain ⟨k, a, b, c, d1, d2, d3, rfl, _⟩ := h
    rfl
  refine ⟨_, (pss_cons (ps_set (i := 4) sc_law_told.nd rfl (.inl rfl) pe_non)
    (pss_cons (ps_try_as (i := 5) (tb := t_body Cs) (ts := t_suite K Cs) (Wout := fun _ _ _ _ => False) rfl rfl sc_law_told.nd rfl rfl ⟨rfl, by decide, .inl T.gS⟩ takes0
      (fun W pn xe tk _ => (pss_cons (ps_expr (pcX D1 hr hg tk (pa_cons (pv 0) (pa_cons (pv 1) (pa_cons (pv 2) (pa_cons (pv 3) pa_nil)))))) (pss_one (ps_expr (pcX D2 hr hg tk (pa_cons (pv 0) (pa_cons (pv 1) (pa_cons (pv 2) (pa_cons (pv 3) pa_nil)))))))))
      (fun a oe cls d pn hz hf => (pss_one (ps_if (pt_val (pe_callB (call_isA List.mem_cons_self hz hf) (by rfl) T.b.b_isinstance (by decide +kernel) (pa_cons (pv 5) (pa_cons (pe_bltn (v := .ty "ValueError") (u := .type "ValueError") (by rfl) T.b.b_VE PyProof.Rows.Boot.«ValueError» rfl) pa_nil))))
        (pss_one (ps_set (i := 4) sc_law_told.nd rfl (.inl rfl) (pcA DK (roomMark hr) hg List.mem_cons_self hz hf (pa_cons (pv 5) pa_nil)))) pss_nil))))
    (pss_one (ps_ret (pv 4))))), ?_⟩
  obtain ⟨k, a, b, c, d1, d2, d3, rfl, hk, ra, rb, rc, fa, fb, fc, fin⟩ := h
  have es : L2.start ["kind", "one", "two", "three", "found", "e"] [V.int k, a, b, c] = [some (V.int k), some a, some b, some c, none, none] := rfl
  rw [es]
  refine rr_seq (rr_asg (rr_c (rr_n4 ?_)))
  refine rr_seq ?_
  -- the error flies to the clause
  have fly : ∀ (d : Option Addr) (H1 : Hp), Same H H1 → ((d = none ∧ fsOf k a b c = []) ∨ ∃ x, d = some x ∧ H1 x = some (.xd (fsOf k a b c))) →
      wAs K (.ref S) 5 (t_suite K Cs) (fun _ _ _ _ => False) { nx := fun σ' H' => tRet (tVar 4) { nx := fun _ H' => Q .non H', rt := Q } σ' H', rt := Q } (.ref (Cs k)) d [some (V.int k), some a, some b, some c, some .non, none] H1 := fun d H1 s1 hd => by
    refine ⟨true, T.sub k hk, fun _ ea hea => ?_, fun q => nomatch q⟩
    have he : ∀ oe : Obj, Zc (.ref (Cs k)) d oe → (∃ fv, oe.data = .fields fv) → ExcAt H1 (ea, oe) (Cs k) (fsOf k a b c) := fun oe hz hf => ⟨hz.1, hf, by
      rcases hd with ⟨e, ef⟩ | ⟨x, e, ex⟩
      · exact .inl ⟨hz.2.trans e, ef⟩
      · exact .inr ⟨x, hz.2.trans e, ex⟩⟩
    show t_suite K Cs ea (.ref (Cs k)) d _ [some (V.int k), some a, some b, some c, some .non, some (.ref ea)] H1
    unfold t_suite
    walk_at "rds"
    intro oe hz hf
    refine rr_isP (p := (ea, oe)) (he oe hz hf) (T.xc k hk) (T.ve k hk) (fun _ h => h) ?_
    walk_at "rds"
    refine iteT ?_
    walk_at "rds"
    intro oe2 hz2 hf2
    refine ⟨rfl, k, a, b, c, d1, d2, d3, ⟨hk, he oe2 hz2 hf2, ra.same s1, rb.same s1, rc.same s1, fa, fb, fc⟩, fun l t H2 s2 hl hrp => ?_⟩
    walk_at "rds"
    refine ⟨.ref l, rfl, ?_⟩
    exact fin l t H2 (s1.trans s2) hl hrp
  have flies_ : flies Cs k a b c H fun cls d H' => wAs K (.ref S) 5 (t_suite K Cs) (fun _ _ _ _ => False) { nx := fun σ' H' => tRet (tVar 4) { nx := fun _ H' => Q .non H', rt := Q } σ' H', rt := Q } cls d [some (V.int k), some a, some b, some c, some .non, none] H' := by
    unfold flies
    by_cases h : k < 14
    · rw [if_pos h]
      exact fun d hd => fly (some d) _ (sameNew hd _) (.inr ⟨d, rfl, upd_same⟩)
    · rw [if_neg h]
      exact fly none H (Same.refl H) (.inl ⟨rfl, fs_nil h hk⟩)
  show t_body Cs _ _ _ _
  unfold t_body
  walk_at "rds"
  refine ⟨k, a, b, c, rfl, hk, fun _ _ => flies_, fun h1 => ?_⟩
  walk_at "rds"
  exact ⟨k, a, b, c, rfl, hk, fun _ _ => flies_, fun h2 => by omega⟩
end
end K01
namespace K01
open PySem PySem.Spec PyProof.Rows L2 Lx
local macro_rules | `(tactic| walk_at "rd") => `(tactic| (with_reducible first
  | refine rr_seq ?_ | refine rr_asg ?_ | refine rr_n0 ?_ | refine rr_n1 ?_ | refine rr_n2 ?_ | refine rr_n3 ?_ | refine rr_n4 ?_ | refine rr_n5 ?_ | refine rr_n6 ?_ | refine rr_n7 ?_ | refine rr_n8 ?_ | refine rr_n9 ?_ | refine rr_n10 ?_ | refine rr_n11 ?_ | refine rr_n12 ?_ | refine rr_n13 ?_ | refine rr_drop ?_ | refine rr_ret ?_ | refine rr_ifs ?_ | refine rr_if ?_ | refine rr_test ?_ | refine rr_tB ?_ | refine rr_bl ?_
  | refine rr_and ?_ | refine rr_or ?_ | refine rr_not ?_ | refine rr_v0 ?_ | refine rr_v1 ?_ | refine rr_v2 ?_ | refine rr_v3 ?_ | refine rr_v4 ?_ | refine rr_v5 ?_ | refine rr_v6 ?_ | refine rr_v7 ?_ | refine rr_v8 ?_ | refine rr_v9 ?_ | refine rr_v10 ?_ | refine rr_v11 ?_ | refine rr_v12 ?_ | refine rr_v13 ?_ | refine rr_c ?_ | refine rr_op ?_ | refine rr_un ?_ | refine rr_i0 ?_ | refine rr_eqi ?_ | refine rr_nei ?_
  | refine rr_cons ?_ | refine rr_nil ?_ | refine rr_cb ?_ | refine rr_call ?_ | refine rr_tup ?_ | refine rr_lst ?_ | refine rr_lstN ?_ | refine rr_dget ?_ | refine rr_dput ?_ | refine rr_next ?_ | refine rr_int ?_ | refine rr_disp ?_ | refine rr_pcons ?_ | refine rr_pnil ?_ | refine rr_isN ?_ | refine rr_notN ?_ | refine rr_callR ?_ | refine rr_bm ?_ | refine rr_fldP ?_ | refine rr_rf ?_))
local macro_rules | `(tactic| walk_at "rds") => `(tactic| repeat walk_at "rd")

abbrev s_law : Stmt := topS 29
theorem sc_law : FnScope ["script", "pen", "kind", "told", "one", "two", "three"] ["script"] (defScope s_law) := ⟨rfl, rfl, rfl, by decide +kernel, rfl, by decide +kernel, by decide +kernel⟩
def spLaw (K : PySem.W.Frag) : Sp := fun vs H Q _ => ∃ (a : Addr) (ns : List Int), vs = [.ref a] ∧ SqL K H a (ns.map V.int) ∧ ∀ H', Q (.bl true) H'
theorem rr_par3 {D : Ends} {σ : L2.St} {H : Hp} {i j l : Nat} {ta : TA} (h : ta σ H fun vs H1 => ∃ u v w, vs = [u, v, w] ∧ D.nx (((σ.set i (some u)).set j (some v)).set l (some w)) H1) : tPar3 i j l ta D σ H := h
theorem fit_all {n W : Nat} : ∀ {xs : List PyData}, (∀ d ∈ xs, Fit n W d) → PyData.showableAll xs = true ∧ PyData.depthAll xs ≤ n ∧ PyData.leavesShortAll 60 xs = true ∧ PyData.weightAll xs ≤ xs.length * (W + 1)
  | [], _ => ⟨rfl, Nat.zero_le _, rfl, Nat.zero_le _⟩
  | x :: xs, h => by
    have a := h x List.mem_cons_self
    obtain ⟨b1, b2, b3, b4⟩ := fit_all (xs := xs) fun d hd => h d (List.mem_cons_of_mem _ hd)
    refine ⟨?_, ?_, ?_, ?_⟩
    · simp only [PyData.showableAll, a.sh, b1, Bool.and_true]
    · simp only [PyData.depthAll]; have := a.dp; omega
    · simp only [PyData.leavesShortAll, a.lv, b3, Bool.and_true]
    · simp only [PyData.weightAll, List.length_cons, Nat.add_mul]; have := a.wt; omega
theorem fit_tup {n W : Nat} {xs : List PyData} (h : ∀ d ∈ xs, Fit n W d) (hl : xs.length ≤ 4) : Fit (n + 1) (4 * (W + 1)) (.tuple xs) := by
  obtain ⟨b1, b2, b3, b4⟩ := fit_all h
  refine ⟨?_, ?_, ?_, ?_⟩
  · simp only [PyData.showable, b1]
  · simp only [PyData.depth]; omega
  · simp only [PyData.leavesShort, b3]
  · simp only [PyData.weight]
    exact Nat.le_trans b4 (Nat.mul_le_mul_right _ hl)
theorem fit_due {k : Nat} {a b c : PyData} (hk : k < 16) (fa : Fit 2 150 a) (fb : Fit 2 150 b) (fc : Fit 2 150 c) : Fit 3 40000 (due k a b c) := by
  have sa : Fit 2 9360 (.str a.shown) := fa.str.mono (by decide) (by decide)
  have sb : Fit 2 9360 (.str b.shown) := fb.str.mono (by decide) (by decide)
  have ga : Fit 2 9360 a := fa.mono (by decide) (by decide)
  have gb : Fit 2 9360 b := fb.mono (by decide) (by decide)
  have gc : Fit 2 9360 c := fc.mono (by decide) (by decide)
  have fin : ∀ xs : List PyData, (∀ d ∈ xs, Fit 2 9360 d) → xs.length ≤ 4 → Fit 3 40000 (.tuple xs) := fun xs h hl => (fit_tup h hl).mono (by decide) (by decide)
  have tag : ∀ x : Str, ((x.cps.toList.all fun c => decide (c < 16 ^ 8)) && decide (x.cps.size ≤ 9360)) = true → Fit 2 9360 (.str x) := fun x h => by
    simp only [Bool.and_eq_true, decide_eq_true_eq] at h
    exact ⟨rfl, Nat.zero_le _, by simpa only [PyData.leavesShort] using h.1, h.2⟩
  have hcase : k = 0 ∨ k = 1 ∨ k = 2 ∨ k = 3 ∨ k = 4 ∨ k = 5 ∨ k = 6 ∨ k = 7 ∨ k = 8 ∨ k = 9 ∨ k = 10 ∨ k = 11 ∨ k = 12 ∨ k = 13 ∨ k = 14 ∨ k = 15 := by omega
  rcases hcase with rfl | rfl | rfl | rfl | rfl | rfl | rfl | rfl | rfl | rfl | rfl | rfl | rfl | rfl | rfl | rfl
  · refine fin _ (fun d hd => ?_) (by simp)
    simp only [List.mem_cons, List.not_mem_nil, or_false] at hd
    rcases hd with rfl | rfl | rfl
    · exact tag "number" (by decide +kernel)
    · exact ga
    · exact sb
  · refine fin _ (fun d hd => ?_) (by simp)
    simp only [List.mem_cons, List.not_mem_nil, or_false] at hd
    rcases hd with rfl | rfl | rfl
    · exact tag "row" (by decide +kernel)
    · exact ga
    · exact sb
  · refine fin _ (fun d hd => ?_) (by simp)
    simp only [List.mem_cons, List.not_mem_nil, or_false] at hd
    rcases hd with rfl | rfl
    · exact tag "table" (by decide +kernel)
    · exact ga
  · refine fin _ (fun d hd => ?_) (by simp)
    simp only [List.mem_cons, List.not_mem_nil, or_false] at hd
    rcases hd with rfl | rfl
    · exact tag "tree" (by decide +kernel)
    · exact ga
  · refine fin _ (fun d hd => ?_) (by simp)
    simp only [List.mem_cons, List.not_mem_nil, or_false] at hd
    rcases hd with rfl | rfl
    · exact tag "book" (by decide +kernel)
    · exact ga
  · refine fin _ (fun d hd => ?_) (by simp)
    simp only [List.mem_cons, List.not_mem_nil, or_false] at hd
    rcases hd with rfl | rfl
    · exact tag "badname" (by decide +kernel)
    · exact sa
  · refine fin _ (fun d hd => ?_) (by simp)
    simp only [List.mem_cons, List.not_mem_nil, or_false] at hd
    rcases hd with rfl | rfl | rfl
    · exact tag "text" (by decide +kernel)
    · exact ga
    · exact gb
  · refine fin _ (fun d hd => ?_) (by simp)
    simp only [List.mem_cons, List.not_mem_nil, or_false] at hd
    rcases hd with rfl | rfl | rfl
    · exact tag "place" (by decide +kernel)
    · exact ga
    · exact sb
  · refine fin _ (fun d hd => ?_) (by simp)
    simp only [List.mem_cons, List.not_mem_nil, or_false] at hd
    rcases hd with rfl | rfl
    · exact tag "noname" (by decide +kernel)
    · exact sa
  · refine fin _ (fun d hd => ?_) (by simp)
    simp only [List.mem_cons, List.not_mem_nil, or_false] at hd
    rcases hd with rfl | rfl
    · exact tag "taken" (by decide +kernel)
    · exact sa
  · refine fin _ (fun d hd => ?_) (by simp)
    simp only [List.mem_cons, List.not_mem_nil, or_false] at hd
    rcases hd with rfl | rfl
    · exact tag "unlike" (by decide +kernel)
    · exact ga
  · refine fin _ (fun d hd => ?_) (by simp)
    simp only [List.mem_cons, List.not_mem_nil, or_false] at hd
    rcases hd with rfl | rfl
    · exact tag "notthere" (by decide +kernel)
    · exact ga
  · refine fin _ (fun d hd => ?_) (by simp)
    simp only [List.mem_cons, List.not_mem_nil, or_false] at hd
    rcases hd with rfl | rfl | rfl | rfl
    · exact tag "many" (by decide +kernel)
    · exact ga
    · exact gb
    · exact gc
  · refine fin _ (fun d hd => ?_) (by simp)
    simp only [List.mem_cons, List.not_mem_nil, or_false] at hd
    rcases hd with rfl | rfl | rfl
    · exact tag "kept" (by decide +kernel)
    · exact ga
    · exact gb
  · refine fin _ (fun d hd => ?_) (by simp)
    simp only [List.mem_cons, List.not_mem_nil, or_false] at hd
    subst hd
    exact tag "undo" (by decide +kernel)
  · refine fin _ (fun d hd => ?_) (by simp)
    simp only [List.mem_cons, List.not_mem_nil, or_false] at hd
    subst hd
    exact tag "redo" (by decide +kernel)
section
variable {P : Program} {w : World} {K : PySem.W.Frag} {mg : Str → Option Value} {base : Heap} {S : Addr} {Cs : Nat → Addr}
theorem d_law {f : Addr} {fd : FuncData} (F : Fun K "law" "law" s_law f fd) (T : Blt mg) (D0 : Keeps P w K mg base CX0 1 "_law_pen" ["script"] (spPen K)) (D3 : Keeps P w K mg base CX0 3 "_law_any_field" ["pen"] spAny)
    (D4 : Keeps P w K mg base CX0 4 "_law_told" ["kind", "one", "two", "three"] spTold) (D5 : Keeps P w K mg base CX0 1 "_law_due_fields" ["kind", "one", "two", "three"] spDue) : FnG P w K mg base CX0 5 f fd ["script"] (spLaw K) := by
  refine okG F sc_law (fun vs H Q E h => ?_) (fun cdv A outer s H vs Q E hr hg h => ?_)
  · obtain ⟨a, ns, rfl, _⟩ := h
    rfl
  have hu : (A.deeper (envOfC "law" (defScope s_law) s.heap.objs.size f cdv)).units + 65 < cLine := by have := hr.un; omega
  refine ⟨_, PSs.nox (pss_cons (ps_set (i := 1) sc_law.nd rfl (.inl rfl) (pc0 D0 hr hg (pa_cons (pv 0) pa_nil)))
    (pss_cons (ps_for PassesOwn.never rfl (pi_range1 rfl T.b_range (pa_cons pe_int pa_nil)) (pg_name (i := 2) sc_law.nd rfl (.inl rfl)) (pss_cons (ps_par3 (i := 4) (j := 5) (l := 6) rfl sc_law.nd rfl rfl rfl (by decide) (by decide) (by decide) rfl rfl rfl (pa_cons (pc0 D3 hr hg (pa_cons (pv 1) pa_nil)) (pa_cons (pc0 D3 hr hg (pa_cons (pv 1) pa_nil)) (pa_cons (pc0 D3 hr hg (pa_cons (pv 1) pa_nil)) pa_nil))) (by rfl))
    (pss_cons (ps_set (i := 3) sc_law.nd rfl (.inl rfl) (pc0 D4 hr hg (pa_cons (pv 2) (pa_cons (pv 4) (pa_cons (pv 5) (pa_cons (pv 6) pa_nil))))))
    (pss_one (ps_if (PW.pt (pw_or (pt_cmpR o_isN (pv 3) pe_non (nomark _)) (pw_or (pt_cmpR op_ne (pe_callB c_len (by rfl) T.b_len PySem.boot_len (pa_cons (pv 3) pa_nil)) pe_int (nomark _)) (pw_or1 (pt_cmpR op_ne (pe_callB (call_repr hg hu) (by rfl) T.b_repr (by decide +kernel) (pa_cons (pe_ix ix_list (pv 3) pe_int (fun _ _ => rfl)) pa_nil)) (pe_callB (call_repr hg hu) (by rfl) T.b_repr (by decide +kernel) (pa_cons (pc0 D5 hr hg (pa_cons (pv 2) (pa_cons (pv 4) (pa_cons (pv 5) (pa_cons (pv 6) pa_nil))))) pa_nil)) (nomark _)))))) (pss_one (ps_ret pe_bl)) pss_nil)))))
    (pss_one (ps_ret pe_bl)))), ?_⟩
  obtain ⟨a, ns, rfl, hS, fin⟩ := h
  have es : L2.start ["script", "pen", "kind", "told", "one", "two", "three"] [V.ref a] = [some (V.ref a), none, none, none, none, none, none] := rfl
  rw [es]
  walk_at "rds"
  refine ⟨a, ns, rfl, hS, fun p H1 s1 n1 hp => ?_⟩
  walk_at "rds"
  refine ⟨16, rfl, by decide, by decide, for_range (n := 16) (fun i σ H' => ∃ v2 v3 v4 v5 v6 : Option V, σ = [some (.ref a), some (.ref p), v2, v3, v4, v5, v6] ∧ PenOk H' p) ⟨_, _, _, _, _, rfl, hp⟩ ?_ ?_⟩
  · rintro i σ H2 hi ⟨v2, v3, v4, v5, v6, rfl, hp2⟩
    rw [Int.zero_add]
    walk_at "rds"
    refine rr_par3 ?_
    walk_at "rds"
    refine ⟨p, rfl, hp2, fun a1 d1 H3 r1 f1 hp3 s3 => ?_⟩
    walk_at "rds"
    refine ⟨p, rfl, hp3, fun a2 d2 H4 r2 f2 hp4 s4 => ?_⟩
    walk_at "rds"
    refine ⟨p, rfl, hp4, fun a3 d3 H5 r3 f3 hp5 s5 => ?_⟩
    walk_at "rds"
    have q1 : Rp H5 a1 d1 := (r1.same (s4.trans s5).hid).same hid_same
    have q2 : Rp H5 a2 d2 := (r2.same s5.hid).same hid_same
    have q3 : Rp H5 a3 d3 := r3.same hid_same
    refine ⟨a1, a2, a3, rfl, ?_⟩
    dsimp only [List.set]
    walk_at "rds"
    refine ⟨i, a1, a2, a3, d1, d2, d3, rfl, hi, q1, q2, q3, f1, f2, f3, fun l t H6 s6 hl hrp => ?_⟩
    walk_at "rds"
    refine ifF (decide_eq_false fun z => by cases z) ?_
    walk_at "rds"
    refine rr_len (sqL hl) ?_
    walk_at "rds"
    refine ifF (by rfl) ?_
    walk_at "rds"
    refine rr_ixL (sqL hl) (by rfl) ?_
    walk_at "rds"
    have fd := fit_due hi f1 f2 f3
    refine rr_repr hrp fd ?_
    walk_at "rds"
    refine ⟨i, a1, a2, a3, d1, d2, d3, rfl, hi, q1.same s6, q2.same s6, q3.same s6, f1, f2, f3, fun t2 H7 s7 hrp2 => ?_⟩
    walk_at "rds"
    refine rr_repr hrp2 fd ?_
    refine rr_ne rfl ?_
    walk_at "rds"
    refine ifF (by simp) (rr_next ?_)
    exact ⟨_, _, _, _, _, rfl, (hp5.same s6).same s7⟩
  · rintro σ H2 ⟨v2, v3, v4, v5, v6, rfl, hp2⟩
    walk_at "rds"
    exact fin H2
end
end K01
section
open PySem PySem.W PyProof.Rows
set_option maxRecDepth 100000 in
set_option maxHeartbeats 8000000 in
open_top hd for PySem.Challenge.rw_fracsteps_k01_errors
end
namespace K01
open PySem PySem.Spec PyProof.Rows L2 Lx

def chkAll (K : PySem.W.Frag) (S : Addr) (cs : List Addr) : Bool := cs.all fun c => xcB K c && decide (PySem.W.kitOne K (.ref c) (.type "ValueError") = some true) && decide (PySem.W.subIn K (.ref c) (.ref S) = some true) &&
  cs.all fun d => decide (PySem.W.kitOne K (.ref c) (.ref d) = some (decide (c = d)))
theorem chk_at {K : PySem.W.Frag} {S c : Addr} {cs : List Addr} (h : chkAll K S cs = true) (hc : c ∈ cs) : XcF K c ∧ PySem.W.kitOne K (.ref c) (.type "ValueError") = some true ∧ PySem.W.subIn K (.ref c) (.ref S) = some true ∧ ∀ d ∈ cs, PySem.W.kitOne K (.ref c) (.ref d) = some (decide (c = d)) := by
  have z := List.all_eq_true.mp h c hc
  simp only [Bool.and_eq_true, decide_eq_true_eq, List.all_eq_true] at z
  exact ⟨xcB_ok z.1.1.1, z.1.1.2, z.1.2, z.2⟩
theorem nodup_at {α : Type} : ∀ {l : List α} {i j : Nat} {x : α}, l.Nodup → l[i]? = some x → l[j]? = some x → i = j := by
  intro l i j x hn hi hj
  rcases Nat.lt_trichotomy i j with h | h | h
  · obtain ⟨hi', ei⟩ := List.getElem?_eq_some_iff.mp hi
    obtain ⟨hj', ej⟩ := List.getElem?_eq_some_iff.mp hj
    exact absurd (ei.trans ej.symm) (List.pairwise_iff_getElem.mp hn i j hi' hj' h)
  · exact h
  · obtain ⟨hi', ei⟩ := List.getElem?_eq_some_iff.mp hi
    obtain ⟨hj', ej⟩ := List.getElem?_eq_some_iff.mp hj
    exact absurd (ej.trans ei.symm) (List.pairwise_iff_getElem.mp hn j i hj' hi' h)
def csOf (cs : List Addr) (i : Nat) : Addr := cs.getD i 0
theorem csOf_mem {cs : List Addr} (hl : cs.length = 16) {i : Nat} (h : i < 16) : csOf cs i ∈ cs := by
  unfold csOf
  rw [List.getD_eq_getElem?_getD, List.getElem?_eq_getElem (by omega)]
  exact List.getElem_mem _
theorem all_mk {l : PySem.W.OpenLaw} {w : World} {K : PySem.W.Frag} {h : Heap} {mg : Str → Option Value} {fa : Addr} (X : K.In h) (G : h.Ns mainGlobals mg) (hfa : mg "law" = some (.ref fa))
    {S c0 c1 c2 c3 c4 c5 c6 c7 c8 c9 c10 c11 c12 c13 c14 c15 e0 e1 e2 e3 e4 e5 e6 e7 e8 e9 e10 e11 e12 e13 f0 f1 f2 f3 f4 f5 f6 f7 f8 f9 f10 : Addr}
    {oc0 kV0 dc0 pm0 cd0 ct0 : Value} {od0 an0 : Option Addr} {sl0 : Array (Option Value)}
    {oc1 kV1 dc1 pm1 cd1 ct1 : Value} {od1 an1 : Option Addr} {sl1 : Array (Option Value)}
    {oc2 kV2 dc2 pm2 cd2 ct2 : Value} {od2 an2 : Option Addr} {sl2 : Array (Option Value)}
    {oc3 kV3 dc3 pm3 cd3 ct3 : Value} {od3 an3 : Option Addr} {sl3 : Array (Option Value)}
    {oc4 kV4 dc4 pm4 cd4 ct4 : Value} {od4 an4 : Option Addr} {sl4 : Array (Option Value)}
    {oc5 kV5 dc5 pm5 cd5 ct5 : Value} {od5 an5 : Option Addr} {sl5 : Array (Option Value)}
    {oc6 kV6 dc6 pm6 cd6 ct6 : Value} {od6 an6 : Option Addr} {sl6 : Array (Option Value)}
    {oc7 kV7 dc7 pm7 cd7 ct7 : Value} {od7 an7 : Option Addr} {sl7 : Array (Option Value)}
    {oc8 kV8 dc8 pm8 cd8 ct8 : Value} {od8 an8 : Option Addr} {sl8 : Array (Option Value)}
    {oc9 kV9 dc9 pm9 cd9 ct9 : Value} {od9 an9 : Option Addr} {sl9 : Array (Option Value)}
    {oc10 kV10 dc10 pm10 cd10 ct10 : Value} {od10 an10 : Option Addr} {sl10 : Array (Option Value)}
    {nm0 qn0 : Str} {N0 : Addr} {bs0 bm0 sb0 : List Value} {sn0 : List Str} {ab0 : Bool} {co0 : Option Bool} {dd0 : Option Addr} {ma0 mb0 mc0 md0 me0 : Option Value}
    {ec0 eV0 ed0 ep0 eq0 et0 : Value} {eo0 ea0 : Option Addr} {es0 : Array (Option Value)}
    {nm1 qn1 : Str} {N1 : Addr} {bs1 bm1 sb1 : List Value} {sn1 : List Str} {ab1 : Bool} {co1 : Option Bool} {dd1 : Option Addr} {ma1 mb1 mc1 md1 me1 : Option Value}
    {ec1 eV1 ed1 ep1 eq1 et1 : Value} {eo1 ea1 : Option Addr} {es1 : Array (Option Value)}
    {nm2 qn2 : Str} {N2 : Addr} {bs2 bm2 sb2 : List Value} {sn2 : List Str} {ab2 : Bool} {co2 : Option Bool} {dd2 : Option Addr} {ma2 mb2 mc2 md2 me2 : Option Value}
    {ec2 eV2 ed2 ep2 eq2 et2 : Value} {eo2 ea2 : Option Addr} {es2 : Array (Option Value)}
    {nm3 qn3 : Str} {N3 : Addr} {bs3 bm3 sb3 : List Value} {sn3 : List Str} {ab3 : Bool} {co3 : Option Bool} {dd3 : Option Addr} {ma3 mb3 mc3 md3 me3 : Option Value}
    {ec3 eV3 ed3 ep3 eq3 et3 : Value} {eo3 ea3 : Option Addr} {es3 : Array (Option Value)}
    {nm4 qn4 : Str} {N4 : Addr} {bs4 bm4 sb4 : List Value} {sn4 : List Str} {ab4 : Bool} {co4 : Option Bool} {dd4 : Option Addr} {ma4 mb4 mc4 md4 me4 : Option Value}
    {ec4 eV4 ed4 ep4 eq4 et4 : Value} {eo4 ea4 : Option Addr} {es4 : Array (Option Value)}
    {nm5 qn5 : Str} {N5 : Addr} {bs5 bm5 sb5 : List Value} {sn5 : List Str} {ab5 : Bool} {co5 : Option Bool} {dd5 : Option Addr} {ma5 mb5 mc5 md5 me5 : Option Value}
    {ec5 eV5 ed5 ep5 eq5 et5 : Value} {eo5 ea5 : Option Addr} {es5 : Array (Option Value)}
    {nm6 qn6 : Str} {N6 : Addr} {bs6 bm6 sb6 : List Value} {sn6 : List Str} {ab6 : Bool} {co6 : Option Bool} {dd6 : Option Addr} {ma6 mb6 mc6 md6 me6 : Option Value}
    {ec6 eV6 ed6 ep6 eq6 et6 : Value} {eo6 ea6 : Option Addr} {es6 : Array (Option Value)}
    {nm7 qn7 : Str} {N7 : Addr} {bs7 bm7 sb7 : List Value} {sn7 : List Str} {ab7 : Bool} {co7 : Option Bool} {dd7 : Option Addr} {ma7 mb7 mc7 md7 me7 : Option Value}
    {ec7 eV7 ed7 ep7 eq7 et7 : Value} {eo7 ea7 : Option Addr} {es7 : Array (Option Value)}
    {nm8 qn8 : Str} {N8 : Addr} {bs8 bm8 sb8 : List Value} {sn8 : List Str} {ab8 : Bool} {co8 : Option Bool} {dd8 : Option Addr} {ma8 mb8 mc8 md8 me8 : Option Value}
    {ec8 eV8 ed8 ep8 eq8 et8 : Value} {eo8 ea8 : Option Addr} {es8 : Array (Option Value)}
    {nm9 qn9 : Str} {N9 : Addr} {bs9 bm9 sb9 : List Value} {sn9 : List Str} {ab9 : Bool} {co9 : Option Bool} {dd9 : Option Addr} {ma9 mb9 mc9 md9 me9 : Option Value}
    {ec9 eV9 ed9 ep9 eq9 et9 : Value} {eo9 ea9 : Option Addr} {es9 : Array (Option Value)}
    {nm10 qn10 : Str} {N10 : Addr} {bs10 bm10 sb10 : List Value} {sn10 : List Str} {ab10 : Bool} {co10 : Option Bool} {dd10 : Option Addr} {ma10 mb10 mc10 md10 me10 : Option Value}
    {ec10 eV10 ed10 ep10 eq10 et10 : Value} {eo10 ea10 : Option Addr} {es10 : Array (Option Value)}
    {nm11 qn11 : Str} {N11 : Addr} {bs11 bm11 sb11 : List Value} {sn11 : List Str} {ab11 : Bool} {co11 : Option Bool} {dd11 : Option Addr} {ma11 mb11 mc11 md11 me11 : Option Value}
    {ec11 eV11 ed11 ep11 eq11 et11 : Value} {eo11 ea11 : Option Addr} {es11 : Array (Option Value)}
    {nm12 qn12 : Str} {N12 : Addr} {bs12 bm12 sb12 : List Value} {sn12 : List Str} {ab12 : Bool} {co12 : Option Bool} {dd12 : Option Addr} {ma12 mb12 mc12 md12 me12 : Option Value}
    {ec12 eV12 ed12 ep12 eq12 et12 : Value} {eo12 ea12 : Option Addr} {es12 : Array (Option Value)}
    {nm13 qn13 : Str} {N13 : Addr} {bs13 bm13 sb13 : List Value} {sn13 : List Str} {ab13 : Bool} {co13 : Option Bool} {dd13 : Option Addr} {ma13 mb13 mc13 md13 me13 : Option Value}
    {ec13 eV13 ed13 ep13 eq13 et13 : Value} {eo13 ea13 : Option Addr} {es13 : Array (Option Value)}
    (aS : PySem.W.nsIn K mainGlobals "StepError" = some (some (.ref S)))
    (a0 : PySem.W.nsIn K mainGlobals "BadNumber" = some (some (.ref c0)))
    (a1 : PySem.W.nsIn K mainGlobals "BadRow" = some (some (.ref c1)))
    (a2 : PySem.W.nsIn K mainGlobals "BadTable" = some (some (.ref c2)))
    (a3 : PySem.W.nsIn K mainGlobals "BadTree" = some (some (.ref c3)))
    (a4 : PySem.W.nsIn K mainGlobals "BadBook" = some (some (.ref c4)))
    (a5 : PySem.W.nsIn K mainGlobals "BadName" = some (some (.ref c5)))
    (a6 : PySem.W.nsIn K mainGlobals "BadText" = some (some (.ref c6)))
    (a7 : PySem.W.nsIn K mainGlobals "NoPlace" = some (some (.ref c7)))
    (a8 : PySem.W.nsIn K mainGlobals "NoName" = some (some (.ref c8)))
    (a9 : PySem.W.nsIn K mainGlobals "TakenName" = some (some (.ref c9)))
    (a10 : PySem.W.nsIn K mainGlobals "Unlike" = some (some (.ref c10)))
    (a11 : PySem.W.nsIn K mainGlobals "NotThere" = some (some (.ref c11)))
    (a12 : PySem.W.nsIn K mainGlobals "TooMany" = some (some (.ref c12)))
    (a13 : PySem.W.nsIn K mainGlobals "NotKept" = some (some (.ref c13)))
    (a14 : PySem.W.nsIn K mainGlobals "NothingToUndo" = some (some (.ref c14)))
    (a15 : PySem.W.nsIn K mainGlobals "NothingToRedo" = some (some (.ref c15)))
    (g0 : PySem.W.nsIn K mainGlobals "_law_pen" = some (some (.ref f0)))
    (g1 : PySem.W.nsIn K mainGlobals "_law_draw" = some (some (.ref f1)))
    (g2 : PySem.W.nsIn K mainGlobals "_law_pick" = some (some (.ref f2)))
    (g3 : PySem.W.nsIn K mainGlobals "_law_kinds" = some (some (.ref f3)))
    (g4 : PySem.W.nsIn K mainGlobals "_law_more_kinds" = some (some (.ref f4)))
    (g5 : PySem.W.nsIn K mainGlobals "_law_any_field" = some (some (.ref f5)))
    (g6 : PySem.W.nsIn K mainGlobals "_law_raised" = some (some (.ref f6)))
    (g7 : PySem.W.nsIn K mainGlobals "_law_raised_too" = some (some (.ref f7)))
    (g8 : PySem.W.nsIn K mainGlobals "_law_told" = some (some (.ref f8)))
    (g9 : PySem.W.nsIn K mainGlobals "_law_due_fields" = some (some (.ref f9)))
    (g10 : PySem.W.nsIn K mainGlobals "law" = some (some (.ref f10)))
    (z_int : PySem.W.nsIn K mainGlobals "int" = some none)
    (z_list : PySem.W.nsIn K mainGlobals "list" = some none)
    (z_len : PySem.W.nsIn K mainGlobals "len" = some none)
    (z_range : PySem.W.nsIn K mainGlobals "range" = some none)
    (z_repr : PySem.W.nsIn K mainGlobals "repr" = some none)
    (z_isinstance : PySem.W.nsIn K mainGlobals "isinstance" = some none)
    (z_ValueError : PySem.W.nsIn K mainGlobals "ValueError" = some none)
    (l0 : K.lookup f0 = some ⟨oc0, od0, .func (PySem.W.fnOf "_law_pen" "_law_pen" (defArgs s_law_pen) (defBody s_law_pen) (defScope s_law_pen) .none kV0 dc0 pm0 an0 cd0 ct0), sl0⟩)
    (d0 : PySem.W.codeIn K cd0 "_law_pen" = true)
    (k0 : PySem.W.keepIn K (.ref f0) = true)
    (l1 : K.lookup f1 = some ⟨oc1, od1, .func (PySem.W.fnOf "_law_draw" "_law_draw" (defArgs s_law_draw) (defBody s_law_draw) (defScope s_law_draw) .none kV1 dc1 pm1 an1 cd1 ct1), sl1⟩)
    (d1 : PySem.W.codeIn K cd1 "_law_draw" = true)
    (k1 : PySem.W.keepIn K (.ref f1) = true)
    (l2 : K.lookup f2 = some ⟨oc2, od2, .func (PySem.W.fnOf "_law_pick" "_law_pick" (defArgs s_law_pick) (defBody s_law_pick) (defScope s_law_pick) .none kV2 dc2 pm2 an2 cd2 ct2), sl2⟩)
    (d2 : PySem.W.codeIn K cd2 "_law_pick" = true)
    (k2 : PySem.W.keepIn K (.ref f2) = true)
    (l3 : K.lookup f3 = some ⟨oc3, od3, .func (PySem.W.fnOf "_law_kinds" "_law_kinds" (defArgs s_law_kinds) (defBody s_law_kinds) (defScope s_law_kinds) .none kV3 dc3 pm3 an3 cd3 ct3), sl3⟩)
    (d3 : PySem.W.codeIn K cd3 "_law_kinds" = true)
    (k3 : PySem.W.keepIn K (.ref f3) = true)
    (l4 : K.lookup f4 = some ⟨oc4, od4, .func (PySem.W.fnOf "_law_more_kinds" "_law_more_kinds" (defArgs s_law_more_kinds) (defBody s_law_more_kinds) (defScope s_law_more_kinds) .none kV4 dc4 pm4 an4 cd4 ct4), sl4⟩)
    (d4 : PySem.W.codeIn K cd4 "_law_more_kinds" = true)
    (k4 : PySem.W.keepIn K (.ref f4) = true)
    (l5 : K.lookup f5 = some ⟨oc5, od5, .func (PySem.W.fnOf "_law_any_field" "_law_any_field" (defArgs s_law_any_field) (defBody s_law_any_field) (defScope s_law_any_field) .none kV5 dc5 pm5 an5 cd5 ct5), sl5⟩)
    (d5 : PySem.W.codeIn K cd5 "_law_any_field" = true)
    (k5 : PySem.W.keepIn K (.ref f5) = true)
    (l6 : K.lookup f6 = some ⟨oc6, od6, .func (PySem.W.fnOf "_law_raised" "_law_raised" (defArgs s_law_raised) (defBody s_law_raised) (defScope s_law_raised) .none kV6 dc6 pm6 an6 cd6 ct6), sl6⟩)
    (d6 : PySem.W.codeIn K cd6 "_law_raised" = true)
    (k6 : PySem.W.keepIn K (.ref f6) = true)
    (l7 : K.lookup f7 = some ⟨oc7, od7, .func (PySem.W.fnOf "_law_raised_too" "_law_raised_too" (defArgs s_law_raised_too) (defBody s_law_raised_too) (defScope s_law_raised_too) .none kV7 dc7 pm7 an7 cd7 ct7), sl7⟩)
    (d7 : PySem.W.codeIn K cd7 "_law_raised_too" = true)
    (k7 : PySem.W.keepIn K (.ref f7) = true)
    (l8 : K.lookup f8 = some ⟨oc8, od8, .func (PySem.W.fnOf "_law_told" "_law_told" (defArgs s_law_told) (defBody s_law_told) (defScope s_law_told) .none kV8 dc8 pm8 an8 cd8 ct8), sl8⟩)
    (d8 : PySem.W.codeIn K cd8 "_law_told" = true)
    (k8 : PySem.W.keepIn K (.ref f8) = true)
    (l9 : K.lookup f9 = some ⟨oc9, od9, .func (PySem.W.fnOf "_law_due_fields" "_law_due_fields" (defArgs s_law_due_fields) (defBody s_law_due_fields) (defScope s_law_due_fields) .none kV9 dc9 pm9 an9 cd9 ct9), sl9⟩)
    (d9 : PySem.W.codeIn K cd9 "_law_due_fields" = true)
    (k9 : PySem.W.keepIn K (.ref f9) = true)
    (l10 : K.lookup f10 = some ⟨oc10, od10, .func (PySem.W.fnOf "law" "law" (defArgs s_law) (defBody s_law) (defScope s_law) .none kV10 dc10 pm10 an10 cd10 ct10), sl10⟩)
    (d10 : PySem.W.codeIn K cd10 "law" = true)
    (k10 : PySem.W.keepIn K (.ref f10) = true)
    (x0 : K.lookup c0 = some (excClassObj nm0 qn0 c0 N0 bs0 bm0 true sn0 sb0 ab0 co0 dd0 ma0 mb0 mc0 md0 me0 "ValueError.__new__"))
    (r0 : PySem.HandSPX.refsVE bm0 = true)
    (sa0 : PySem.W.findIn K (.ref c0) "__setattr__" = some (some (.builtin "object.__setattr__")))
    (ty0 : PySem.W.typeIn K (.ref c0) = some (.type "type"))
    (kc0 : PySem.W.keepIn K (.ref c0) = true)
    (i0 : PySem.W.findIn K (.ref c0) "__init__" = some (some (.ref e0)))
    (t0 : PySem.W.typeIn K (.ref e0) = some (.type "function"))
    (el0 : K.lookup e0 = some ⟨ec0, eo0, .func (PySem.W.fnOf "__init__" "BadNumber.__init__" (defArgs (inClass (topS 2) 0)) (defBody (inClass (topS 2) 0)) (defScope (inClass (topS 2) 0)) .none eV0 ed0 ep0 ea0 eq0 et0), es0⟩)
    (em0 : PySem.W.codeIn K eq0 "BadNumber.__init__" = true)
    (ek0 : PySem.W.keepIn K (.ref e0) = true)
    (n0_0 : PySem.W.findIn K (.ref c0) "what" = some none)
    (n0_1 : PySem.W.findIn K (.ref c0) "number" = some none)
    (x1 : K.lookup c1 = some (excClassObj nm1 qn1 c1 N1 bs1 bm1 true sn1 sb1 ab1 co1 dd1 ma1 mb1 mc1 md1 me1 "ValueError.__new__"))
    (r1 : PySem.HandSPX.refsVE bm1 = true)
    (sa1 : PySem.W.findIn K (.ref c1) "__setattr__" = some (some (.builtin "object.__setattr__")))
    (ty1 : PySem.W.typeIn K (.ref c1) = some (.type "type"))
    (kc1 : PySem.W.keepIn K (.ref c1) = true)
    (i1 : PySem.W.findIn K (.ref c1) "__init__" = some (some (.ref e1)))
    (t1 : PySem.W.typeIn K (.ref e1) = some (.type "function"))
    (el1 : K.lookup e1 = some ⟨ec1, eo1, .func (PySem.W.fnOf "__init__" "BadRow.__init__" (defArgs (inClass (topS 3) 0)) (defBody (inClass (topS 3) 0)) (defScope (inClass (topS 3) 0)) .none eV1 ed1 ep1 ea1 eq1 et1), es1⟩)
    (em1 : PySem.W.codeIn K eq1 "BadRow.__init__" = true)
    (ek1 : PySem.W.keepIn K (.ref e1) = true)
    (n1_0 : PySem.W.findIn K (.ref c1) "what" = some none)
    (n1_1 : PySem.W.findIn K (.ref c1) "row" = some none)
    (x2 : K.lookup c2 = some (excClassObj nm2 qn2 c2 N2 bs2 bm2 true sn2 sb2 ab2 co2 dd2 ma2 mb2 mc2 md2 me2 "ValueError.__new__"))
    (r2 : PySem.HandSPX.refsVE bm2 = true)
    (sa2 : PySem.W.findIn K (.ref c2) "__setattr__" = some (some (.builtin "object.__setattr__")))
    (ty2 : PySem.W.typeIn K (.ref c2) = some (.type "type"))
    (kc2 : PySem.W.keepIn K (.ref c2) = true)
    (i2 : PySem.W.findIn K (.ref c2) "__init__" = some (some (.ref e2)))
    (t2 : PySem.W.typeIn K (.ref e2) = some (.type "function"))
    (el2 : K.lookup e2 = some ⟨ec2, eo2, .func (PySem.W.fnOf "__init__" "BadTable.__init__" (defArgs (inClass (topS 4) 0)) (defBody (inClass (topS 4) 0)) (defScope (inClass (topS 4) 0)) .none eV2 ed2 ep2 ea2 eq2 et2), es2⟩)
    (em2 : PySem.W.codeIn K eq2 "BadTable.__init__" = true)
    (ek2 : PySem.W.keepIn K (.ref e2) = true)
    (n2_0 : PySem.W.findIn K (.ref c2) "what" = some none)
    (x3 : K.lookup c3 = some (excClassObj nm3 qn3 c3 N3 bs3 bm3 true sn3 sb3 ab3 co3 dd3 ma3 mb3 mc3 md3 me3 "ValueError.__new__"))
    (r3 : PySem.HandSPX.refsVE bm3 = true)
    (sa3 : PySem.W.findIn K (.ref c3) "__setattr__" = some (some (.builtin "object.__setattr__")))
    (ty3 : PySem.W.typeIn K (.ref c3) = some (.type "type"))
    (kc3 : PySem.W.keepIn K (.ref c3) = true)
    (i3 : PySem.W.findIn K (.ref c3) "__init__" = some (some (.ref e3)))
    (t3 : PySem.W.typeIn K (.ref e3) = some (.type "function"))
    (el3 : K.lookup e3 = some ⟨ec3, eo3, .func (PySem.W.fnOf "__init__" "BadTree.__init__" (defArgs (inClass (topS 5) 0)) (defBody (inClass (topS 5) 0)) (defScope (inClass (topS 5) 0)) .none eV3 ed3 ep3 ea3 eq3 et3), es3⟩)
    (em3 : PySem.W.codeIn K eq3 "BadTree.__init__" = true)
    (ek3 : PySem.W.keepIn K (.ref e3) = true)
    (n3_0 : PySem.W.findIn K (.ref c3) "what" = some none)
    (x4 : K.lookup c4 = some (excClassObj nm4 qn4 c4 N4 bs4 bm4 true sn4 sb4 ab4 co4 dd4 ma4 mb4 mc4 md4 me4 "ValueError.__new__"))
    (r4 : PySem.HandSPX.refsVE bm4 = true)
    (sa4 : PySem.W.findIn K (.ref c4) "__setattr__" = some (some (.builtin "object.__setattr__")))
    (ty4 : PySem.W.typeIn K (.ref c4) = some (.type "type"))
    (kc4 : PySem.W.keepIn K (.ref c4) = true)
    (i4 : PySem.W.findIn K (.ref c4) "__init__" = some (some (.ref e4)))
    (t4 : PySem.W.typeIn K (.ref e4) = some (.type "function"))
    (el4 : K.lookup e4 = some ⟨ec4, eo4, .func (PySem.W.fnOf "__init__" "BadBook.__init__" (defArgs (inClass (topS 6) 0)) (defBody (inClass (topS 6) 0)) (defScope (inClass (topS 6) 0)) .none eV4 ed4 ep4 ea4 eq4 et4), es4⟩)
    (em4 : PySem.W.codeIn K eq4 "BadBook.__init__" = true)
    (ek4 : PySem.W.keepIn K (.ref e4) = true)
    (n4_0 : PySem.W.findIn K (.ref c4) "what" = some none)
    (x5 : K.lookup c5 = some (excClassObj nm5 qn5 c5 N5 bs5 bm5 true sn5 sb5 ab5 co5 dd5 ma5 mb5 mc5 md5 me5 "ValueError.__new__"))
    (r5 : PySem.HandSPX.refsVE bm5 = true)
    (sa5 : PySem.W.findIn K (.ref c5) "__setattr__" = some (some (.builtin "object.__setattr__")))
    (ty5 : PySem.W.typeIn K (.ref c5) = some (.type "type"))
    (kc5 : PySem.W.keepIn K (.ref c5) = true)
    (i5 : PySem.W.findIn K (.ref c5) "__init__" = some (some (.ref e5)))
    (t5 : PySem.W.typeIn K (.ref e5) = some (.type "function"))
    (el5 : K.lookup e5 = some ⟨ec5, eo5, .func (PySem.W.fnOf "__init__" "BadName.__init__" (defArgs (inClass (topS 7) 0)) (defBody (inClass (topS 7) 0)) (defScope (inClass (topS 7) 0)) .none eV5 ed5 ep5 ea5 eq5 et5), es5⟩)
    (em5 : PySem.W.codeIn K eq5 "BadName.__init__" = true)
    (ek5 : PySem.W.keepIn K (.ref e5) = true)
    (n5_0 : PySem.W.findIn K (.ref c5) "name" = some none)
    (x6 : K.lookup c6 = some (excClassObj nm6 qn6 c6 N6 bs6 bm6 true sn6 sb6 ab6 co6 dd6 ma6 mb6 mc6 md6 me6 "ValueError.__new__"))
    (r6 : PySem.HandSPX.refsVE bm6 = true)
    (sa6 : PySem.W.findIn K (.ref c6) "__setattr__" = some (some (.builtin "object.__setattr__")))
    (ty6 : PySem.W.typeIn K (.ref c6) = some (.type "type"))
    (kc6 : PySem.W.keepIn K (.ref c6) = true)
    (i6 : PySem.W.findIn K (.ref c6) "__init__" = some (some (.ref e6)))
    (t6 : PySem.W.typeIn K (.ref e6) = some (.type "function"))
    (el6 : K.lookup e6 = some ⟨ec6, eo6, .func (PySem.W.fnOf "__init__" "BadText.__init__" (defArgs (inClass (topS 8) 0)) (defBody (inClass (topS 8) 0)) (defScope (inClass (topS 8) 0)) .none eV6 ed6 ep6 ea6 eq6 et6), es6⟩)
    (em6 : PySem.W.codeIn K eq6 "BadText.__init__" = true)
    (ek6 : PySem.W.keepIn K (.ref e6) = true)
    (n6_0 : PySem.W.findIn K (.ref c6) "line" = some none)
    (n6_1 : PySem.W.findIn K (.ref c6) "word" = some none)
    (x7 : K.lookup c7 = some (excClassObj nm7 qn7 c7 N7 bs7 bm7 true sn7 sb7 ab7 co7 dd7 ma7 mb7 mc7 md7 me7 "ValueError.__new__"))
    (r7 : PySem.HandSPX.refsVE bm7 = true)
    (sa7 : PySem.W.findIn K (.ref c7) "__setattr__" = some (some (.builtin "object.__setattr__")))
    (ty7 : PySem.W.typeIn K (.ref c7) = some (.type "type"))
    (kc7 : PySem.W.keepIn K (.ref c7) = true)
    (i7 : PySem.W.findIn K (.ref c7) "__init__" = some (some (.ref e7)))
    (t7 : PySem.W.typeIn K (.ref e7) = some (.type "function"))
    (el7 : K.lookup e7 = some ⟨ec7, eo7, .func (PySem.W.fnOf "__init__" "NoPlace.__init__" (defArgs (inClass (topS 9) 0)) (defBody (inClass (topS 9) 0)) (defScope (inClass (topS 9) 0)) .none eV7 ed7 ep7 ea7 eq7 et7), es7⟩)
    (em7 : PySem.W.codeIn K eq7 "NoPlace.__init__" = true)
    (ek7 : PySem.W.keepIn K (.ref e7) = true)
    (n7_0 : PySem.W.findIn K (.ref c7) "what" = some none)
    (n7_1 : PySem.W.findIn K (.ref c7) "index" = some none)
    (x8 : K.lookup c8 = some (excClassObj nm8 qn8 c8 N8 bs8 bm8 true sn8 sb8 ab8 co8 dd8 ma8 mb8 mc8 md8 me8 "ValueError.__new__"))
    (r8 : PySem.HandSPX.refsVE bm8 = true)
    (sa8 : PySem.W.findIn K (.ref c8) "__setattr__" = some (some (.builtin "object.__setattr__")))
    (ty8 : PySem.W.typeIn K (.ref c8) = some (.type "type"))
    (kc8 : PySem.W.keepIn K (.ref c8) = true)
    (i8 : PySem.W.findIn K (.ref c8) "__init__" = some (some (.ref e8)))
    (t8 : PySem.W.typeIn K (.ref e8) = some (.type "function"))
    (el8 : K.lookup e8 = some ⟨ec8, eo8, .func (PySem.W.fnOf "__init__" "NoName.__init__" (defArgs (inClass (topS 10) 0)) (defBody (inClass (topS 10) 0)) (defScope (inClass (topS 10) 0)) .none eV8 ed8 ep8 ea8 eq8 et8), es8⟩)
    (em8 : PySem.W.codeIn K eq8 "NoName.__init__" = true)
    (ek8 : PySem.W.keepIn K (.ref e8) = true)
    (n8_0 : PySem.W.findIn K (.ref c8) "name" = some none)
    (x9 : K.lookup c9 = some (excClassObj nm9 qn9 c9 N9 bs9 bm9 true sn9 sb9 ab9 co9 dd9 ma9 mb9 mc9 md9 me9 "ValueError.__new__"))
    (r9 : PySem.HandSPX.refsVE bm9 = true)
    (sa9 : PySem.W.findIn K (.ref c9) "__setattr__" = some (some (.builtin "object.__setattr__")))
    (ty9 : PySem.W.typeIn K (.ref c9) = some (.type "type"))
    (kc9 : PySem.W.keepIn K (.ref c9) = true)
    (i9 : PySem.W.findIn K (.ref c9) "__init__" = some (some (.ref e9)))
    (t9 : PySem.W.typeIn K (.ref e9) = some (.type "function"))
    (el9 : K.lookup e9 = some ⟨ec9, eo9, .func (PySem.W.fnOf "__init__" "TakenName.__init__" (defArgs (inClass (topS 11) 0)) (defBody (inClass (topS 11) 0)) (defScope (inClass (topS 11) 0)) .none eV9 ed9 ep9 ea9 eq9 et9), es9⟩)
    (em9 : PySem.W.codeIn K eq9 "TakenName.__init__" = true)
    (ek9 : PySem.W.keepIn K (.ref e9) = true)
    (n9_0 : PySem.W.findIn K (.ref c9) "name" = some none)
    (x10 : K.lookup c10 = some (excClassObj nm10 qn10 c10 N10 bs10 bm10 true sn10 sb10 ab10 co10 dd10 ma10 mb10 mc10 md10 me10 "ValueError.__new__"))
    (r10 : PySem.HandSPX.refsVE bm10 = true)
    (sa10 : PySem.W.findIn K (.ref c10) "__setattr__" = some (some (.builtin "object.__setattr__")))
    (ty10 : PySem.W.typeIn K (.ref c10) = some (.type "type"))
    (kc10 : PySem.W.keepIn K (.ref c10) = true)
    (i10 : PySem.W.findIn K (.ref c10) "__init__" = some (some (.ref e10)))
    (t10 : PySem.W.typeIn K (.ref e10) = some (.type "function"))
    (el10 : K.lookup e10 = some ⟨ec10, eo10, .func (PySem.W.fnOf "__init__" "Unlike.__init__" (defArgs (inClass (topS 12) 0)) (defBody (inClass (topS 12) 0)) (defScope (inClass (topS 12) 0)) .none eV10 ed10 ep10 ea10 eq10 et10), es10⟩)
    (em10 : PySem.W.codeIn K eq10 "Unlike.__init__" = true)
    (ek10 : PySem.W.keepIn K (.ref e10) = true)
    (n10_0 : PySem.W.findIn K (.ref c10) "what" = some none)
    (x11 : K.lookup c11 = some (excClassObj nm11 qn11 c11 N11 bs11 bm11 true sn11 sb11 ab11 co11 dd11 ma11 mb11 mc11 md11 me11 "ValueError.__new__"))
    (r11 : PySem.HandSPX.refsVE bm11 = true)
    (sa11 : PySem.W.findIn K (.ref c11) "__setattr__" = some (some (.builtin "object.__setattr__")))
    (ty11 : PySem.W.typeIn K (.ref c11) = some (.type "type"))
    (kc11 : PySem.W.keepIn K (.ref c11) = true)
    (i11 : PySem.W.findIn K (.ref c11) "__init__" = some (some (.ref e11)))
    (t11 : PySem.W.typeIn K (.ref e11) = some (.type "function"))
    (el11 : K.lookup e11 = some ⟨ec11, eo11, .func (PySem.W.fnOf "__init__" "NotThere.__init__" (defArgs (inClass (topS 13) 0)) (defBody (inClass (topS 13) 0)) (defScope (inClass (topS 13) 0)) .none eV11 ed11 ep11 ea11 eq11 et11), es11⟩)
    (em11 : PySem.W.codeIn K eq11 "NotThere.__init__" = true)
    (ek11 : PySem.W.keepIn K (.ref e11) = true)
    (n11_0 : PySem.W.findIn K (.ref c11) "paper" = some none)
    (x12 : K.lookup c12 = some (excClassObj nm12 qn12 c12 N12 bs12 bm12 true sn12 sb12 ab12 co12 dd12 ma12 mb12 mc12 md12 me12 "ValueError.__new__"))
    (r12 : PySem.HandSPX.refsVE bm12 = true)
    (sa12 : PySem.W.findIn K (.ref c12) "__setattr__" = some (some (.builtin "object.__setattr__")))
    (ty12 : PySem.W.typeIn K (.ref c12) = some (.type "type"))
    (kc12 : PySem.W.keepIn K (.ref c12) = true)
    (i12 : PySem.W.findIn K (.ref c12) "__init__" = some (some (.ref e12)))
    (t12 : PySem.W.typeIn K (.ref e12) = some (.type "function"))
    (el12 : K.lookup e12 = some ⟨ec12, eo12, .func (PySem.W.fnOf "__init__" "TooMany.__init__" (defArgs (inClass (topS 14) 0)) (defBody (inClass (topS 14) 0)) (defScope (inClass (topS 14) 0)) .none eV12 ed12 ep12 ea12 eq12 et12), es12⟩)
    (em12 : PySem.W.codeIn K eq12 "TooMany.__init__" = true)
    (ek12 : PySem.W.keepIn K (.ref e12) = true)
    (n12_0 : PySem.W.findIn K (.ref c12) "what" = some none)
    (n12_1 : PySem.W.findIn K (.ref c12) "many" = some none)
    (n12_2 : PySem.W.findIn K (.ref c12) "limit" = some none)
    (x13 : K.lookup c13 = some (excClassObj nm13 qn13 c13 N13 bs13 bm13 true sn13 sb13 ab13 co13 dd13 ma13 mb13 mc13 md13 me13 "ValueError.__new__"))
    (r13 : PySem.HandSPX.refsVE bm13 = true)
    (sa13 : PySem.W.findIn K (.ref c13) "__setattr__" = some (some (.builtin "object.__setattr__")))
    (ty13 : PySem.W.typeIn K (.ref c13) = some (.type "type"))
    (kc13 : PySem.W.keepIn K (.ref c13) = true)
    (i13 : PySem.W.findIn K (.ref c13) "__init__" = some (some (.ref e13)))
    (t13 : PySem.W.typeIn K (.ref e13) = some (.type "function"))
    (el13 : K.lookup e13 = some ⟨ec13, eo13, .func (PySem.W.fnOf "__init__" "NotKept.__init__" (defArgs (inClass (topS 15) 0)) (defBody (inClass (topS 15) 0)) (defScope (inClass (topS 15) 0)) .none eV13 ed13 ep13 ea13 eq13 et13), es13⟩)
    (em13 : PySem.W.codeIn K eq13 "NotKept.__init__" = true)
    (ek13 : PySem.W.keepIn K (.ref e13) = true)
    (n13_0 : PySem.W.findIn K (.ref c13) "promise" = some none)
    (n13_1 : PySem.W.findIn K (.ref c13) "witness" = some none)
    (u14 : PySem.W.excIn K c14 [.type "ValueError", .type "Exception", .type "BaseException", .type "object"] "ValueError.__new__" = true)
    (kc14 : PySem.W.keepIn K (.ref c14) = true)
    (ty14 : PySem.W.typeIn K (.ref c14) = some (.type "type"))
    (u15 : PySem.W.excIn K c15 [.type "ValueError", .type "Exception", .type "BaseException", .type "object"] "ValueError.__new__" = true)
    (kc15 : PySem.W.keepIn K (.ref c15) = true)
    (ty15 : PySem.W.typeIn K (.ref c15) = some (.type "type"))
    (tS : PySem.W.typeIn K (.ref S) = some (.type "type"))
    (hS : PySem.W.hasDictIn K S = true)
    (bS : PySem.W.subIn K (.ref S) (.type "BaseException") = some true)
    (chk : chkAll K S [c0, c1, c2, c3, c4, c5, c6, c7, c8, c9, c10, c11, c12, c13, c14, c15] = true)
    (ndp : (decide ([c0, c1, c2, c3, c4, c5, c6, c7, c8, c9, c10, c11, c12, c13, c14, c15] : List Addr).Nodup) = true) :
    ∃ fd : FuncData, (∀ (s : Shared) (v : Value), BindsTo s fd ⟨[v], []⟩ [("script", v)]) ∧ ∀ base : Heap, K.In base → base.Ns mainGlobals mg → FnG l.prog w K mg base CX0 5 fa fd ["script"] (spLaw K) := by
  have e := hfa.symm.trans (PySem.W.mg_of X G g10)
  cases e
  have F0 := fun_mk (x := "_law_pen") (qual := "_law_pen") (st := s_law_pen) l0 d0 k0
  have F1 := fun_mk (x := "_law_draw") (qual := "_law_draw") (st := s_law_draw) l1 d1 k1
  have F2 := fun_mk (x := "_law_pick") (qual := "_law_pick") (st := s_law_pick) l2 d2 k2
  have F3 := fun_mk (x := "_law_kinds") (qual := "_law_kinds") (st := s_law_kinds) l3 d3 k3
  have F4 := fun_mk (x := "_law_more_kinds") (qual := "_law_more_kinds") (st := s_law_more_kinds) l4 d4 k4
  have F5 := fun_mk (x := "_law_any_field") (qual := "_law_any_field") (st := s_law_any_field) l5 d5 k5
  have F6 := fun_mk (x := "_law_raised") (qual := "_law_raised") (st := s_law_raised) l6 d6 k6
  have F7 := fun_mk (x := "_law_raised_too") (qual := "_law_raised_too") (st := s_law_raised_too) l7 d7 k7
  have F8 := fun_mk (x := "_law_told") (qual := "_law_told") (st := s_law_told) l8 d8 k8
  have F9 := fun_mk (x := "_law_due_fields") (qual := "_law_due_fields") (st := s_law_due_fields) l9 d9 k9
  have F10 := fun_mk (x := "law") (qual := "law") (st := s_law) l10 d10 k10
  have H0 : Has K mg "_law_pen" s_law_pen := ⟨_, _, F0, PySem.W.mg_of X G g0⟩
  have H1 : Has K mg "_law_draw" s_law_draw := ⟨_, _, F1, PySem.W.mg_of X G g1⟩
  have H2 : Has K mg "_law_pick" s_law_pick := ⟨_, _, F2, PySem.W.mg_of X G g2⟩
  have H3 : Has K mg "_law_kinds" s_law_kinds := ⟨_, _, F3, PySem.W.mg_of X G g3⟩
  have H4 : Has K mg "_law_more_kinds" s_law_more_kinds := ⟨_, _, F4, PySem.W.mg_of X G g4⟩
  have H5 : Has K mg "_law_any_field" s_law_any_field := ⟨_, _, F5, PySem.W.mg_of X G g5⟩
  have H6 : Has K mg "_law_raised" s_law_raised := ⟨_, _, F6, PySem.W.mg_of X G g6⟩
  have H7 : Has K mg "_law_raised_too" s_law_raised_too := ⟨_, _, F7, PySem.W.mg_of X G g7⟩
  have H8 : Has K mg "_law_told" s_law_told := ⟨_, _, F8, PySem.W.mg_of X G g8⟩
  have H9 : Has K mg "_law_due_fields" s_law_due_fields := ⟨_, _, F9, PySem.W.mg_of X G g9⟩
  have B : Blt mg := { b_int := PySem.W.mg_none_of X G z_int, b_list := PySem.W.mg_none_of X G z_list, b_len := PySem.W.mg_none_of X G z_len, b_range := PySem.W.mg_none_of X G z_range, b_repr := PySem.W.mg_none_of X G z_repr, b_isinstance := PySem.W.mg_none_of X G z_isinstance, b_VE := PySem.W.mg_none_of X G z_ValueError }
  have cm : ∀ i, i < 16 → csOf [c0, c1, c2, c3, c4, c5, c6, c7, c8, c9, c10, c11, c12, c13, c14, c15] i ∈ [c0, c1, c2, c3, c4, c5, c6, c7, c8, c9, c10, c11, c12, c13, c14, c15] := fun i hi => csOf_mem rfl hi
  have nd : ([c0, c1, c2, c3, c4, c5, c6, c7, c8, c9, c10, c11, c12, c13, c14, c15] : List Addr).Nodup := of_decide_eq_true ndp
  have cne : ∀ i j, i < 16 → j < 16 → i ≠ j → csOf [c0, c1, c2, c3, c4, c5, c6, c7, c8, c9, c10, c11, c12, c13, c14, c15] i ≠ csOf [c0, c1, c2, c3, c4, c5, c6, c7, c8, c9, c10, c11, c12, c13, c14, c15] j := fun i j hi hj hij z => by
    have hg : ∀ i, i < 16 → ([c0, c1, c2, c3, c4, c5, c6, c7, c8, c9, c10, c11, c12, c13, c14, c15] : List Addr)[i]? = some (csOf [c0, c1, c2, c3, c4, c5, c6, c7, c8, c9, c10, c11, c12, c13, c14, c15] i) := fun i hi => by
      unfold csOf
      rw [List.getD_eq_getElem?_getD, List.getElem?_eq_getElem (by simpa using hi)]
      rfl
    exact hij (nodup_at nd (hg i hi) (by rw [z]; exact hg j hj))
  have nfA : ∀ i, i < 16 → ∀ f ∈ fnsOf i, PySem.W.findIn K (.ref (csOf [c0, c1, c2, c3, c4, c5, c6, c7, c8, c9, c10, c11, c12, c13, c14, c15] i)) f = some none := by
    intro i hi f hf
    have hcase : i = 0 ∨ i = 1 ∨ i = 2 ∨ i = 3 ∨ i = 4 ∨ i = 5 ∨ i = 6 ∨ i = 7 ∨ i = 8 ∨ i = 9 ∨ i = 10 ∨ i = 11 ∨ i = 12 ∨ i = 13 ∨ i = 14 ∨ i = 15 := by omega
    rcases hcase with rfl | rfl | rfl | rfl | rfl | rfl | rfl | rfl | rfl | rfl | rfl | rfl | rfl | rfl | rfl | rfl
    · simp only [fnsOf, List.mem_cons, List.not_mem_nil, or_false] at hf
      rcases hf with rfl | rfl
      · exact n0_0
      · exact n0_1
    · simp only [fnsOf, List.mem_cons, List.not_mem_nil, or_false] at hf
      rcases hf with rfl | rfl
      · exact n1_0
      · exact n1_1
    · simp only [fnsOf, List.mem_cons, List.not_mem_nil, or_false] at hf
      subst hf; exact n2_0
    · simp only [fnsOf, List.mem_cons, List.not_mem_nil, or_false] at hf
      subst hf; exact n3_0
    · simp only [fnsOf, List.mem_cons, List.not_mem_nil, or_false] at hf
      subst hf; exact n4_0
    · simp only [fnsOf, List.mem_cons, List.not_mem_nil, or_false] at hf
      subst hf; exact n5_0
    · simp only [fnsOf, List.mem_cons, List.not_mem_nil, or_false] at hf
      rcases hf with rfl | rfl
      · exact n6_0
      · exact n6_1
    · simp only [fnsOf, List.mem_cons, List.not_mem_nil, or_false] at hf
      rcases hf with rfl | rfl
      · exact n7_0
      · exact n7_1
    · simp only [fnsOf, List.mem_cons, List.not_mem_nil, or_false] at hf
      subst hf; exact n8_0
    · simp only [fnsOf, List.mem_cons, List.not_mem_nil, or_false] at hf
      subst hf; exact n9_0
    · simp only [fnsOf, List.mem_cons, List.not_mem_nil, or_false] at hf
      subst hf; exact n10_0
    · simp only [fnsOf, List.mem_cons, List.not_mem_nil, or_false] at hf
      subst hf; exact n11_0
    · simp only [fnsOf, List.mem_cons, List.not_mem_nil, or_false] at hf
      rcases hf with rfl | rfl | rfl
      · exact n12_0
      · exact n12_1
      · exact n12_2
    · simp only [fnsOf, List.mem_cons, List.not_mem_nil, or_false] at hf
      rcases hf with rfl | rfl
      · exact n13_0
      · exact n13_1
    · simp [fnsOf] at hf
    · simp [fnsOf] at hf
  have T0 : OexC K c0 := { cls := ⟨nm0, qn0, N0, bs0, bm0, sn0, sb0, ab0, co0, dd0, ma0, mb0, mc0, md0, me0, x0, r0⟩, sa := sa0, exC := (chk_at chk (cm 0 (by decide))).1.ex, tyC := ty0, kC := kc0 }
  have E0 := fun_mk (x := "__init__") (qual := "BadNumber.__init__") (st := inClass (topS 2) 0) el0 em0 ek0
  have eb0 := E0.binds (ps := ["self", "what", "number"]) fun _ _ _ _ _ _ us hl => match us, hl with | [_, _, _], _ => rfl
  have XI0 : XcI K mg "BadNumber" c0 ["what", "number"] := ⟨T0, PySem.W.mg_of X G a0, e0, _, i0, t0, fun P w base => ini_BadNumber E0 T0 (nfA 0 (by decide)) P w base, eb0⟩
  have T1 : OexC K c1 := { cls := ⟨nm1, qn1, N1, bs1, bm1, sn1, sb1, ab1, co1, dd1, ma1, mb1, mc1, md1, me1, x1, r1⟩, sa := sa1, exC := (chk_at chk (cm 1 (by decide))).1.ex, tyC := ty1, kC := kc1 }
  have E1 := fun_mk (x := "__init__") (qual := "BadRow.__init__") (st := inClass (topS 3) 0) el1 em1 ek1
  have eb1 := E1.binds (ps := ["self", "what", "row"]) fun _ _ _ _ _ _ us hl => match us, hl with | [_, _, _], _ => rfl
  have XI1 : XcI K mg "BadRow" c1 ["what", "row"] := ⟨T1, PySem.W.mg_of X G a1, e1, _, i1, t1, fun P w base => ini_BadRow E1 T1 (nfA 1 (by decide)) P w base, eb1⟩
  have T2 : OexC K c2 := { cls := ⟨nm2, qn2, N2, bs2, bm2, sn2, sb2, ab2, co2, dd2, ma2, mb2, mc2, md2, me2, x2, r2⟩, sa := sa2, exC := (chk_at chk (cm 2 (by decide))).1.ex, tyC := ty2, kC := kc2 }
  have E2 := fun_mk (x := "__init__") (qual := "BadTable.__init__") (st := inClass (topS 4) 0) el2 em2 ek2
  have eb2 := E2.binds (ps := ["self", "what"]) fun _ _ _ _ _ _ us hl => match us, hl with | [_, _], _ => rfl
  have XI2 : XcI K mg "BadTable" c2 ["what"] := ⟨T2, PySem.W.mg_of X G a2, e2, _, i2, t2, fun P w base => ini_BadTable E2 T2 (nfA 2 (by decide)) P w base, eb2⟩
  have T3 : OexC K c3 := { cls := ⟨nm3, qn3, N3, bs3, bm3, sn3, sb3, ab3, co3, dd3, ma3, mb3, mc3, md3, me3, x3, r3⟩, sa := sa3, exC := (chk_at chk (cm 3 (by decide))).1.ex, tyC := ty3, kC := kc3 }
  have E3 := fun_mk (x := "__init__") (qual := "BadTree.__init__") (st := inClass (topS 5) 0) el3 em3 ek3
  have eb3 := E3.binds (ps := ["self", "what"]) fun _ _ _ _ _ _ us hl => match us, hl with | [_, _], _ => rfl
  have XI3 : XcI K mg "BadTree" c3 ["what"] := ⟨T3, PySem.W.mg_of X G a3, e3, _, i3, t3, fun P w base => ini_BadTree E3 T3 (nfA 3 (by decide)) P w base, eb3⟩
  have T4 : OexC K c4 := { cls := ⟨nm4, qn4, N4, bs4, bm4, sn4, sb4, ab4, co4, dd4, ma4, mb4, mc4, md4, me4, x4, r4⟩, sa := sa4, exC := (chk_at chk (cm 4 (by decide))).1.ex, tyC := ty4, kC := kc4 }
  have E4 := fun_mk (x := "__init__") (qual := "BadBook.__init__") (st := inClass (topS 6) 0) el4 em4 ek4
  have eb4 := E4.binds (ps := ["self", "what"]) fun _ _ _ _ _ _ us hl => match us, hl with | [_, _], _ => rfl
  have XI4 : XcI K mg "BadBook" c4 ["what"] := ⟨T4, PySem.W.mg_of X G a4, e4, _, i4, t4, fun P w base => ini_BadBook E4 T4 (nfA 4 (by decide)) P w base, eb4⟩
  have T5 : OexC K c5 := { cls := ⟨nm5, qn5, N5, bs5, bm5, sn5, sb5, ab5, co5, dd5, ma5, mb5, mc5, md5, me5, x5, r5⟩, sa := sa5, exC := (chk_at chk (cm 5 (by decide))).1.ex, tyC := ty5, kC := kc5 }
  have E5 := fun_mk (x := "__init__") (qual := "BadName.__init__") (st := inClass (topS 7) 0) el5 em5 ek5
  have eb5 := E5.binds (ps := ["self", "name"]) fun _ _ _ _ _ _ us hl => match us, hl with | [_, _], _ => rfl
  have XI5 : XcI K mg "BadName" c5 ["name"] := ⟨T5, PySem.W.mg_of X G a5, e5, _, i5, t5, fun P w base => ini_BadName E5 T5 (nfA 5 (by decide)) P w base, eb5⟩
  have T6 : OexC K c6 := { cls := ⟨nm6, qn6, N6, bs6, bm6, sn6, sb6, ab6, co6, dd6, ma6, mb6, mc6, md6, me6, x6, r6⟩, sa := sa6, exC := (chk_at chk (cm 6 (by decide))).1.ex, tyC := ty6, kC := kc6 }
  have E6 := fun_mk (x := "__init__") (qual := "BadText.__init__") (st := inClass (topS 8) 0) el6 em6 ek6
  have eb6 := E6.binds (ps := ["self", "line", "word"]) fun _ _ _ _ _ _ us hl => match us, hl with | [_, _, _], _ => rfl
  have XI6 : XcI K mg "BadText" c6 ["line", "word"] := ⟨T6, PySem.W.mg_of X G a6, e6, _, i6, t6, fun P w base => ini_BadText E6 T6 (nfA 6 (by decide)) P w base, eb6⟩
  have T7 : OexC K c7 := { cls := ⟨nm7, qn7, N7, bs7, bm7, sn7, sb7, ab7, co7, dd7, ma7, mb7, mc7, md7, me7, x7, r7⟩, sa := sa7, exC := (chk_at chk (cm 7 (by decide))).1.ex, tyC := ty7, kC := kc7 }
  have E7 := fun_mk (x := "__init__") (qual := "NoPlace.__init__") (st := inClass (topS 9) 0) el7 em7 ek7
  have eb7 := E7.binds (ps := ["self", "what", "index"]) fun _ _ _ _ _ _ us hl => match us, hl with | [_, _, _], _ => rfl
  have XI7 : XcI K mg "NoPlace" c7 ["what", "index"] := ⟨T7, PySem.W.mg_of X G a7, e7, _, i7, t7, fun P w base => ini_NoPlace E7 T7 (nfA 7 (by decide)) P w base, eb7⟩
  have T8 : OexC K c8 := { cls := ⟨nm8, qn8, N8, bs8, bm8, sn8, sb8, ab8, co8, dd8, ma8, mb8, mc8, md8, me8, x8, r8⟩, sa := sa8, exC := (chk_at chk (cm 8 (by decide))).1.ex, tyC := ty8, kC := kc8 }
  have E8 := fun_mk (x := "__init__") (qual := "NoName.__init__") (st := inClass (topS 10) 0) el8 em8 ek8
  have eb8 := E8.binds (ps := ["self", "name"]) fun _ _ _ _ _ _ us hl => match us, hl with | [_, _], _ => rfl
  have XI8 : XcI K mg "NoName" c8 ["name"] := ⟨T8, PySem.W.mg_of X G a8, e8, _, i8, t8, fun P w base => ini_NoName E8 T8 (nfA 8 (by decide)) P w base, eb8⟩
  have T9 : OexC K c9 := { cls := ⟨nm9, qn9, N9, bs9, bm9, sn9, sb9, ab9, co9, dd9, ma9, mb9, mc9, md9, me9, x9, r9⟩, sa := sa9, exC := (chk_at chk (cm 9 (by decide))).1.ex, tyC := ty9, kC := kc9 }
  have E9 := fun_mk (x := "__init__") (qual := "TakenName.__init__") (st := inClass (topS 11) 0) el9 em9 ek9
  have eb9 := E9.binds (ps := ["self", "name"]) fun _ _ _ _ _ _ us hl => match us, hl with | [_, _], _ => rfl
  have XI9 : XcI K mg "TakenName" c9 ["name"] := ⟨T9, PySem.W.mg_of X G a9, e9, _, i9, t9, fun P w base => ini_TakenName E9 T9 (nfA 9 (by decide)) P w base, eb9⟩
  have T10 : OexC K c10 := { cls := ⟨nm10, qn10, N10, bs10, bm10, sn10, sb10, ab10, co10, dd10, ma10, mb10, mc10, md10, me10, x10, r10⟩, sa := sa10, exC := (chk_at chk (cm 10 (by decide))).1.ex, tyC := ty10, kC := kc10 }
  have E10 := fun_mk (x := "__init__") (qual := "Unlike.__init__") (st := inClass (topS 12) 0) el10 em10 ek10
  have eb10 := E10.binds (ps := ["self", "what"]) fun _ _ _ _ _ _ us hl => match us, hl with | [_, _], _ => rfl
  have XI10 : XcI K mg "Unlike" c10 ["what"] := ⟨T10, PySem.W.mg_of X G a10, e10, _, i10, t10, fun P w base => ini_Unlike E10 T10 (nfA 10 (by decide)) P w base, eb10⟩
  have T11 : OexC K c11 := { cls := ⟨nm11, qn11, N11, bs11, bm11, sn11, sb11, ab11, co11, dd11, ma11, mb11, mc11, md11, me11, x11, r11⟩, sa := sa11, exC := (chk_at chk (cm 11 (by decide))).1.ex, tyC := ty11, kC := kc11 }
  have E11 := fun_mk (x := "__init__") (qual := "NotThere.__init__") (st := inClass (topS 13) 0) el11 em11 ek11
  have eb11 := E11.binds (ps := ["self", "paper"]) fun _ _ _ _ _ _ us hl => match us, hl with | [_, _], _ => rfl
  have XI11 : XcI K mg "NotThere" c11 ["paper"] := ⟨T11, PySem.W.mg_of X G a11, e11, _, i11, t11, fun P w base => ini_NotThere E11 T11 (nfA 11 (by decide)) P w base, eb11⟩
  have T12 : OexC K c12 := { cls := ⟨nm12, qn12, N12, bs12, bm12, sn12, sb12, ab12, co12, dd12, ma12, mb12, mc12, md12, me12, x12, r12⟩, sa := sa12, exC := (chk_at chk (cm 12 (by decide))).1.ex, tyC := ty12, kC := kc12 }
  have E12 := fun_mk (x := "__init__") (qual := "TooMany.__init__") (st := inClass (topS 14) 0) el12 em12 ek12
  have eb12 := E12.binds (ps := ["self", "what", "many", "limit"]) fun _ _ _ _ _ _ us hl => match us, hl with | [_, _, _, _], _ => rfl
  have XI12 : XcI K mg "TooMany" c12 ["what", "many", "limit"] := ⟨T12, PySem.W.mg_of X G a12, e12, _, i12, t12, fun P w base => ini_TooMany E12 T12 (nfA 12 (by decide)) P w base, eb12⟩
  have T13 : OexC K c13 := { cls := ⟨nm13, qn13, N13, bs13, bm13, sn13, sb13, ab13, co13, dd13, ma13, mb13, mc13, md13, me13, x13, r13⟩, sa := sa13, exC := (chk_at chk (cm 13 (by decide))).1.ex, tyC := ty13, kC := kc13 }
  have E13 := fun_mk (x := "__init__") (qual := "NotKept.__init__") (st := inClass (topS 15) 0) el13 em13 ek13
  have eb13 := E13.binds (ps := ["self", "promise", "witness"]) fun _ _ _ _ _ _ us hl => match us, hl with | [_, _, _], _ => rfl
  have XI13 : XcI K mg "NotKept" c13 ["promise", "witness"] := ⟨T13, PySem.W.mg_of X G a13, e13, _, i13, t13, fun P w base => ini_NotKept E13 T13 (nfA 13 (by decide)) P w base, eb13⟩
  have T : Tx K mg S (csOf [c0, c1, c2, c3, c4, c5, c6, c7, c8, c9, c10, c11, c12, c13, c14, c15]) := { b := B, gS := PySem.W.mg_of X G aS, xc := fun i hi => (chk_at chk (cm i hi)).1, self := fun i hi => by rw [(chk_at chk (cm i hi)).2.2.2 _ (cm i hi)]; simp, ne := fun i j hi hj hij => by rw [(chk_at chk (cm i hi)).2.2.2 _ (cm j hj)]; simp [cne i j hi hj hij], ve := fun i hi => (chk_at chk (cm i hi)).2.1, sub := fun i hi => PySem.W.exm_ref bS hS tS (chk_at chk (cm i hi)).2.2.1, nf := nfA, g0 := PySem.W.mg_of X G a0, g1 := PySem.W.mg_of X G a1, g2 := PySem.W.mg_of X G a2, g3 := PySem.W.mg_of X G a3, g4 := PySem.W.mg_of X G a4, g5 := PySem.W.mg_of X G a5, g6 := PySem.W.mg_of X G a6, g7 := PySem.W.mg_of X G a7, g8 := PySem.W.mg_of X G a8, g9 := PySem.W.mg_of X G a9, g10 := PySem.W.mg_of X G a10, g11 := PySem.W.mg_of X G a11, g12 := PySem.W.mg_of X G a12, g13 := PySem.W.mg_of X G a13, g14 := PySem.W.mg_of X G a14, g15 := PySem.W.mg_of X G a15, x0 := XI0, x1 := XI1, x2 := XI2, x3 := XI3, x4 := XI4, x5 := XI5, x6 := XI6, x7 := XI7, x8 := XI8, x9 := XI9, x10 := XI10, x11 := XI11, x12 := XI12, x13 := XI13, u14 := u14, v14 := kc14, w14 := ⟨(chk_at chk (cm 14 (by decide))).1.ex, ty14⟩, u15 := u15, v15 := kc15, w15 := ⟨(chk_at chk (cm 15 (by decide))).1.ex, ty15⟩ }
  refine ⟨PySem.W.fnOf "law" "law" (defArgs s_law) (defBody s_law) (defScope s_law) .none kV10 dc10 pm10 an10 cd10 ct10, fun s v => .of_eq rfl, fun base _ _ => ?_⟩
  have D1 : Keeps l.prog w K mg base CX0 1 "_law_draw" ["pen", "many"] spDraw := d_draw H1 B
  have D2 := d_pick (P := l.prog) (w := w) (base := base) H2 B D1
  have M := d_law_more_kinds (P := l.prog) (w := w) (base := base) H4 T
  exact d_law F10 B (d_pen H0 B) (d_any H5 D1 D2) (d_told H8 T (d_law_raised H6 T) (d_law_raised_too H7 T) (d_law_kinds H3 T M)) (d_due H9 B)
end K01
open PySem PySem.W PyProof.Rows
set_option maxRecDepth 100000 in
set_option maxHeartbeats 8000000 in
theorem PySem.Challenge.cw_fracsteps_k01_errors_holds : PySem.Challenge.rw_fracsteps_k01_errors.Holds := by
  refine hd ?_
  k_fill
  refine Lx.walk_ofG (l := PySem.Challenge.rw_fracsteps_k01_errors) (n := 63) (k := 5) (x := "script") (sp := K01.spLaw) rfl (by decide) rfl ⟨rfl, by decide, by decide⟩ (fun w h Y => PySem.W.kIn_of Y) ?F (fun K H a ns _ _ hS => ⟨a, ns, rfl, hS, fun _ => rfl⟩)
  case F =>
    intro w mg fa h KX G hmg
    refine' K01.all_mk KX G hmg ?aS ?a0 ?a1 ?a2 ?a3 ?a4 ?a5 ?a6 ?a7 ?a8 ?a9 ?a10 ?a11 ?a12 ?a13 ?a14 ?a15 ?g0 ?g1 ?g2 ?g3 ?g4 ?g5 ?g6 ?g7 ?g8 ?g9 ?g10 ?z_int ?z_list ?z_len ?z_range ?z_repr ?z_isinstance ?z_ValueError ?l0 ?d0 ?k0 ?l1 ?d1 ?k1 ?l2 ?d2 ?k2 ?l3 ?d3 ?k3 ?l4 ?d4 ?k4 ?l5 ?d5 ?k5 ?l6 ?d6 ?k6 ?l7 ?d7 ?k7 ?l8 ?d8 ?k8 ?l9 ?d9 ?k9 ?l10 ?d10 ?k10 ?x0 ?r0 ?sa0 ?ty0 ?kc0 ?i0 ?t0 ?el0 ?em0 ?ek0 ?n0_0 ?n0_1 ?x1 ?r1 ?sa1 ?ty1 ?kc1 ?i1 ?t1 ?el1 ?em1 ?ek1 ?n1_0 ?n1_1 ?x2 ?r2 ?sa2 ?ty2 ?kc2 ?i2 ?t2 ?el2 ?em2 ?ek2 ?n2_0 ?x3 ?r3 ?sa3 ?ty3 ?kc3 ?i3 ?t3 ?el3 ?em3 ?ek3 ?n3_0 ?x4 ?r4 ?sa4 ?ty4 ?kc4 ?i4 ?t4 ?el4 ?em4 ?ek4 ?n4_0 ?x5 ?r5 ?sa5 ?ty5 ?kc5 ?i5 ?t5 ?el5 ?em5 ?ek5 ?n5_0 ?x6 ?r6 ?sa6 ?ty6 ?kc6 ?i6 ?t6 ?el6 ?em6 ?ek6 ?n6_0 ?n6_1 ?x7 ?r7 ?sa7 ?ty7 ?kc7 ?i7 ?t7 ?el7 ?em7 ?ek7 ?n7_0 ?n7_1 ?x8 ?r8 ?sa8 ?ty8 ?kc8 ?i8 ?t8 ?el8 ?em8 ?ek8 ?n8_0 ?x9 ?r9 ?sa9 ?ty9 ?kc9 ?i9 ?t9 ?el9 ?em9 ?ek9 ?n9_0 ?x10 ?r10 ?sa10 ?ty10 ?kc10 ?i10 ?t10 ?el10 ?em10 ?ek10 ?n10_0 ?x11 ?r11 ?sa11 ?ty11 ?kc11 ?i11 ?t11 ?el11 ?em11 ?ek11 ?n11_0 ?x12 ?r12 ?sa12 ?ty12 ?kc12 ?i12 ?t12 ?el12 ?em12 ?ek12 ?n12_0 ?n12_1 ?n12_2 ?x13 ?r13 ?sa13 ?ty13 ?kc13 ?i13 ?t13 ?el13 ?em13 ?ek13 ?n13_0 ?n13_1 ?u14 ?kc14 ?ty14 ?u15 ?kc15 ?ty15 ?tS ?hS ?bS ?chk ?ndp
    (case aS => k_is)
    (case a0 => k_is)
    (case a1 => k_is)
    (case a2 => k_is)
    (case a3 => k_is)
    (case a4 => k_is)
    (case a5 => k_is)
    (case a6 => k_is)
    (case a7 => k_is)
    (case a8 => k_is)
    (case a9 => k_is)
    (case a10 => k_is)
    (case a11 => k_is)
    (case a12 => k_is)
    (case a13 => k_is)
    (case a14 => k_is)
    (case a15 => k_is)
    (case g0 => k_is)
    (case g1 => k_is)
    (case g2 => k_is)
    (case g3 => k_is)
    (case g4 => k_is)
    (case g5 => k_is)
    (case g6 => k_is)
    (case g7 => k_is)
    (case g8 => k_is)
    (case g9 => k_is)
    (case g10 => k_is)
    (case z_int => k_is)
    (case z_list => k_is)
    (case z_len => k_is)
    (case z_range => k_is)
    (case z_repr => k_is)
    (case z_isinstance => k_is)
    (case z_ValueError => k_is)
    (case l0 => k_is)
    (case d0 => k_is)
    (case k0 => k_is)
    (case l1 => k_is)
    (case d1 => k_is)
    (case k1 => k_is)
    (case l2 => k_is)
    (case d2 => k_is)
    (case k2 => k_is)
    (case l3 => k_is)
    (case d3 => k_is)
    (case k3 => k_is)
    (case l4 => k_is)
    (case d4 => k_is)
    (case k4 => k_is)
    (case l5 => k_is)
    (case d5 => k_is)
    (case k5 => k_is)
    (case l6 => k_is)
    (case d6 => k_is)
    (case k6 => k_is)
    (case l7 => k_is)
    (case d7 => k_is)
    (case k7 => k_is)
    (case l8 => k_is)
    (case d8 => k_is)
    (case k8 => k_is)
    (case l9 => k_is)
    (case d9 => k_is)
    (case k9 => k_is)
    (case l10 => k_is)
    (case d10 => k_is)
    (case k10 => k_is)
    (case x0 => k_is)
    (case r0 => decide +kernel)
    (case sa0 => k_is)
    (case ty0 => k_is)
    (case kc0 => k_is)
    (case i0 => k_is)
    (case t0 => k_is)
    (case el0 => k_is)
    (case em0 => k_is)
    (case ek0 => k_is)
    (case n0_0 => k_is)
    (case n0_1 => k_is)
    (case x1 => k_is)
    (case r1 => decide +kernel)
    (case sa1 => k_is)
    (case ty1 => k_is)
    (case kc1 => k_is)
    (case i1 => k_is)
    (case t1 => k_is)
    (case el1 => k_is)
    (case em1 => k_is)
    (case ek1 => k_is)
    (case n1_0 => k_is)
    (case n1_1 => k_is)
    (case x2 => k_is)
    (case r2 => decide +kernel)
    (case sa2 => k_is)
    (case ty2 => k_is)
    (case kc2 => k_is)
    (case i2 => k_is)
    (case t2 => k_is)
    (case el2 => k_is)
    (case em2 => k_is)
    (case ek2 => k_is)
    (case n2_0 => k_is)
    (case x3 => k_is)
    (case r3 => decide +kernel)
    (case sa3 => k_is)
    (case ty3 => k_is)
    (case kc3 => k_is)
    (case i3 => k_is)
    (case t3 => k_is)
    (case el3 => k_is)
    (case em3 => k_is)
    (case ek3 => k_is)
    (case n3_0 => k_is)
    (case x4 => k_is)
    (case r4 => decide +kernel)
    (case sa4 => k_is)
    (case ty4 => k_is)
    (case kc4 => k_is)
    (case i4 => k_is)
    (case t4 => k_is)
    (case el4 => k_is)
    (case em4 => k_is)
    (case ek4 => k_is)
    (case n4_0 => k_is)
    (case x5 => k_is)
    (case r5 => decide +kernel)
    (case sa5 => k_is)
    (case ty5 => k_is)
    (case kc5 => k_is)
    (case i5 => k_is)
    (case t5 => k_is)
    (case el5 => k_is)
    (case em5 => k_is)
    (case ek5 => k_is)
    (case n5_0 => k_is)
    (case x6 => k_is)
    (case r6 => decide +kernel)
    (case sa6 => k_is)
    (case ty6 => k_is)
    (case kc6 => k_is)
    (case i6 => k_is)
    (case t6 => k_is)
    (case el6 => k_is)
    (case em6 => k_is)
    (case ek6 => k_is)
    (case n6_0 => k_is)
    (case n6_1 => k_is)
    (case x7 => k_is)
    (case r7 => decide +kernel)
    (case sa7 => k_is)
    (case ty7 => k_is)
    (case kc7 => k_is)
    (case i7 => k_is)
    (case t7 => k_is)
    (case el7 => k_is)
    (case em7 => k_is)
    (case ek7 => k_is)
    (case n7_0 => k_is)
    (case n7_1 => k_is)
    (case x8 => k_is)
    (case r8 => decide +kernel)
    (case sa8 => k_is)
    (case ty8 => k_is)
    (case kc8 => k_is)
    (case i8 => k_is)
    (case t8 => k_is)
    (case el8 => k_is)
    (case em8 => k_is)
    (case ek8 => k_is)
    (case n8_0 => k_is)
    (case x9 => k_is)
    (case r9 => decide +kernel)
    (case sa9 => k_is)
    (case ty9 => k_is)
    (case kc9 => k_is)
    (case i9 => k_is)
    (case t9 => k_is)
    (case el9 => k_is)
    (case em9 => k_is)
    (case ek9 => k_is)
    (case n9_0 => k_is)
    (case x10 => k_is)
    (case r10 => decide +kernel)
    (case sa10 => k_is)
    (case ty10 => k_is)
    (case kc10 => k_is)
    (case i10 => k_is)
    (case t10 => k_is)
    (case el10 => k_is)
    (case em10 => k_is)
    (case ek10 => k_is)
    (case n10_0 => k_is)
    (case x11 => k_is)
    (case r11 => decide +kernel)
    (case sa11 => k_is)
    (case ty11 => k_is)
    (case kc11 => k_is)
    (case i11 => k_is)
    (case t11 => k_is)
    (case el11 => k_is)
    (case em11 => k_is)
    (case ek11 => k_is)
    (case n11_0 => k_is)
    (case x12 => k_is)
    (case r12 => decide +kernel)
    (case sa12 => k_is)
    (case ty12 => k_is)
    (case kc12 => k_is)
    (case i12 => k_is)
    (case t12 => k_is)
    (case el12 => k_is)
    (case em12 => k_is)
    (case ek12 => k_is)
    (case n12_0 => k_is)
    (case n12_1 => k_is)
    (case n12_2 => k_is)
    (case x13 => k_is)
    (case r13 => decide +kernel)
    (case sa13 => k_is)
    (case ty13 => k_is)
    (case kc13 => k_is)
    (case i13 => k_is)
    (case t13 => k_is)
    (case el13 => k_is)
    (case em13 => k_is)
    (case ek13 => k_is)
    (case n13_0 => k_is)
    (case n13_1 => k_is)
    (case u14 => k_exc)
    (case kc14 => k_is)
    (case ty14 => k_is)
    (case u15 => k_exc)
    (case kc15 => k_is)
    (case ty15 => k_is)
    (case tS => k_is)
    (case hS => k_is)
    (case bS => k_is)
    (case chk => kernel_rfl)
    (case ndp => decide +kernel)
