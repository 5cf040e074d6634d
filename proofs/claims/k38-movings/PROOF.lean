import PyProof.Rows.All
import Wide.All
import OpenK.AllK
import Wide.FinOn
import HandS.ForExc
import HandS.ForMost
import HandS.ExcInit
import HandS.ExcIs
import HandS.ExcField
import HandS.IsInst
import HandS.HotCalls
import HandS.RaiseMore
import HandS.Gcd
import HandS.Wide
import HandS.Style
import KE.KExcIs
import PyProof.ReprLen
import HandS.EndTab
import HandS.TupAny
import HandS.Lambda
import HandS.WideBits
import HandS.Zip
import PyProof.P3Eq
import HandS.IterVal
import PyProof.InstNe
import HandS.SlotsOwn
import KE.GoesEnum
import HandS.TupMul
import HandS.Conv
import HandS.SortInts
import HandS.TupLe
import HandS.TupSets
import KE.KTupSum
import PySem.Challenge.RW_fracsteps_k38_whole_movings_and_their_wo
set_option Elab.async false
set_option linter.all false
set_option maxRecDepth 100000
set_option maxHeartbeats 4000000
/-! The layer with guards: promises of defs that may ask repr of a container; defs that are handed the caught exception. -/
namespace Lx
open PySem PySem.Spec PyProof.Rows L2
abbrev St := L2.St

/-! ### promises -/
structure FnG (P : Program) (w : World) (K : PySem.W.Frag) (mg : Str → Option Value) (base : Heap) (CX : CXT) (k : Nat)
    (f : Addr) (fd : FuncData) (ps : List Str) (sp : Sp) : Prop where
  len : ∀ vs H Q E, sp vs H Q E → vs.length = ps.length
  run : ∀ (A : Around) (outer : List Env) (s : Shared) (H : Hp) (args : Args) (us : List Value) (vs : List V) (Q : VK) (E : XK),
    Room k A → A.guards = some [] → Env0 P w K mg base A outer s H → BindsTo s fd args (ps.zip us) → Vals vs us → sp vs H Q E →
    codeAny (model P w) A (.call (.ref f) args) (CR CX outer P w H s Q E) s
theorem FnG.of {P w K mg base CX k f fd ps sp} (F : FnOk P w K mg base CX k f fd ps sp) : FnG P w K mg base CX k f fd ps sp :=
  ⟨F.len, fun A outer s H args us vs Q E hr _ e0 hb r h => F.run A outer s H args us vs Q E hr e0 hb r h⟩
theorem FnG.mono {P w K mg base CX j k f fd ps sp} (F : FnG P w K mg base CX j f fd ps sp) (h : j ≤ k) : FnG P w K mg base CX k f fd ps sp :=
  ⟨F.len, fun A outer s H args us vs Q E hr hg e0 hb r hs => F.run A outer s H args us vs Q E (hr.mono h) hg e0 hb r hs⟩
/-- a def that is handed the exception which a suite holds: p its address and object -/
structure FnE (P : Program) (w : World) (K : PySem.W.Frag) (mg : Str → Option Value) (base : Heap) (k : Nat)
    (f : Addr) (fd : FuncData) (ps : List Str) (sp : Addr × Obj → Sp) : Prop where
  len : ∀ p vs H Q E, sp p vs H Q E → vs.length = ps.length
  run : ∀ (A : Around) (outer : List Env) (s : Shared) (H : Hp) (args : Args) (us : List Value) (vs : List V) (Q : VK) (E : XK) (p : Addr × Obj),
    L2H.RoomH k A → A.guards = some [] → L2H.PinOk outer H s p → Env0 P w K mg base A outer s H → BindsTo s fd args (ps.zip us) → Vals vs us → sp p vs H Q E →
    codeAny (model P w) A (.call (.ref f) args) (CR CX0 outer P w H s Q E) s

theorem deeper_guards (A : Around) (env : Env) : (A.deeper env).guards = A.guards := rfl

section
variable {P : Program} {w : World} {K : PySem.W.Frag} {mg : Str → Option Value} {base : Heap} {CX : CXT}
def outV : Flow → Value
  | .ret v => v
  | _ => .none
theorem fin_cr {X : Cx} {outer : List Env} {H : Hp} {s s' : Shared} {Q : VK} {E : XK} {fl : Flow} (e1 : X.prog = P) (e2 : X.w = w) (e3 : X.outer = outer) (e4 : X.H_0 = H) (e5 : X.s_0 = s) (e6 : X.ex = [])
    (hs : SP X [] { nx := fun _ H' => Q .non H', rt := Q } fl s') : CR CX outer P w H s Q E (.ok (.ret (outV fl))) s' := by
  subst e1 e2 e3 e4 e5
  have go : ∀ {σ' : L2.St} {H' : Hp} {v : V} {u : Value}, Inv X [] σ' H' s' → RelV v u → Q v H' → CE X.outer X.prog X.w X.H_0 X.s_0 Q u s' := fun {σ' H' v u} J rv q => by
    have b := J.base
    rw [e6] at b
    exact ⟨v, H', J.os, J.bare, b, J.hok, rv, q⟩
  cases fl with
  | ret u => obtain ⟨v, σ', H', J, rv, q⟩ := hs; exact go J rv q
  | next => obtain ⟨σ', H', J, q⟩ := hs; exact go (v := V.non) (u := Value.none) J rfl q
  | brk => obtain ⟨_, _, _, q⟩ := hs; exact False.elim q
  | cont => obtain ⟨_, _, _, q⟩ := hs; exact False.elim q

/-- a def by its body, the guards told -/
theorem okG {x qual : Str} {st : Stmt} {f : Addr} {fd : FuncData} {N ps : List Str} {k : Nat} {sp : Sp} (F : Fun K x qual st f fd) (S : FnScope N ps (defScope st))
    (len : ∀ vs H Q E, sp vs H Q E → vs.length = ps.length)
    (hbody : ∀ (cdv : Value) (A : Around) (outer : List Env) (s : Shared) (H : Hp) (vs : List V) (Q : VK) (E : XK), Room k (A.deeper (envOfC qual (defScope st) s.heap.objs.size f cdv)) →
      (A.deeper (envOfC qual (defScope st) s.heap.objs.size f cdv)).guards = some [] → sp vs H Q E →
      ∃ t, PSs (cxOf CX P w K mg base N qual (defScope st) f cdv A outer s H E) (defBody st) t ∧ t { nx := fun _ H' => Q .non H', rt := Q } (start N vs) H) :
    FnG P w K mg base CX (k + 1) f fd ps sp := by
  obtain ⟨oc, od, kV, doc, pm, an, cdv, ct, osl, rfl, lk, hcd⟩ := F.ex
  refine ⟨len, fun A outer s H args us vs Q E hr hgd e0 hb r hsp => ?_⟩
  have hl := len _ _ _ _ hsp
  have inK : K.In s.heap := e0.mod.kin.keeps fun b o e => (e0.bs b o e).1
  have kinds : ∀ y ∈ ps.zip us, (defScope st).names.lookup y.1 = some .local ∨ ((defScope st).names.lookup y.1 = some .cell ∧ ((cellsFrom (s.heap.objs.size + 1) (defScope st).names []).lookup y.1).isSome = true) := by
    rintro ⟨n, v⟩ hy
    rcases S.par n (List.of_mem_zip hy).1 with q | q
    · exact .inl q
    · exact .inr ⟨q, PySem.W.cellsFrom_some _ _ _ (.inl q)⟩
  refine codeAny_call_function hr.depth (inK _ _ lk) rfl S.co S.gen rfl (PySem.W.codeRec_of inK hcd) (hb _ _ _ _ (wpAny_newFunctionEnv_cells S.kind kinds fun env he s1 x => ?_))
  subst he
  refine ⟨(e0.mod.nolimit.keeps fun b o e => (e0.bs b o e).1).keeps x.toInCall.keep, codeAny_func ?_⟩
  obtain ⟨t, ht, hq⟩ := hbody cdv A outer s H vs Q E (hr.deeper _) hgd hsp
  exact wpAny_mono (ht.run [] s1 (start N vs) H _ (inv_start (CX := CX) (E := E) S hr.hd e0 hl r x) hq) (fun fl s' hs => by cases fl <;> exact fin_cr rfl rfl rfl rfl rfl rfl hs) fun e s' hs => hs
/-- a def that is handed the exception -/
theorem okE {x qual : Str} {st : Stmt} {f : Addr} {fd : FuncData} {N ps : List Str} {k : Nat} {sp : Addr × Obj → Sp} (F : Fun K x qual st f fd) (S : FnScope N ps (defScope st))
    (len : ∀ p vs H Q E, sp p vs H Q E → vs.length = ps.length)
    (hbody : ∀ (cdv : Value) (A : Around) (outer : List Env) (s : Shared) (H : Hp) (vs : List V) (Q : VK) (E : XK) (p : Addr × Obj), L2H.RoomH k (A.deeper (envOfC qual (defScope st) s.heap.objs.size f cdv)) →
      (A.deeper (envOfC qual (defScope st) s.heap.objs.size f cdv)).guards = some [] → sp p vs H Q E →
      ∃ t, PSs (L2H.cxH CX0 P w K mg base N qual (defScope st) f cdv A outer s H E p).nox (defBody st) t ∧ t { nx := fun _ H' => Q .non H', rt := Q } (start N vs) H) :
    FnE P w K mg base (k + 1) f fd ps sp := by
  obtain ⟨oc, od, kV, doc, pm, an, cdv, ct, osl, rfl, lk, hcd⟩ := F.ex
  refine ⟨len, fun A outer s H args us vs Q E p hr hgd hpin e0 hb r hsp => ?_⟩
  have hl := len _ _ _ _ _ hsp
  have inK : K.In s.heap := e0.mod.kin.keeps fun b o e => (e0.bs b o e).1
  have kinds : ∀ y ∈ ps.zip us, (defScope st).names.lookup y.1 = some .local ∨ ((defScope st).names.lookup y.1 = some .cell ∧ ((cellsFrom (s.heap.objs.size + 1) (defScope st).names []).lookup y.1).isSome = true) := by
    rintro ⟨n, v⟩ hy
    rcases S.par n (List.of_mem_zip hy).1 with q | q
    · exact .inl q
    · exact .inr ⟨q, PySem.W.cellsFrom_some _ _ _ (.inl q)⟩
  refine codeAny_call_function hr.depth (inK _ _ lk) rfl S.co S.gen rfl (PySem.W.codeRec_of inK hcd) (hb _ _ _ _ (wpAny_newFunctionEnv_cells S.kind kinds fun env he s1 x => ?_))
  subst he
  refine ⟨(e0.mod.nolimit.keeps fun b o e => (e0.bs b o e).1).keeps x.toInCall.keep, codeAny_func ?_⟩
  obtain ⟨t, ht, hq⟩ := hbody cdv A outer s H vs Q E p (hr.deeper _) hgd hsp
  exact wpAny_mono (ht.nox.run [] s1 (start N vs) H _ (L2H.inv_startH (CX := CX0) (E := E) S hpin e0 hl r x) hq) (fun fl s' hs => by cases fl <;> exact fin_cr rfl rfl rfl rfl rfl rfl hs) fun e s' hs => hs
end

/-! ### calls -/
section
variable {X : Cx} {CX : CXT} {k : Nat} {f : Addr} {fd : FuncData} {ps : List Str} {sp : Sp} {E : L2.St → XK} {x : Str} {q pos : Pos} {e : Expr} {es : List Expr} {t : TA}
theorem run_fnG {pins : List (Addr × Obj)} {σ : L2.St} {H : Hp} {s : Shared} {Q : VK} {us : List Value} {vs : List V} (F : FnG X.prog X.w X.K X.mg X.base CX k f fd ps sp) (hr : Room k X.A) (hg : X.A.guards = some [])
    (hb : Binds X.K fd ps []) (hx : PassesAt CX X σ (E σ)) (I : Inv X pins σ H s) (r : Vals vs us) (h : sp vs H Q (E σ)) : wpAny (model X.prog X.w) X.A (call (.ref f) us) (EP X pins σ Q) X.xe s := by
  have b := hb s us I.kIn (by rw [List.append_nil, ← r.length]; exact F.len _ _ _ _ h)
  rw [List.append_nil] at b
  refine wpAny_call (codeAny_mono (F.run X.A X.stack s H ⟨us, []⟩ us vs Q (E σ) hr hg I.env0 b r h) fun r s' hq => ?_)
  cases r with
  | error e => exact hx pins H s e s' I hq
  | ok fl => cases fl with
    | ret u => exact I.after hq
    | _ => exact False.elim hq
theorem pe_callG (F : FnG X.prog X.w X.K X.mg X.base CX k f fd ps sp) (hr : Room k X.A) (hgd : X.A.guards = some []) (hg : Gl X x) (hm : X.mg x = some (.ref f)) (hk : PySem.W.keepIn X.K (.ref f) = true) (hb : Binds X.K fd ps [])
    (hx : ∀ σ, PassesAt CX X σ (E σ)) (ha : PA X (e :: es) t) (hdb : (x == ("__debug__" : Str)) = false := by decide) (he : starEach (e :: es) X.env = (false, eval e X.env) :: starEach es X.env := by rfl)
    (hpl : (backTo pos (starEach es X.env)).any (·.1) = false := by rfl) : PE X (.Call (.Name x q) (e :: es) [] pos) (tCallS sp E t) :=
  ⟨fun pins s σ H Q I h => wpAny_Call_Name_kw (ld_glob I hg hm (PySem.W.callWith_K (h₀ := X.base) I.ok.mod.kin hk
    (thn (ha.run pos pins s σ H _ I h) fun us s1 ⟨vs, H1, I1, r, q⟩ => ⟨I1.kIn, run_fnG F hr hgd hb (hx σ) I1 r q⟩) he hpl) hdb)⟩
theorem pe_callG0 (F : FnG X.prog X.w X.K X.mg X.base CX k f fd [] sp) (hr : Room k X.A) (hgd : X.A.guards = some []) (hg : Gl X x) (hm : X.mg x = some (.ref f)) (hk : PySem.W.keepIn X.K (.ref f) = true) (hb : Binds X.K fd [] [])
    (hx : ∀ σ, PassesAt CX X σ (E σ)) (hdb : (x == ("__debug__" : Str)) = false := by decide) : PE X (.Call (.Name x q) [] [] pos) (tCallS sp E tNil) :=
  ⟨fun pins s σ H Q I h => wpAny_Call_Name_kw (ld_glob I hg hm (PySem.W.callWith_K0 I.kIn hk (run_fnG (us := []) F hr hgd hb (hx σ) I .nil h)) hdb)⟩
theorem at0 {X : Cx} {σ : L2.St} : PassesAt CX0 X σ E0 := fun _ _ _ _ _ _ h => h.elim
abbrev noE : L2.St → XK := fun _ => E0
/-- the call of a def that is handed the exception at p: the promise from what is said at the arguments -/
def tCallR (R : List V → Hp → VK → Prop) (t : TA) : TE := fun σ H Q => t σ H fun vs H1 => R vs H1 Q
theorem pe_callR {p : Addr × Obj} {spE : Addr × Obj → Sp} {R : List V → Hp → VK → Prop} (hR : ∀ vs H Q, R vs H Q → spE p vs H Q E0) (F : FnE X.prog X.w X.K X.mg X.base k f fd ps spE) (hr : L2H.RoomH k X.A) (hgd : X.A.guards = some []) (hp : p ∈ X.pn) (hg : Gl X x) (hm : X.mg x = some (.ref f))
    (hk : PySem.W.keepIn X.K (.ref f) = true) (hb : Binds X.K fd ps []) (ha : PA X (e :: es) t) (hdb : (x == ("__debug__" : Str)) = false := by decide)
    (he : starEach (e :: es) X.env = (false, eval e X.env) :: starEach es X.env := by rfl) (hpl : (backTo pos (starEach es X.env)).any (·.1) = false := by rfl) :
    PE X (.Call (.Name x q) (e :: es) [] pos) (tCallR R t) := by
  refine ⟨fun pins s σ H Q I h => wpAny_Call_Name_kw (ld_glob I hg hm (PySem.W.callWith_K (h₀ := X.base) I.ok.mod.kin hk
    (thn (ha.run pos pins s σ H _ I h) fun us s1 ⟨vs, H1, I1, r, q⟩ => ⟨I1.kIn, ?_⟩) he hpl) hdb)⟩
  have q2 := hR _ _ _ q
  have b := hb s1 us I1.kIn (by rw [List.append_nil, ← r.length]; exact F.len _ _ _ _ _ q2)
  rw [List.append_nil] at b
  obtain ⟨g1, g2, g3, g4, g5⟩ := I1.pin p (List.mem_append_left _ hp)
  have hpin : L2H.PinOk X.stack H1 s1 p := ⟨g1, g2, fun hm => (List.mem_cons.mp (I1.stkSub p.1 hm)).elim g3 g4, g5⟩
  show wpAny _ _ (call (.ref f) us) _ _ _
  refine wpAny_call (codeAny_mono (F.run X.A X.stack s1 H1 ⟨us, []⟩ us vs Q E0 p hr hgd hpin I1.env0 b r q2) fun r s' hq => ?_)
  cases r with
  | error e => exact False.elim hq
  | ok fl => cases fl with
    | ret u => exact I1.after hq
    | _ => exact False.elim hq
end
end Lx
namespace Lx
open PySem PySem.Spec PyProof.Rows L2

/-! ### the end of a law -/
theorem out_true {P : Program} {w : World} {H : Hp} {s s' : Shared} {a : Addr} {ob : Obj} {xs : List V} (hO : ∀ b, H b = none ∨ H b = some (.frz ob (.lst xs))) (hok : HOk P w H s.heap)
    {u : Value} (h : CE [] P w H s (fun v _ => v = .bl true) u s') : u = .bool true ∧ OldK s.heap s'.heap ∧ s'.os = s.os ∧ AllBare s'.gens := by
  obtain ⟨v, H', os, bare, un, hok', r, q⟩ := h
  have q' : v = .bl true := q
  subst q'
  refine ⟨r, OldK.of_keep fun b o e => ?_, os, bare⟩
  have nf : ∀ {b : Addr}, b ∉ frs [] := fun z => absurd (show _ ∈ ([] : List Addr) from z) (by simp)
  rcases hO b with z | z
  · exact un.keep b o e z nf (by simp)
  · have y1 : s.heap.get? b = some ob := (show ObjOk P w H s.heap b (.frz ob (.lst xs)) from hok b _ z).1
    have y2 : s'.heap.get? b = some ob := (show ObjOk P w H' s'.heap b (.frz ob (.lst xs)) from hok' b _ (un.frzs b ob _ z)).1
    rw [y1] at e
    rw [y2, ← e]

theorem law_callG {P : Program} {w : World} {K : PySem.W.Frag} {mg mb : Str → Option Value} {k : Nat} {fa a : Addr} {fd : FuncData} {x : Str} {sp : Sp} {s₁ : Shared} {vs : List Value} {ns : List Int}
    (KX : K.In s₁.heap) (hns : s₁.heap.Ns mainGlobals mg) (hb : s₁.heap.Ns builtinsNs mb) (hbb : ∀ x : Str, x ≠ "__name__" → mb x = bootBuiltins x) (hlim : s₁.heap.NoLimit) (hg : s₁.gens = #[])
    (ha : s₁.heap.get? a = some { cls := .type "list", data := .seq vs.toArray }) (hi : IntsAre vs ns) (hl : ns.length ≤ sizeLine) (hr : Room k callerA)
    (F : ∀ base : Heap, K.In base → base.Ns mainGlobals mg → FnG P w K mg base CX0 k fa fd [x] sp) (hbind : ∀ (s : Shared) (u : Value), BindsTo s fd ⟨[u], []⟩ [(x, u)])
    (hsp : ∀ H : Hp, Only H → SqL K H a (ns.map V.int) → sp [.ref a] H (fun v _ => v = .bl true) E0) :
    codeAny (model P w) callerA (.call (.ref fa) ⟨[.ref a], []⟩) (fun r s' => r = .ok (.ret (.bool true)) ∧ OldK s₁.heap s'.heap ∧ s'.os = s₁.os ∧ AllBare s'.gens) s₁ := by
  have rv := vals_ints hi
  have lv := hi.length
  obtain ⟨ob, hob⟩ : ∃ ob : Obj, ob = { cls := .type "list", data := .seq vs.toArray } := ⟨_, rfl⟩
  -- H tracks at most the script, at a
  have go : ∀ H : Hp, (∀ b, H b = none ∨ (b = a ∧ H b = some (.frz ob (.lst (ns.map V.int))))) → SqL K H a (ns.map V.int) → (H a ≠ none → K.lookup a = none) →
      codeAny (model P w) callerA (.call (.ref fa) ⟨[.ref a], []⟩) (fun r s' => r = .ok (.ret (.bool true)) ∧ OldK s₁.heap s'.heap ∧ s'.os = s₁.os ∧ AllBare s'.gens) s₁ := by
    intro H hH hS hK
    have isA : ∀ {b : Addr}, H b ≠ none → b = a := fun {b} n => (hH b).elim (fun z => absurd z n) fun z => z.1
    have hok : HOk P w H s₁.heap := fun b u q => by
      rcases hH b with z | ⟨z, z2⟩
      · rw [z] at q; cases q
      · subst z
        rw [z2] at q
        cases q
        exact ⟨by rw [hob]; exact ha, by rw [List.length_map]; exact hl, vs, _, rv, ha⟩
    have dictFree : ∀ {b : Addr} {o : Obj} {es : Array DictEntry} {ep : Nat}, s₁.heap.get? b = some o → o.data = .dict es ep → H b = none := fun {b o es ep} e d => by
      cases q : H b with
      | none => rfl
      | some u =>
        have z : b = a := isA (by rw [q]; simp)
        rw [z, ha] at e
        cases e
        cases d
    have toB : ∀ {b : Addr} {m : Str → Option Value}, s₁.heap.Ns b m → (hidT s₁.heap H).Ns b m := fun {b m} ⟨o, es, ep, e, d, r⟩ => ⟨o, es, ep, hidT_get e (dictFree e d), d, r⟩
    have inB : K.In (hidT s₁.heap H) := fun b o e => hidT_get (KX b o e) (by
      cases q : H b with
      | none => rfl
      | some u =>
        have z := isA (b := b) (by rw [q]; simp)
        rw [z, hK (by rw [← z, q]; simp)] at e
        cases e)
    have md : Mod K mg (hidT s₁.heap H) := ⟨inB, toB hns, ⟨mb, toB hb, hbb⟩, hlim.imp fun mc z => ⟨toB z.1, z.2⟩⟩
    have e0 : Env0 P w K mg (hidT s₁.heap H) callerA [] s₁ H := ⟨rfl, md, fun b o e => of_hidT e, Nat.le_of_eq (hidT_size _ _), trivial, fun b hb => absurd (show b ∈ ([] : List Addr) from hb) (by simp), hok, .of_eq hg⟩
    have on : Only H := fun b => (hH b).imp id fun z => ⟨ob, _, z.2⟩
    refine codeAny_mono ((F _ inB (toB hns)).run callerA [] s₁ H ⟨[.ref a], []⟩ [.ref a] [.ref a] _ _ hr rfl e0 (hbind s₁ (.ref a)) (.cons rfl .nil) (hsp H on hS)) fun r s' h => ?_
    cases r with
    | error e => exact False.elim h
    | ok fl => cases fl with
      | ret u =>
        obtain ⟨e1, e2⟩ := out_true (a := a) (fun b => (hH b).imp id fun z => z.2) hok h
        exact ⟨by rw [e1], e2⟩
      | _ => exact False.elim h
  cases hk : K.lookup a with
  | some o =>
    have e := KX a o hk
    rw [ha] at e
    cases e
    exact go (fun _ => none) (fun _ => .inl rfl) (.inr ⟨_, vs.toArray, _, hk, rfl, rfl, rfl, by rw [List.size_toArray, lv]; exact hl, by simpa using rv⟩) fun z => absurd rfl z
  | none =>
    refine go (fun b => if b = a then some (.frz ob (.lst (ns.map V.int))) else none) (fun b => ?_) (.inl (.inr ⟨ob, if_pos rfl⟩)) fun _ => hk
    by_cases hb : b = a
    · exact .inr ⟨hb, if_pos hb⟩
    · exact .inl (if_neg hb)

/-- what k_head leaves, from the law's promise with guards -/
theorem walk_ofG {l : PySem.W.OpenLaw} {n k : Nat} {q : Program} {loose : List Str} {XP : (Str → Option Value) → Heap → Prop} {YP : World → Heap → Prop} {d : DefRec} {K : Params → PySem.W.Frag} {sp : PySem.W.Frag → Sp} {x : Str}
    (hn : l.most = some n) (hn2 : n ≤ sizeLine) (hdf : d.params.defaults = []) (hr : Room k callerA)
    (hY : ∀ (w : World) (h : Heap), YP w h → (K w.params).In h)
    (F : ∀ (w : World) (mg : Str → Option Value) (fa : Addr) (h : Heap), (K w.params).In h → h.Ns mainGlobals mg → mg d.name = some (.ref fa) →
      ∃ fd : FuncData, (∀ (s : Shared) (u : Value), BindsTo s fd ⟨[u], []⟩ [(x, u)]) ∧
        ∀ base : Heap, (K w.params).In base → base.Ns mainGlobals mg → FnG l.prog w (K w.params) mg base CX0 k fa fd [x] (sp (K w.params)))
    (hsp : ∀ (K : PySem.W.Frag) (H : Hp) (a : Addr) (ns : List Int), ns.length ≤ n → Only H → SqL K H a (ns.map V.int) → sp K [.ref a] H (fun v _ => v = .bl true) E0) :
    PySem.W.WalkO q loose XP YP l.row.toRowW d [] (fun f vs => PySem.call f vs) := by
  refine Att.attach_call hn hdf fun w s₀ s₁ mg mb fa o pm cd doc a vs ns G Y ho hd hcd hmg hobj hints hlen hg => ?_
  obtain ⟨fd, hb, hF⟩ := F w mg fa _ (hY w _ Y) G.T.g hmg
  exact law_callG (hY w _ Y) G.T.g G.T.b G.T.builtins G.T.nolimit hg hobj hints (Nat.le_trans hlen hn2) hr hF hb fun H hO hS => hsp (K w.params) H a ns hlen hO hS

/-! ### data, with its dicts -/
def kD : Key → PyData
  | .inl i => .int i
  | .inr x => .str x
mutual
inductive Rp (H : Hp) : V → PyData → Prop
  | non : Rp H .non .none
  | bl (b : Bool) : Rp H (.bl b) (.bool b)
  | int (i : Int) : Rp H (.int i) (.int i)
  | str (x : Str) : Rp H (.str x) (.str x)
  | lst {a : Addr} {xs : List V} {ds : List PyData} : H a = some (.lst xs) → a ≠ sysModules → RpAll H xs ds → Rp H (.ref a) (.list ds)
  | tup {a : Addr} {xs : List V} {ds : List PyData} : H a = some (.tup xs) → RpAll H xs ds → Rp H (.ref a) (.tuple ds)
  | dct {a : Addr} {kvs : List (Key × V)} {ds : List (PyData × PyData)} : H a = some (.dK kvs) → ds.map (·.1) = kvs.map (fun p => kD p.1) → RpAll H (kvs.map (·.2)) (ds.map (·.2)) → Rp H (.ref a) (.dict ds)
inductive RpAll (H : Hp) : List V → List PyData → Prop
  | nil : RpAll H [] []
  | cons {v : V} {vs : List V} {d : PyData} {ds : List PyData} : Rp H v d → RpAll H vs ds → RpAll H (v :: vs) (d :: ds)
end
mutual
theorem Rp.same {H H' : Hp} (k : Same H H') : ∀ {v : V} {d : PyData}, Rp H v d → Rp H' v d
  | _, _, .non => .non
  | _, _, .bl b => .bl b
  | _, _, .int i => .int i
  | _, _, .str x => .str x
  | _, _, .lst e n r => .lst (k _ _ e) n (RpAll.same k r)
  | _, _, .tup e r => .tup (k _ _ e) (RpAll.same k r)
  | _, _, .dct e q r => .dct (k _ _ e) q (RpAll.same k r)
theorem RpAll.same {H H' : Hp} (k : Same H H') : ∀ {vs : List V} {ds : List PyData}, RpAll H vs ds → RpAll H' vs ds
  | _, _, .nil => .nil
  | _, _, .cons a b => .cons (Rp.same k a) (RpAll.same k b)
end
theorem keys_read {P : Program} {w : World} {h : Heap} : ∀ {es : List DictEntry} {vs : List (Key × Value)}, Pairs (mixKind P w) es vs → ReadsAll h (es.map (·.key)) (vs.map fun p => kD p.1) []
  | _, _, .nil => .nil
  | _, _, .cons (e := e) (kv := kv) hk hv hr => by
    have r : Reads h e.key (kD kv.1) [] := by
      rcases keyIs_shape hk with ⟨i, t, e1, e2⟩ | ⟨x, t, e1, e2⟩
      · rw [e1, e2]; exact .int i t
      · rw [e1, e2]; exact .str x t
    exact ReadsAll.cons (as := []) (bs := []) r (keys_read hr)
theorem vals_of_pairs {P : Program} {w : World} : ∀ {es : List DictEntry} {vs : List (Key × Value)}, Pairs (mixKind P w) es vs → es.map (·.val) = vs.map (·.2)
  | _, _, .nil => rfl
  | _, _, .cons hk hv hr => by rw [List.map_cons, List.map_cons, hv, vals_of_pairs hr]
theorem kv_keys : ∀ {kvs : List (Key × V)} {vs : List (Key × Value)}, KV kvs vs → vs.map (fun p => kD p.1) = kvs.map (fun p => kD p.1)
  | _, _, .nil => rfl
  | _, _, .cons a b => by rw [List.map_cons, List.map_cons, a.1, kv_keys b]
theorem kv_vals : ∀ {kvs : List (Key × V)} {vs : List (Key × Value)}, KV kvs vs → Vals (kvs.map (·.2)) (vs.map (·.2))
  | _, _, .nil => .nil
  | _, _, .cons a b => .cons a.2 (kv_vals b)
section
variable {X : Cx} {pins : List (Addr × Obj)} {σ : L2.St} {H : Hp} {s : Shared}
mutual
theorem Rp.reads (I : Inv X pins σ H s) : ∀ {v : V} {d : PyData}, Rp H v d → ∀ {u : Value}, RelV v u → ∃ as, Reads s.heap u d as ∧ sysModules ∉ as
  | _, _, .non, _, r => by cases r; exact ⟨_, .none, by simp⟩
  | _, _, .bl b, _, r => by cases r; exact ⟨_, .bool b, by simp⟩
  | _, _, .int i, _, r => by obtain ⟨t, rfl⟩ := r; exact ⟨_, .int i t, by simp⟩
  | _, _, .str x, _, r => by obtain ⟨t, rfl⟩ := r; exact ⟨_, .str x t, by simp⟩
  | _, _, @Rp.lst _ a xs ds e n h, _, r => by
    cases r
    obtain ⟨its, rv, ⟨o, c, ho, hc, _, hd⟩, _⟩ := I.list (.inl (.inl e))
    obtain ⟨as, q1, q2⟩ := RpAll.reads I h rv
    exact ⟨_, .list ho hc hd q1, fun z => (List.mem_cons.mp z).elim (fun y => n y.symm) q2⟩
  | _, _, @Rp.tup _ a xs ds e h, _, r => by
    cases r
    obtain ⟨its, rv, ⟨o, ho, hc, c, hd⟩, _⟩ := I.tuple (.inl (.inl e))
    obtain ⟨as, q1, q2⟩ := RpAll.reads I h rv
    exact ⟨_, .tuple ho hc hd q1, q2⟩
  | _, _, @Rp.dct _ a kvs ds e hk h, _, r => by
    cases r
    obtain ⟨_, hs, vs, kv, o, es, ep, ho, hx, hd, _, hp, _⟩ := (show ObjOk X.prog X.w H s.heap a (.dK kvs) from I.hok a _ e)
    obtain ⟨as, q1, q2⟩ := RpAll.reads I h (kv_vals kv)
    have e1 : ReadsAll s.heap (es.toList.map (·.key)) (ds.map (·.1)) [] := by
      rw [hk, ← kv_keys kv]
      exact keys_read hp
    have e2 : ReadsAll s.heap (es.toList.map (·.val)) (ds.map (·.2)) as := by
      rw [vals_of_pairs hp]
      exact q1
    refine ⟨_, .dict ho hx.1 hd e1 e2, fun z => ?_⟩
    rcases List.mem_cons.mp z with y | y
    · rw [← y] at hs
      simp at hs
    · exact q2 (by simpa using y)
theorem RpAll.reads (I : Inv X pins σ H s) : ∀ {vs : List V} {ds : List PyData}, RpAll H vs ds → ∀ {us : List Value}, Vals vs us → ∃ as, ReadsAll s.heap us ds as ∧ sysModules ∉ as
  | _, _, .nil, _, r => by cases r; exact ⟨_, .nil, by simp⟩
  | _, _, .cons h1 h2, _, r => by
    cases r with
    | cons r1 r2 =>
      obtain ⟨as, q1, n1⟩ := Rp.reads I h1 r1
      obtain ⟨bs, q2, n2⟩ := RpAll.reads I h2 r2
      exact ⟨_, .cons q1 q2, fun z => (List.mem_append.mp z).elim n1 n2⟩
end
end
/-- repr(x), x data -/
def rRepr : List V → Hp → VK → Prop := fun xs H Q => ∃ (v : V) (d : PyData), xs = [v] ∧ Rp H v d ∧ d.showable = true ∧ d.depth ≤ 64 ∧ d.shown.length ≤ sizeLine ∧ Q (.str d.shown) H
theorem call_repr {X : Cx} (hg : X.A.guards = some []) (hu : X.A.units + 65 < cLine) : CallR X (.builtin "repr") rRepr := by
  intro pins s σ H xs us Q I r h
  obtain ⟨v, d, rfl, hr, hs, hd, hz, q⟩ := h
  cases r with
  | cons r1 rr =>
    cases rr
    rename_i u
    have fin : ∀ {t : Tok} {s' : Shared}, Inv X pins σ H s' → EP X pins σ Q (.str d.shown t) s' := fun {t s'} J => ⟨.str d.shown, H, J, ⟨t, rfl⟩, q⟩
    obtain ⟨as, rd, nm⟩ := hr.reads I r1
    cases hr with
    | non =>
      cases r1
      exact PySem.P.repr_of_none (by simpa [PyData.shown] using fin (I.tok _))
    | bl b =>
      cases r1
      exact PySem.P.repr_of_bool (by simpa [PyData.shown] using fin (I.tok _))
    | int i =>
      obtain ⟨t, rfl⟩ := r1
      refine PySem.P.repr_of_int (by simpa [PyData.showable] using hs) (by simpa [PyData.shown] using fin (I.tok _))
    | str x =>
      obtain ⟨t, rfl⟩ := r1
      refine PySem.P.repr_of_str (by simpa [PyData.shown] using fin (I.tok _)) (by simpa [PyData.shown] using hz)
    | lst e n hh =>
      cases r1
      exact repr_of_reads' rd hs (fun _ => nm) hg (by omega) (fun _ _ e => e) (fun h' u tk hk => fin (I.kept hk)) hz
    | tup e hh =>
      cases r1
      exact repr_of_reads' rd hs (fun _ => nm) hg (by omega) (fun _ _ e => e) (fun h' u tk hk => fin (I.kept hk)) hz
    | dct e hk hh =>
      cases r1
      exact repr_of_reads' rd hs (fun _ => nm) hg (by omega) (fun _ _ e => e) (fun h' u tk hk => fin (I.kept hk)) hz
end Lx
namespace Lx
open PySem PySem.Spec PyProof.Rows L2
/-! ### exceptions of the program's classes -/
/-- what is asked of an exception class, for isinstance and fields -/
structure XcF (K : PySem.W.Frag) (C : Addr) : Prop where
  ga : PySem.W.findIn K (.ref C) "__getattribute__" = some (some (.builtin "BaseException.__getattribute__"))
  gg : PySem.W.findIn K (.ref C) "__getattr__" = some none
  ex : PySem.W.subIn K (.ref C) (.type "BaseException") = some true
  hd : PySem.W.hasDictIn K C = true
  cl : PySem.W.findIn K (.ref C) "__class__" = some (some (.builtin "object.__class__"))
  ob : PySem.W.mroIn K C (.type "object") = some true
  sp : PySem.W.specialIn K (.builtin "object.__class__") "__get__" = some (some (.builtin "getset_descriptor.__get__"))
  tk : PySem.W.takesIn K (.builtin "object.__class__") = some true
/-- the exception at p is of the class at C, its fields fs -/
def ExcAt (H : Hp) (p : Addr × Obj) (C : Addr) (fs : List (Str × V)) : Prop :=
  p.2.cls = .ref C ∧ (∃ vs, p.2.data = .fields vs) ∧ ((p.2.dict = none ∧ fs = []) ∨ ∃ d, p.2.dict = some d ∧ H d = some (.xd fs))
theorem ExcAt.same {H H' : Hp} {p : Addr × Obj} {C : Addr} {fs : List (Str × V)} (h : ExcAt H p C fs) (k : Same H H') : ExcAt H' p C fs :=
  ⟨h.1, h.2.1, h.2.2.imp id fun ⟨d, e, q⟩ => ⟨d, e, k _ _ q⟩⟩
section
variable {X : Cx} {pins : List (Addr × Obj)} {σ : L2.St} {H : Hp} {s : Shared} {p : Addr × Obj} {C : Addr} {fs : List (Str × V)}
theorem ExcAt.inst (I : Inv X pins σ H s) (hp : p ∈ X.pn) (h : ExcAt H p C fs) : ∃ od, PySem.W.InstAt s.heap p.1 p.2 C od ∧ ∀ f v, fs.lookup f = some v → ∃ o, od = some o ∧ ∃ u, PySem.W.lookIn f o = some (some u) ∧ RelV v u := by
  obtain ⟨hc, ⟨vs, hv⟩, hd⟩ := h
  have hget := (I.pin p (List.mem_append_left _ hp)).1
  have hn : PySem.W.notCls p.2 = true := by unfold PySem.W.notCls; rw [hv] <;> rfl
  rcases hd with ⟨e, ef⟩ | ⟨d, e, q⟩
  · refine ⟨none, ⟨hget, hc, hn, by rw [e]; trivial⟩, fun f v hl => ?_⟩
    rw [ef] at hl
    cases hl
  · obtain ⟨mA, hns, hr⟩ := (show ObjOk X.prog X.w H s.heap d (.xd fs) from I.hok d _ q)
    obtain ⟨od, ho, hl⟩ := lookIn_ns hns
    refine ⟨some od, ⟨hget, hc, hn, by rw [e]; exact ho⟩, fun f v h2 => ⟨od, rfl, ?_⟩⟩
    obtain ⟨u, hu, ru⟩ := RelO.some_of (v := v) (o := mA f) (by rw [← h2]; exact hr f)
    exact ⟨u, by rw [hl, hu], ru⟩
/-- isinstance(e, c), e the exception at p -/
def rIsP (K : PySem.W.Frag) (p : Addr × Obj) : List V → Hp → VK → Prop := fun xs H Q => ∃ (c : V) (cv : Value) (b : Bool) (C : Addr) (fs : List (Str × V)),
  xs = [.ref p.1, c] ∧ (∀ u, RelV c u → u = cv) ∧ ExcAt H p C fs ∧ XcF K C ∧ PySem.W.kitOne K (.ref C) cv = some b ∧ Q (.bl b) H
theorem call_isP (hp : p ∈ X.pn) : CallR X (.builtin "isinstance") (rIsP X.K p) := by
  intro pins s σ H xs us Q I r h
  obtain ⟨c, cv, b, C, fs, rfl, hcv, he, T, e, q⟩ := h
  cases r with
  | cons rx rr =>
    cases rr with
    | cons rt rr =>
      cases rr
      cases rx
      have ec := hcv _ rt
      subst ec
      obtain ⟨od, J, _⟩ := he.inst I hp
      obtain ⟨cd, hcd, _⟩ := PySem.W.any_some T.hd
      exact PySem.W.kia_one (PySem.W.kitx_exc (od := od) (by rw [hcd]; rfl) T.ga T.gg T.ex T.cl T.sp T.tk T.ob) I.kIn J e (fun z => nomatch z) fun tk => ⟨.bl b, H, I.kept (t' := tk) fun _ _ z => z, rfl, q⟩
/-- e.n, e the exception at p -/
def tFldP (K : PySem.W.Frag) (p : Addr × Obj) (n : Str) (te : TE) : TE := fun σ H Q => te σ H fun x H1 => x = .ref p.1 ∧ ∃ (C : Addr) (fs : List (Str × V)) (v : V),
  ExcAt H1 p C fs ∧ XcF K C ∧ PySem.W.findIn K (.ref C) n = some none ∧ fs.lookup n = some v ∧ Q v H1
theorem pe_fldP {e : Expr} {te : TE} {pos : Pos} {n : Str} (hp : p ∈ X.pn) (he : PE X e te) (hb : attributeBase e n X.env (eval e X.env) = eval e X.env := by rfl) : PE X (.Attribute e n pos) (tFldP X.K p n te) := by
  refine ⟨fun pins s σ H Q I h => attr_of hb (thn (he.run pins s σ H _ I h) fun u s1 hh => ?_)⟩
  obtain ⟨x, H1, I1, rx, ex, C, fs, v, ea, T, hno, hl, q⟩ := hh
  subst ex
  obtain rfl : u = Value.ref p.1 := rx
  obtain ⟨od, J, hf⟩ := ea.inst I1 hp
  obtain ⟨o, rfl, u, hu, ru⟩ := hf n v hl
  exact HandSPX.exc_get I1.kIn J T.ga T.gg T.ex (PySem.W.findObj_own T.hd hno rfl hu) (handed_of ru) ⟨v, H1, I1.tok _, ru, q⟩
/-- a list display, its place no module's table -/
def tLstN (t : TA) : TE := fun σ H Q => t σ H fun xs H1 => xs.length ≤ sizeLine ∧ ∀ p, H1 p = none → p ≠ sysModules → Q (.ref p) (upd H1 p (.lst xs))
theorem big_of (I : Inv X pins σ H s) : sysModules < s.heap.objs.size := by
  obtain ⟨o, _, _, e, _⟩ := I.ok.mod.glob
  have h1 : mainGlobals < X.base.objs.size := Heap.lt_size e
  have h2 := Nat.le_trans I.ok.bsz I.sz
  exact Nat.lt_of_lt_of_le (Nat.lt_trans (by decide : sysModules < mainGlobals) h1) h2
theorem pe_lstN {es : List Expr} {t : TA} {pos : Pos} (h : PA X es t) : PE X (.List es pos) (tLstN t) := by
  refine ⟨fun pins s σ H Q I hq => wpAny_List_spliced (thn (h.run pos pins s σ H _ I hq) fun us s1 ⟨xs, H1, I1, r, z, q⟩ => ⟨by rw [← r.length]; exact z, ?_⟩)⟩
  have new : H1 s1.heap.objs.size = none := I1.hok.fresh (Nat.le_refl _)
  have ok : ObjOk X.prog X.w (upd H1 s1.heap.objs.size (.lst xs)) (s1.heap.push { cls := .type "list", data := .seq us.toArray }) s1.heap.objs.size (.lst xs) := ⟨z, us, 0, r, Heap.get?_push_size _ rfl⟩
  exact ⟨.ref s1.heap.objs.size, _, I1.laid (t' := s1.toks) (fun b u e => Heap.get?_push_of_some _ e) (Nat.le_refl _) ok, rfl, q _ new fun z => Nat.lt_irrefl _ (z ▸ big_of I1)⟩
end
/-- classes by the written part, as one look -/
def xcB (K : PySem.W.Frag) (C : Addr) : Bool :=
  decide (PySem.W.findIn K (.ref C) "__getattribute__" = some (some (.builtin "BaseException.__getattribute__"))) && decide (PySem.W.findIn K (.ref C) "__getattr__" = some none) &&
  decide (PySem.W.subIn K (.ref C) (.type "BaseException") = some true) && PySem.W.hasDictIn K C && decide (PySem.W.findIn K (.ref C) "__class__" = some (some (.builtin "object.__class__"))) &&
  decide (PySem.W.mroIn K C (.type "object") = some true) && decide (PySem.W.specialIn K (.builtin "object.__class__") "__get__" = some (some (.builtin "getset_descriptor.__get__"))) && decide (PySem.W.takesIn K (.builtin "object.__class__") = some true)
theorem xcB_ok {K : PySem.W.Frag} {C : Addr} (h : xcB K C = true) : XcF K C := by
  unfold xcB at h
  simp only [Bool.and_eq_true, decide_eq_true_eq] at h
  obtain ⟨⟨⟨⟨⟨⟨⟨h1, h2⟩, h3⟩, h4⟩, h5⟩, h6⟩, h7⟩, h8⟩ := h
  exact ⟨h1, h2, h3, h4, h5, h6, h7, h8⟩
end Lx
namespace Lx
open PySem PySem.Spec PyProof.Rows L2
/-! ### a def of the program by its name -/
/-- the def st stands under its name x -/
def Has (K : PySem.W.Frag) (mg : Str → Option Value) (x : Str) (st : Stmt) : Prop := ∃ f fd, Fun K x x st f fd ∧ mg x = some (.ref f)
/-- it keeps the promise sp -/
structure Keeps (P : Program) (w : World) (K : PySem.W.Frag) (mg : Str → Option Value) (base : Heap) (CX : CXT) (k : Nat) (x : Str) (ps : List Str) (sp : Sp) : Prop where
  ex : ∃ f fd, FnG P w K mg base CX k f fd ps sp ∧ mg x = some (.ref f) ∧ PySem.W.keepIn K (.ref f) = true ∧ Binds K fd ps []
structure KeepsE (P : Program) (w : World) (K : PySem.W.Frag) (mg : Str → Option Value) (base : Heap) (k : Nat) (x : Str) (ps : List Str) (sp : Addr × Obj → Sp) : Prop where
  ex : ∃ f fd, FnE P w K mg base k f fd ps sp ∧ mg x = some (.ref f) ∧ PySem.W.keepIn K (.ref f) = true ∧ Binds K fd ps []
/-- how a def without defaults binds -/
def BindsBy (x : Str) (st : Stmt) (ps : List Str) : Prop := ∀ (kV doc pm : Value) (an : Option Addr) (cdv ct : Value) (us : List Value), us.length = ps.length →
  bindArgs (PySem.W.fnOf x x (defArgs st) (defBody st) (defScope st) .none kV doc pm an cdv ct) ⟨us, []⟩ = pure (ps.zip us)
section
variable {P : Program} {w : World} {K : PySem.W.Frag} {mg : Str → Option Value} {base : Heap} {CX : CXT} {x : Str} {st : Stmt} {N ps : List Str} {k : Nat} {sp : Sp}
theorem keep0 (F : Has K mg x st) (b : BindsBy x st ps) (S : FnScope N ps (defScope st)) (len : ∀ vs H Q E, sp vs H Q E → vs.length = ps.length)
    (hbody : ∀ (f : Addr) (cdv : Value) (A : Around) (outer : List Env) (s : Shared) (H : Hp) (vs : List V) (Q : VK) (E : XK), Room k (A.deeper (envOfC x (defScope st) s.heap.objs.size f cdv)) →
      (A.deeper (envOfC x (defScope st) s.heap.objs.size f cdv)).guards = some [] → sp vs H Q E →
      ∃ t, PSs (cxOf CX0 P w K mg base N x (defScope st) f cdv A outer s H E).nox (defBody st) t ∧ t { nx := fun _ H' => Q .non H', rt := Q } (start N vs) H) :
    Keeps P w K mg base CX0 (k + 1) x ps sp := by
  obtain ⟨f, fd, F, hm⟩ := F
  refine ⟨f, fd, okG F S len fun cdv A outer s H vs Q E hr hg h => ?_, hm, F.kp, F.binds b⟩
  obtain ⟨t, h1, h2⟩ := hbody f cdv A outer s H vs Q E hr hg h
  exact ⟨t, h1.nox, h2⟩
theorem keepX (F : Has K mg x st) (b : BindsBy x st ps) (S : FnScope N ps (defScope st)) (len : ∀ vs H Q E, sp vs H Q E → vs.length = ps.length)
    (hbody : ∀ (f : Addr) (cdv : Value) (A : Around) (outer : List Env) (s : Shared) (H : Hp) (vs : List V) (Q : VK) (E : XK), Room k (A.deeper (envOfC x (defScope st) s.heap.objs.size f cdv)) →
      (A.deeper (envOfC x (defScope st) s.heap.objs.size f cdv)).guards = some [] → sp vs H Q E →
      ∃ t, PSs (cxOf (L2.CX P w) P w K mg base N x (defScope st) f cdv A outer s H E) (defBody st) t ∧ t { nx := fun _ H' => Q .non H', rt := Q } (start N vs) H) :
    Keeps P w K mg base (L2.CX P w) (k + 1) x ps sp := by
  obtain ⟨f, fd, F, hm⟩ := F
  exact ⟨f, fd, okG F S len fun cdv A outer s H vs Q E hr hg h => hbody f cdv A outer s H vs Q E hr hg h, hm, F.kp, F.binds b⟩
theorem keepE {sp : Addr × Obj → Sp} (F : Has K mg x st) (b : BindsBy x st ps) (S : FnScope N ps (defScope st)) (len : ∀ p vs H Q E, sp p vs H Q E → vs.length = ps.length)
    (hbody : ∀ (f : Addr) (cdv : Value) (A : Around) (outer : List Env) (s : Shared) (H : Hp) (vs : List V) (Q : VK) (E : XK) (p : Addr × Obj), L2H.RoomH k (A.deeper (envOfC x (defScope st) s.heap.objs.size f cdv)) →
      (A.deeper (envOfC x (defScope st) s.heap.objs.size f cdv)).guards = some [] → sp p vs H Q E →
      ∃ t, PSs (L2H.cxH CX0 P w K mg base N x (defScope st) f cdv A outer s H E p).nox (defBody st) t ∧ t { nx := fun _ H' => Q .non H', rt := Q } (start N vs) H) :
    KeepsE P w K mg base (k + 1) x ps sp := by
  obtain ⟨f, fd, F, hm⟩ := F
  exact ⟨f, fd, okE F S len fun cdv A outer s H vs Q E p hr hg h => hbody f cdv A outer s H vs Q E p hr hg h, hm, F.kp, F.binds b⟩
theorem Keeps.mono {j : Nat} (D : Keeps P w K mg base CX j x ps sp) (h : j ≤ k) : Keeps P w K mg base CX k x ps sp := by
  obtain ⟨f, fd, F, r⟩ := D.ex
  exact ⟨f, fd, F.mono h, r⟩
end
section
variable {X : Cx} {CX : CXT} {j k : Nat} {x : Str} {ps : List Str} {sp : Sp} {q pos : Pos} {e : Expr} {es : List Expr} {t : TA}
/-- f(e, ..), f a def that raises nothing -/
theorem pc0 (D : Keeps X.prog X.w X.K X.mg X.base CX0 j x ps sp) (hr : Room k X.A) (hg : X.A.guards = some []) (ha : PA X (e :: es) t) (hjk : j ≤ k := by decide) (hgl : Gl X x := by rfl)
    (hdb : (x == ("__debug__" : Str)) = false := by decide) (he : starEach (e :: es) X.env = (false, eval e X.env) :: starEach es X.env := by rfl)
    (hpl : (backTo pos (starEach es X.env)).any (·.1) = false := by rfl) : PE X (.Call (.Name x q) (e :: es) [] pos) (tCallS sp noE t) := by
  obtain ⟨f, fd, F, hm, hk, hb⟩ := D.ex
  exact pe_callG F (hr.mono hjk) hg hgl hm hk hb (fun _ => at0) ha hdb he hpl
theorem pc00 (D : Keeps X.prog X.w X.K X.mg X.base CX0 j x [] sp) (hr : Room k X.A) (hg : X.A.guards = some []) (hjk : j ≤ k := by decide) (hgl : Gl X x := by rfl)
    (hdb : (x == ("__debug__" : Str)) = false := by decide) : PE X (.Call (.Name x q) [] [] pos) (tCallS sp noE tNil) := by
  obtain ⟨f, fd, F, hm, hk, hb⟩ := D.ex
  exact pe_callG0 F (hr.mono hjk) hg hgl hm hk hb (fun _ => at0) hdb
/-- f(e, ..), f a def that may raise -/
theorem pcX {W : WX} (D : Keeps X.prog X.w X.K X.mg X.base (L2.CX X.prog X.w) j x ps sp) (hr : Room k X.A) (hg : X.A.guards = some []) (tk : Takes X W) (ha : PA X (e :: es) t) (hjk : j ≤ k := by decide) (hgl : Gl X x := by rfl)
    (hdb : (x == ("__debug__" : Str)) = false := by decide) (he : starEach (e :: es) X.env = (false, eval e X.env) :: starEach es X.env := by rfl)
    (hpl : (backTo pos (starEach es X.env)).any (·.1) = false := by rfl) : PE X (.Call (.Name x q) (e :: es) [] pos) (tCallS sp (WE W) t) := by
  obtain ⟨f, fd, F, hm, hk, hb⟩ := D.ex
  exact pe_callG F (hr.mono hjk) hg hgl hm hk hb (fun σ => passAt tk σ) ha hdb he hpl
/-- f(e, ..), f a def that is handed the exception at p -/
theorem pcE {p : Addr × Obj} {sp : Addr × Obj → Sp} (D : KeepsE X.prog X.w X.K X.mg X.base j x ps sp) (hr : L2H.RoomH k X.A) (hg : X.A.guards = some []) (hp : p ∈ X.pn) (ha : PA X (e :: es) t) (hjk : j ≤ k := by decide) (hgl : Gl X x := by rfl)
    (hdb : (x == ("__debug__" : Str)) = false := by decide) (he : starEach (e :: es) X.env = (false, eval e X.env) :: starEach es X.env := by rfl)
    (hpl : (backTo pos (starEach es X.env)).any (·.1) = false := by rfl) : PE X (.Call (.Name x q) (e :: es) [] pos) (tCallR (fun vs H Q => sp p vs H Q E0) t) := by
  obtain ⟨f, fd, F, hm, hk, hb⟩ := D.ex
  exact pe_callR (fun _ _ _ h => h) F (hr.mono hjk) hg hp hgl hm hk hb ha hdb he hpl
/-- the same within the suite that holds the exception at a, of the class cls, its dict d -/
def callA (sp : Addr × Obj → Sp) (a : Addr) (cls : Value) (d : Option Addr) : List V → Hp → VK → Prop := fun vs H Q => ∀ oe : Obj, Zc cls d oe → (∃ fv, oe.data = .fields fv) → sp (a, oe) vs H Q E0
theorem pcA {a : Addr} {oe : Obj} {cls : Value} {d : Option Addr} {sp : Addr × Obj → Sp} (D : KeepsE X.prog X.w X.K X.mg X.base j x ps sp) (hr : L2H.RoomH k X.A) (hg : X.A.guards = some []) (hp : (a, oe) ∈ X.pn) (hz : Zc cls d oe) (hf : ∃ fv, oe.data = .fields fv) (ha : PA X (e :: es) t)
    (hjk : j ≤ k := by decide) (hgl : Gl X x := by rfl) (hdb : (x == ("__debug__" : Str)) = false := by decide) (he : starEach (e :: es) X.env = (false, eval e X.env) :: starEach es X.env := by rfl)
    (hpl : (backTo pos (starEach es X.env)).any (·.1) = false := by rfl) : PE X (.Call (.Name x q) (e :: es) [] pos) (tCallR (callA sp a cls d) t) := by
  obtain ⟨f, fd, F, hm, hk, hb⟩ := D.ex
  exact pe_callR (fun _ _ _ h => h oe hz hf) F (hr.mono hjk) hg hp hgl hm hk hb ha hdb he hpl
end
/-! ### the source of all draws -/
def penL (l : Addr) (a d c f : Int) : List (Key × V) := [(.inr "cells", .ref l), (.inr "at", .int a), (.inr "digits", .int d), (.inr "count", .int c), (.inr "fold", .int f)]
section
variable {l : Addr} {a d c f x : Int} {H : Hp} {p : Addr}
theorem get_cells : valV (penL l a d c f) (.inr "cells") = some (.ref l) := by rfl
theorem get_at : valV (penL l a d c f) (.inr "at") = some (.int a) := by rfl
theorem get_digits : valV (penL l a d c f) (.inr "digits") = some (.int d) := by rfl
theorem get_count : valV (penL l a d c f) (.inr "count") = some (.int c) := by rfl
theorem get_fold : valV (penL l a d c f) (.inr "fold") = some (.int f) := by rfl
theorem put_at : putK (penL l a d c f) (.inr "at") (.int x) = penL l x d c f := by rfl
theorem put_digits : putK (penL l a d c f) (.inr "digits") (.int x) = penL l a x c f := by rfl
theorem put_count : putK (penL l a d c f) (.inr "count") (.int x) = penL l a d x f := by rfl
theorem put_fold : putK (penL l a d c f) (.inr "fold") (.int x) = penL l a d c x := by rfl
/-- at p a source of draws, its cells at l -/
def PenAt (H : Hp) (p l : Addr) (ns : List Int) (a d c f : Int) : Prop := H p = some (.dK (penL l a d c f)) ∧ H l = some (.lst (ns.map V.int)) ∧ 0 ≤ a ∧ 0 ≤ d ∧ 0 ≤ c ∧ 0 ≤ f ∧ f < 2147483648
def PenOk (H : Hp) (p : Addr) : Prop := ∃ l ns a d c f, PenAt H p l ns a d c f
/-- all but what stands at p is as it was -/
def SameBut (p : Addr) (H H' : Hp) : Prop := ∀ b o, b ≠ p → H b = some o → H' b = some o
theorem SameBut.trans {p : Addr} {H H1 H2 : Hp} (a : SameBut p H H1) (b : SameBut p H1 H2) : SameBut p H H2 := fun c o n h => b c o n (a c o n h)
theorem SameBut.of {p : Addr} {H H1 : Hp} (a : Same H H1) : SameBut p H H1 := fun c o _ h => a c o h
theorem SameBut.upd {p : Addr} {H : Hp} {o : HO} : SameBut p H (upd H p o) := fun b u n h => by rw [upd_ne n]; exact h
theorem PenAt.ne {H : Hp} {p l : Addr} {ns : List Int} {a d c f : Int} (h : PenAt H p l ns a d c f) : l ≠ p := fun z => by
  have e := h.2.1
  rw [z, h.1] at e
  cases e
theorem getP {kv : List (Key × V)} (k : Str) {v : V} (h : H p = some (.dK kv)) (e : valV kv (.inr k) = some v) : DGet H p (.str k) (some v) := .inl ⟨kv, .inr k, .inl h, rfl, e.symm⟩
theorem putP {kv kv' : List (Key × V)} (k : Str) {v : V} (h : H p = some (.dK kv)) (e : putK kv (.inr k) v = kv') (hl : kv.length < sizeLine) : DPut H p (.str k) v (upd H p (.dK kv')) := .inl ⟨kv, .inr k, h, rfl, hl, by rw [e]⟩
end
theorem pen_small {l : Addr} {a d c f : Int} : (penL l a d c f).length < sizeLine := by show 5 < sizeLine; decide
/-- _law_draw(pen, many) -/
def spDraw : Sp := fun vs H Q _ => ∃ (p : Addr) (m : Int), vs = [.ref p, .int m] ∧ PenOk H p ∧ 0 < m ∧ m < 1073741824 ∧
  ∀ (r : Int) (H' : Hp), 0 ≤ r → r < m → PenOk H' p → SameBut p H H' → (∀ b, H b = none → H' b = none) → Q (.int r) H'
/-- _law_pen(script) -/
def spPen (K : PySem.W.Frag) : Sp := fun vs H Q _ => ∃ (a : Addr) (ns : List Int), vs = [.ref a] ∧ SqL K H a (ns.map V.int) ∧
  ∀ (p : Addr) (H' : Hp), Same H H' → H p = none → PenOk H' p → Q (.ref p) H'
/-- _law_pick(pen, some) -/
def spPick : Sp := fun vs H Q _ => ∃ (p q : Addr) (xs : List V), vs = [.ref p, .ref q] ∧ PenOk H p ∧ H q = some (.lst xs) ∧ 0 < xs.length ∧ xs.length ≤ 1000 ∧ q ≠ p ∧
  ∀ (v : V) (H' : Hp), v ∈ xs → PenOk H' p → SameBut p H H' → Q v H'
end Lx
namespace Lx
open PySem PySem.Spec PyProof.Rows L2
/-! ### built-ins, their readings named -/
def rInt : List V → Hp → VK → Prop := fun xs H Q => (∃ i, xs = [.int i] ∧ Q (.int i) H) ∨ ∃ k, xs = [.bl k] ∧ Q (.int (if k then 1 else 0)) H
theorem c_int {X : Cx} : CallR X (.type "int") rInt := call_int1
def rLenK (K : PySem.W.Frag) : List V → Hp → VK → Prop := fun xs H Q => ∃ p ys, xs = [.ref p] ∧ (SqL K H p ys ∨ SqT K H p ys) ∧ Q (.int ys.length) H
theorem c_len {X : Cx} : CallR X (.builtin "len") (rLenK X.K) := call_len_seq
def rListK (K : PySem.W.Frag) : List V → Hp → VK → Prop := fun xs H Q => ∃ p ys, xs = [.ref p] ∧ (SqL K H p ys ∨ SqT K H p ys) ∧ ∀ l, H l = none → Q (.ref l) (upd H l (.lst ys))
theorem c_list {X : Cx} : CallR X (.type "list") (rListK X.K) := call_list_of
def rIsN : R2 := fun x y H Q => y = .non ∧ Q (.bl (decide (x = .non))) H
theorem o_isN {X : Cx} : OpR X (compareOp .Is) rIsN := op_isN
def rNotN : R2 := fun x y H Q => y = .non ∧ Q (.bl (!decide (x = .non))) H
theorem o_notN {X : Cx} : OpR X (compareOp .IsNot) rNotN := op_notN
/-! ### readings, a step each -/
section
variable {D : Ends} {σ : L2.St} {H : Hp} {t u : TS} {te ta tb : TE} {tc td : TT} {g : TG} {i : Nat} {v x y : V} {Q : VK} {K : PySem.W.Frag}
theorem rr_seq (h : t { D with nx := u D } σ H) : tSeq t u D σ H := h
/-- what follows is shown once, for all states that come there -/
theorem rr_seqJ {α : Type} (C : α → Prop) (S : α → L2.St) (G : α → Hp) (h2 : ∀ z, C z → u D (S z) (G z)) (h1 : (∀ z, C z → u D (S z) (G z)) → t { D with nx := u D } σ H) : tSeq t u D σ H := h1 h2
theorem rr_next (h : D.nx σ H) : tNext D σ H := h
theorem rr_asg (h : te σ H fun x H1 => g x σ H1 D.nx) : tAsg te g D σ H := h
theorem rr_name {R : L2.St → Hp → Prop} (h : R (σ.set i (some v)) H) : gName i v σ H R := h
theorem rr_drop (h : te σ H fun _ H1 => D.nx σ H1) : tDrop te D σ H := h
theorem rr_ret (h : te σ H D.rt) : tRet te D σ H := h
theorem rr_retN (h : D.rt .non H) : tRetN D σ H := h
theorem rr_ifs (h : tc σ H fun b H1 => if b = true then t D σ H1 else u D σ H1) : tIfS tc t u D σ H := h
theorem rr_if (h : tc σ H fun b H1 => if b = true then ta σ H1 Q else tb σ H1 Q) : tIf tc ta tb σ H Q := h
theorem rr_test {R : Bool → Hp → Prop} (h : te σ H fun x H1 => ∃ k, x = .bl k ∧ R k H1) : tTest te σ H R := h
theorem rr_tB {R : Bool → Hp → Prop} (h : te σ H fun x H1 => ∃ k, x = .bl k ∧ R k H1) : tB te σ H R := h
theorem rr_bl {b : Bool} {R : Bool → Prop} (h : R b) : ∃ k, V.bl b = .bl k ∧ R k := ⟨b, rfl, h⟩
theorem rr_and {R : Bool → Hp → Prop} (h : tc σ H fun c H1 => if c = true then td σ H1 R else R false H1) : tAnd tc td σ H R := h
theorem rr_or {R : Bool → Hp → Prop} (h : tc σ H fun c H1 => if c = true then R true H1 else td σ H1 R) : tOr tc td σ H R := h
theorem rr_not {R : Bool → Hp → Prop} (h : tc σ H fun c H1 => R (!c) H1) : tNot tc σ H R := h
theorem rr_var (e : σ[i]? = some (some v)) (h : Q v H) : tVar i σ H Q := ⟨v, e, h⟩
theorem rr_c (h : Q v H) : tC v σ H Q := h
theorem rr_op {r : R2} (h : ta σ H fun x H1 => tb σ H1 fun y H2 => r x y H2 Q) : tOp r ta tb σ H Q := h
theorem rr_un {r : V → Hp → VK → Prop} (h : ta σ H fun x H1 => r x H1 Q) : tUn r ta σ H Q := h
theorem rr_i0 {f : Int → Int → V} {a b : Int} (h : Q (f a b) H) : rI0 f (.int a) (.int b) H Q := ⟨a, b, rfl, rfl, h⟩
theorem rr_i {C : Int → Int → Prop} {f : Int → Int → V} {a b : Int} (c : C a b) (h : Q (f a b) H) : rI C f (.int a) (.int b) H Q := ⟨a, b, rfl, rfl, c, h⟩
theorem rr_eq (c : scal x y = true) (h : Q (.bl (decide (x = y))) H) : rEq x y H Q := ⟨c, h⟩
theorem rr_ne (c : scal x y = true) (h : Q (.bl (!decide (x = y))) H) : rNe x y H Q := ⟨c, h⟩
theorem rr_eqi {a b : Int} (h : Q (.bl (decide (a = b))) H) : rEq (.int a) (.int b) H Q := ⟨rfl, by
  have e : decide (V.int a = V.int b) = decide (a = b) := by
    by_cases z : a = b
    · rw [decide_eq_true z, decide_eq_true (congrArg V.int z)]
    · rw [decide_eq_false z, decide_eq_false fun q => z (V.int.inj q)]
  rw [e]
  exact h⟩
theorem rr_nei {a b : Int} (h : Q (.bl (!decide (a = b))) H) : rNe (.int a) (.int b) H Q := ⟨rfl, by
  have e : decide (V.int a = V.int b) = decide (a = b) := by
    by_cases z : a = b
    · rw [decide_eq_true z, decide_eq_true (congrArg V.int z)]
    · rw [decide_eq_false z, decide_eq_false fun q => z (V.int.inj q)]
  rw [e]
  exact h⟩
theorem rr_cons {ts : TA} {R : List V → Hp → Prop} (h : ta σ H fun x H1 => ts σ H1 fun xs H2 => R (x :: xs) H2) : tCons ta ts σ H R := h
theorem rr_nil {R : List V → Hp → Prop} (h : R [] H) : tNil σ H R := h
theorem rr_cb {ts : TA} {r : List V → Hp → VK → Prop} (h : ts σ H fun vs H1 => r vs H1 Q) : tCB r ts σ H Q := h
theorem rr_call {ts : TA} {sp : Sp} {E : L2.St → XK} (h : ts σ H fun vs H1 => sp vs H1 Q (E σ)) : tCallS sp E ts σ H Q := h
theorem rr_tup {ts : TA} (h : ts σ H fun xs H1 => xs.length ≤ sizeLine ∧ ∀ p, H1 p = none → Q (.ref p) (upd H1 p (.tup xs))) : tTup ts σ H Q := h
theorem rr_lst {ts : TA} (h : ts σ H fun xs H1 => xs.length ≤ sizeLine ∧ ∀ p, H1 p = none → Q (.ref p) (upd H1 p (.lst xs))) : tLst ts σ H Q := h
theorem rr_lstN {ts : TA} (h : ts σ H fun xs H1 => xs.length ≤ sizeLine ∧ ∀ p, H1 p = none → p ≠ sysModules → Q (.ref p) (upd H1 p (.lst xs))) : tLstN ts σ H Q := h
theorem rr_dget (h : ta σ H fun x H1 => tb σ H1 fun y H2 => ∃ a v, x = .ref a ∧ DGet H2 a y (some v) ∧ Q v H2) : tDGet ta tb σ H Q := h
theorem rr_dput (h : te σ H fun v H1 => ta σ H1 fun x H2 => tb σ H2 fun y H3 => ∃ a H4, x = .ref a ∧ DPut H3 a y v H4 ∧ D.nx σ H4) : sDPut ta tb te D σ H := h
theorem rr_bm {T : String} {r : V → List V → Hp → VK → Prop} {ts : TA} (h : ta σ H fun x H1 => tyV K T x H1 ∧ ts σ H1 fun xs H2 => r x xs H2 Q) : tBM K T r ta ts σ H Q := h
theorem rr_isN (h : Q (.bl (decide (x = .non))) H) : rIsN x .non H Q := ⟨rfl, h⟩
theorem rr_notN (h : Q (.bl (!decide (x = .non))) H) : rNotN x .non H Q := ⟨rfl, h⟩
theorem rr_v0 {r : List (Option V)} (h : Q v H) : tVar 0 (some v :: r) H Q := ⟨v, rfl, h⟩
theorem rr_n0 {z : Option V} {r : List (Option V)} {R : L2.St → Hp → Prop} (h : R (some v :: r) H) : gName 0 v (z :: r) H R := h
theorem rr_v1 {a0 : Option V} {r : List (Option V)} (h : Q v H) : tVar 1 (a0 :: some v :: r) H Q := ⟨v, rfl, h⟩
theorem rr_n1 {a0 : Option V} {z : Option V} {r : List (Option V)} {R : L2.St → Hp → Prop} (h : R (a0 :: some v :: r) H) : gName 1 v (a0 :: z :: r) H R := h
theorem rr_v2 {a0 a1 : Option V} {r : List (Option V)} (h : Q v H) : tVar 2 (a0 :: a1 :: some v :: r) H Q := ⟨v, rfl, h⟩
theorem rr_n2 {a0 a1 : Option V} {z : Option V} {r : List (Option V)} {R : L2.St → Hp → Prop} (h : R (a0 :: a1 :: some v :: r) H) : gName 2 v (a0 :: a1 :: z :: r) H R := h
theorem rr_v3 {a0 a1 a2 : Option V} {r : List (Option V)} (h : Q v H) : tVar 3 (a0 :: a1 :: a2 :: some v :: r) H Q := ⟨v, rfl, h⟩
theorem rr_n3 {a0 a1 a2 : Option V} {z : Option V} {r : List (Option V)} {R : L2.St → Hp → Prop} (h : R (a0 :: a1 :: a2 :: some v :: r) H) : gName 3 v (a0 :: a1 :: a2 :: z :: r) H R := h
theorem rr_v4 {a0 a1 a2 a3 : Option V} {r : List (Option V)} (h : Q v H) : tVar 4 (a0 :: a1 :: a2 :: a3 :: some v :: r) H Q := ⟨v, rfl, h⟩
theorem rr_n4 {a0 a1 a2 a3 : Option V} {z : Option V} {r : List (Option V)} {R : L2.St → Hp → Prop} (h : R (a0 :: a1 :: a2 :: a3 :: some v :: r) H) : gName 4 v (a0 :: a1 :: a2 :: a3 :: z :: r) H R := h
theorem rr_v5 {a0 a1 a2 a3 a4 : Option V} {r : List (Option V)} (h : Q v H) : tVar 5 (a0 :: a1 :: a2 :: a3 :: a4 :: some v :: r) H Q := ⟨v, rfl, h⟩
theorem rr_n5 {a0 a1 a2 a3 a4 : Option V} {z : Option V} {r : List (Option V)} {R : L2.St → Hp → Prop} (h : R (a0 :: a1 :: a2 :: a3 :: a4 :: some v :: r) H) : gName 5 v (a0 :: a1 :: a2 :: a3 :: a4 :: z :: r) H R := h
theorem rr_v6 {a0 a1 a2 a3 a4 a5 : Option V} {r : List (Option V)} (h : Q v H) : tVar 6 (a0 :: a1 :: a2 :: a3 :: a4 :: a5 :: some v :: r) H Q := ⟨v, rfl, h⟩
theorem rr_n6 {a0 a1 a2 a3 a4 a5 : Option V} {z : Option V} {r : List (Option V)} {R : L2.St → Hp → Prop} (h : R (a0 :: a1 :: a2 :: a3 :: a4 :: a5 :: some v :: r) H) : gName 6 v (a0 :: a1 :: a2 :: a3 :: a4 :: a5 :: z :: r) H R := h
theorem rr_v7 {a0 a1 a2 a3 a4 a5 a6 : Option V} {r : List (Option V)} (h : Q v H) : tVar 7 (a0 :: a1 :: a2 :: a3 :: a4 :: a5 :: a6 :: some v :: r) H Q := ⟨v, rfl, h⟩
theorem rr_n7 {a0 a1 a2 a3 a4 a5 a6 : Option V} {z : Option V} {r : List (Option V)} {R : L2.St → Hp → Prop} (h : R (a0 :: a1 :: a2 :: a3 :: a4 :: a5 :: a6 :: some v :: r) H) : gName 7 v (a0 :: a1 :: a2 :: a3 :: a4 :: a5 :: a6 :: z :: r) H R := h
theorem rr_v8 {a0 a1 a2 a3 a4 a5 a6 a7 : Option V} {r : List (Option V)} (h : Q v H) : tVar 8 (a0 :: a1 :: a2 :: a3 :: a4 :: a5 :: a6 :: a7 :: some v :: r) H Q := ⟨v, rfl, h⟩
theorem rr_n8 {a0 a1 a2 a3 a4 a5 a6 a7 : Option V} {z : Option V} {r : List (Option V)} {R : L2.St → Hp → Prop} (h : R (a0 :: a1 :: a2 :: a3 :: a4 :: a5 :: a6 :: a7 :: some v :: r) H) : gName 8 v (a0 :: a1 :: a2 :: a3 :: a4 :: a5 :: a6 :: a7 :: z :: r) H R := h
theorem rr_v9 {a0 a1 a2 a3 a4 a5 a6 a7 a8 : Option V} {r : List (Option V)} (h : Q v H) : tVar 9 (a0 :: a1 :: a2 :: a3 :: a4 :: a5 :: a6 :: a7 :: a8 :: some v :: r) H Q := ⟨v, rfl, h⟩
theorem rr_n9 {a0 a1 a2 a3 a4 a5 a6 a7 a8 : Option V} {z : Option V} {r : List (Option V)} {R : L2.St → Hp → Prop} (h : R (a0 :: a1 :: a2 :: a3 :: a4 :: a5 :: a6 :: a7 :: a8 :: some v :: r) H) : gName 9 v (a0 :: a1 :: a2 :: a3 :: a4 :: a5 :: a6 :: a7 :: a8 :: z :: r) H R := h
theorem rr_v10 {a0 a1 a2 a3 a4 a5 a6 a7 a8 a9 : Option V} {r : List (Option V)} (h : Q v H) : tVar 10 (a0 :: a1 :: a2 :: a3 :: a4 :: a5 :: a6 :: a7 :: a8 :: a9 :: some v :: r) H Q := ⟨v, rfl, h⟩
theorem rr_n10 {a0 a1 a2 a3 a4 a5 a6 a7 a8 a9 : Option V} {z : Option V} {r : List (Option V)} {R : L2.St → Hp → Prop} (h : R (a0 :: a1 :: a2 :: a3 :: a4 :: a5 :: a6 :: a7 :: a8 :: a9 :: some v :: r) H) : gName 10 v (a0 :: a1 :: a2 :: a3 :: a4 :: a5 :: a6 :: a7 :: a8 :: a9 :: z :: r) H R := h
theorem rr_v11 {a0 a1 a2 a3 a4 a5 a6 a7 a8 a9 a10 : Option V} {r : List (Option V)} (h : Q v H) : tVar 11 (a0 :: a1 :: a2 :: a3 :: a4 :: a5 :: a6 :: a7 :: a8 :: a9 :: a10 :: some v :: r) H Q := ⟨v, rfl, h⟩
theorem rr_n11 {a0 a1 a2 a3 a4 a5 a6 a7 a8 a9 a10 : Option V} {z : Option V} {r : List (Option V)} {R : L2.St → Hp → Prop} (h : R (a0 :: a1 :: a2 :: a3 :: a4 :: a5 :: a6 :: a7 :: a8 :: a9 :: a10 :: some v :: r) H) : gName 11 v (a0 :: a1 :: a2 :: a3 :: a4 :: a5 :: a6 :: a7 :: a8 :: a9 :: a10 :: z :: r) H R := h
theorem rr_v12 {a0 a1 a2 a3 a4 a5 a6 a7 a8 a9 a10 a11 : Option V} {r : List (Option V)} (h : Q v H) : tVar 12 (a0 :: a1 :: a2 :: a3 :: a4 :: a5 :: a6 :: a7 :: a8 :: a9 :: a10 :: a11 :: some v :: r) H Q := ⟨v, rfl, h⟩
theorem rr_n12 {a0 a1 a2 a3 a4 a5 a6 a7 a8 a9 a10 a11 : Option V} {z : Option V} {r : List (Option V)} {R : L2.St → Hp → Prop} (h : R (a0 :: a1 :: a2 :: a3 :: a4 :: a5 :: a6 :: a7 :: a8 :: a9 :: a10 :: a11 :: some v :: r) H) : gName 12 v (a0 :: a1 :: a2 :: a3 :: a4 :: a5 :: a6 :: a7 :: a8 :: a9 :: a10 :: a11 :: z :: r) H R := h
theorem rr_v13 {a0 a1 a2 a3 a4 a5 a6 a7 a8 a9 a10 a11 a12 : Option V} {r : List (Option V)} (h : Q v H) : tVar 13 (a0 :: a1 :: a2 :: a3 :: a4 :: a5 :: a6 :: a7 :: a8 :: a9 :: a10 :: a11 :: a12 :: some v :: r) H Q := ⟨v, rfl, h⟩
theorem rr_n13 {a0 a1 a2 a3 a4 a5 a6 a7 a8 a9 a10 a11 a12 : Option V} {z : Option V} {r : List (Option V)} {R : L2.St → Hp → Prop} (h : R (a0 :: a1 :: a2 :: a3 :: a4 :: a5 :: a6 :: a7 :: a8 :: a9 :: a10 :: a11 :: a12 :: some v :: r) H) : gName 13 v (a0 :: a1 :: a2 :: a3 :: a4 :: a5 :: a6 :: a7 :: a8 :: a9 :: a10 :: a11 :: a12 :: z :: r) H R := h
theorem rr_int {a : Int} (h : Q (.int a) H) : rInt [.int a] H Q := .inl ⟨a, rfl, h⟩
theorem rr_len {p : Addr} {xs : List V} (h1 : SqL K H p xs) (h : Q (.int xs.length) H) : rLenK K [.ref p] H Q := ⟨p, xs, rfl, .inl h1, h⟩
theorem rr_lenT {p : Addr} {xs : List V} (h1 : SqT K H p xs) (h : Q (.int xs.length) H) : rLenK K [.ref p] H Q := ⟨p, xs, rfl, .inr h1, h⟩
theorem rr_listL {p : Addr} {xs : List V} (h1 : SqL K H p xs) (h : ∀ l, H l = none → Q (.ref l) (upd H l (.lst xs))) : rListK K [.ref p] H Q := ⟨p, xs, rfl, .inl h1, h⟩
theorem rr_listT {p : Addr} {xs : List V} (h1 : SqT K H p xs) (h : ∀ l, H l = none → Q (.ref l) (upd H l (.lst xs))) : rListK K [.ref p] H Q := ⟨p, xs, rfl, .inr h1, h⟩
theorem rr_lt0 {A B : Prop} {p : Prop} [Decidable p] (h1 : p → A) (h2 : ¬ p → B) : if decide p = true then A else B := by
  by_cases h : p
  · rw [if_pos (decide_eq_true h)]; exact h1 h
  · rw [if_neg (by rw [decide_eq_false h]; decide)]; exact h2 h
theorem rr_nlt0 {A B : Prop} {p : Prop} [Decidable p] (h1 : ¬ p → A) (h2 : p → B) : if (!decide p) = true then A else B := by
  by_cases h : p
  · rw [if_neg (by rw [decide_eq_true h]; decide)]; exact h2 h
  · rw [if_pos (by rw [decide_eq_false h]; decide)]; exact h1 h
theorem rr_ixL {p : Addr} {xs : List V} {i : Int} (h1 : SqL K H p xs) (h2 : atI xs i = some v) (h : Q v H) : rIxL K (.ref p) (.int i) H Q := ⟨p, xs, i, v, rfl, rfl, h1, h2, h⟩
theorem rr_ixT {p : Addr} {xs : List V} {i : Int} (h1 : SqT K H p xs) (h2 : atI xs i = some v) (h : Q v H) : rIxT K (.ref p) (.int i) H Q := ⟨p, xs, i, v, rfl, rfl, h1, h2, h⟩
theorem rr_sL {p : Addr} {xs : List V} {i : Int} (h1 : SqL K H p xs) (h2 : atI xs i = some v) (h : Q v H) : rIx K (.ref p) (.int i) H Q := .inl ⟨p, xs, i, v, rfl, rfl, h1, h2, h⟩
theorem rr_sT {p : Addr} {xs : List V} {i : Int} (h1 : SqT K H p xs) (h2 : atI xs i = some v) (h : Q v H) : rIx K (.ref p) (.int i) H Q := .inr (.inl ⟨p, xs, i, v, rfl, rfl, h1, h2, h⟩)
/-- a source of draws is asked, and written -/
theorem rr_gcells {p l : Addr} {a d c f : Int} {R : V → Prop} (h1 : H p = some (.dK (penL l a d c f))) (h : R (.ref l)) : ∃ b v, V.ref p = .ref b ∧ DGet H b (.str "cells") (some v) ∧ R v := ⟨p, _, rfl, getP _ h1 get_cells, h⟩
theorem rr_gat {p l : Addr} {a d c f : Int} {R : V → Prop} (h1 : H p = some (.dK (penL l a d c f))) (h : R (.int a)) : ∃ b v, V.ref p = .ref b ∧ DGet H b (.str "at") (some v) ∧ R v := ⟨p, _, rfl, getP _ h1 get_at, h⟩
theorem rr_gdigits {p l : Addr} {a d c f : Int} {R : V → Prop} (h1 : H p = some (.dK (penL l a d c f))) (h : R (.int d)) : ∃ b v, V.ref p = .ref b ∧ DGet H b (.str "digits") (some v) ∧ R v := ⟨p, _, rfl, getP _ h1 get_digits, h⟩
theorem rr_gcount {p l : Addr} {a d c f : Int} {R : V → Prop} (h1 : H p = some (.dK (penL l a d c f))) (h : R (.int c)) : ∃ b v, V.ref p = .ref b ∧ DGet H b (.str "count") (some v) ∧ R v := ⟨p, _, rfl, getP _ h1 get_count, h⟩
theorem rr_gfold {p l : Addr} {a d c f : Int} {R : V → Prop} (h1 : H p = some (.dK (penL l a d c f))) (h : R (.int f)) : ∃ b v, V.ref p = .ref b ∧ DGet H b (.str "fold") (some v) ∧ R v := ⟨p, _, rfl, getP _ h1 get_fold, h⟩
theorem rr_pat {p l : Addr} {a d c f x : Int} {R : Hp → Prop} (h1 : H p = some (.dK (penL l a d c f))) (h : R (upd H p (.dK (penL l x d c f)))) : ∃ b H4, V.ref p = .ref b ∧ DPut H b (.str "at") (.int x) H4 ∧ R H4 := ⟨p, _, rfl, putP _ h1 put_at pen_small, h⟩
theorem rr_pdigits {p l : Addr} {a d c f x : Int} {R : Hp → Prop} (h1 : H p = some (.dK (penL l a d c f))) (h : R (upd H p (.dK (penL l a x c f)))) : ∃ b H4, V.ref p = .ref b ∧ DPut H b (.str "digits") (.int x) H4 ∧ R H4 := ⟨p, _, rfl, putP _ h1 put_digits pen_small, h⟩
theorem rr_pcount {p l : Addr} {a d c f x : Int} {R : Hp → Prop} (h1 : H p = some (.dK (penL l a d c f))) (h : R (upd H p (.dK (penL l a d x f)))) : ∃ b H4, V.ref p = .ref b ∧ DPut H b (.str "count") (.int x) H4 ∧ R H4 := ⟨p, _, rfl, putP _ h1 put_count pen_small, h⟩
theorem rr_pfold {p l : Addr} {a d c f x : Int} {R : Hp → Prop} (h1 : H p = some (.dK (penL l a d c f))) (h : R (upd H p (.dK (penL l a d c x)))) : ∃ b H4, V.ref p = .ref b ∧ DPut H b (.str "fold") (.int x) H4 ∧ R H4 := ⟨p, _, rfl, putP _ h1 put_fold pen_small, h⟩
end
theorem sqL {K : PySem.W.Frag} {H : Hp} {p : Addr} {xs : List V} (h : H p = some (.lst xs)) : SqL K H p xs := .inl (.inl h)
theorem sqT {K : PySem.W.Frag} {H : Hp} {p : Addr} {xs : List V} (h : H p = some (.tup xs)) : SqT K H p xs := .inl (.inl h)
theorem sameNew {H : Hp} {p : Addr} (h : H p = none) (o : HO) : Same H (upd H p o) := fun b u q => by rw [upd_ne (ne_of_none q h)]; exact q
theorem modN {a b : Int} (hb : 0 < b) : 0 ≤ a.fmod b ∧ a.fmod b < b := by
  rw [Int.fmod_eq_emod_of_nonneg a (Int.le_of_lt hb)]
  exact ⟨Int.emod_nonneg a (by omega), Int.emod_lt_of_pos a hb⟩
theorem divN {a b : Int} (ha : 0 ≤ a) (hb : 0 < b) : 0 ≤ a.fdiv b := by
  rw [Int.fdiv_eq_ediv_of_nonneg a (Int.le_of_lt hb)]
  exact Int.ediv_nonneg ha (Int.le_of_lt hb)
end Lx
namespace Lx
open PySem PySem.Spec PyProof.Rows L2
/-! ### the signs of what repr gives -/
def Sm (x : Str) : Prop := ∀ c ∈ x.cps.toList, c < 16 ^ 8
theorem Sm.app {x y : Str} (a : Sm x) (b : Sm y) : Sm (x ++ y) := fun c hc => by
  have e : (x ++ y).cps = x.cps ++ y.cps := rfl
  rw [e, Array.toList_append, List.mem_append] at hc
  exact hc.elim (a c) (b c)
theorem sm_of (s : String) : Sm (Str.ofString s) := fun c hc => by
  rw [Str.ofString_eq_toList] at hc
  simp only [List.mem_map] at hc
  obtain ⟨d, _, rfl⟩ := hc
  have := d.valid
  have h2 : d.toNat < 1114112 := by
    have h3 : d.val.toNat < 0xd800 ∨ (0xdfff < d.val.toNat ∧ d.val.toNat < 0x110000) := d.valid
    show d.val.toNat < 1114112
    omega
  exact Nat.lt_trans h2 (by decide)
theorem sm_char {q c : Nat} (hq : q < 16 ^ 8) (hc : c < 16 ^ 8) : ∀ d ∈ Builtin.Str.reprChar q c, d < 16 ^ 8 := by
  have hex : ∀ w : Nat, ∀ d ∈ (List.replicate (w - ((Nat.toDigits 16 c).map Char.toNat).length) 48 ++ (Nat.toDigits 16 c).map Char.toNat), d < 16 ^ 8 := fun w d hd => by
    rcases List.mem_append.mp hd with h | h
    · rw [(List.mem_replicate.mp h).2]; decide
    · obtain ⟨e, _, rfl⟩ := List.mem_map.mp h
      have h3 : e.val.toNat < 0xd800 ∨ (0xdfff < e.val.toNat ∧ e.val.toNat < 0x110000) := e.valid
      have h2 : e.toNat < 1114112 := by show e.val.toNat < 1114112; omega
      exact Nat.lt_trans h2 (by decide)
  intro d hd
  unfold Builtin.Str.reprChar at hd
  dsimp only at hd
  have two : ∀ (a b : Nat) (l : List Nat), a < 16 ^ 8 → b < 16 ^ 8 → (∀ z ∈ l, z < 16 ^ 8) → ∀ z ∈ [a, b] ++ l, z < 16 ^ 8 := fun a b l ha hb hl z hz => by
    simp only [List.cons_append, List.nil_append, List.mem_cons] at hz
    rcases hz with rfl | rfl | h
    · exact ha
    · exact hb
    · exact hl _ h
  repeat' split at hd
  · exact two 92 c [] (by decide) hc (by simp) d (by simpa using hd)
  · exact two 92 110 [] (by decide) (by decide) (by simp) d (by simpa using hd)
  · exact two 92 114 [] (by decide) (by decide) (by simp) d (by simpa using hd)
  · exact two 92 116 [] (by decide) (by decide) (by simp) d (by simpa using hd)
  · rw [List.mem_singleton.mp hd]; exact hc
  · exact two _ _ _ (by decide) (by decide) (hex 2) d hd
  · exact two _ _ _ (by decide) (by decide) (hex 4) d hd
  · exact two _ _ _ (by decide) (by decide) (hex 8) d hd
theorem sm_fold {q : Nat} (hq : q < 16 ^ 8) : ∀ (l : List Nat) (acc : Array Nat), (∀ c ∈ l, c < 16 ^ 8) → (∀ c ∈ acc.toList, c < 16 ^ 8) → ∀ d ∈ (l.foldl (fun out c => out ++ (Builtin.Str.reprChar q c).toArray) acc).toList, d < 16 ^ 8
  | [], acc, _, h => h
  | c :: r, acc, hl, h => sm_fold hq r _ (fun d hd => hl d (List.mem_cons_of_mem _ hd)) fun d hd => by
    rw [Array.toList_append, List.mem_append] at hd
    rcases hd with z | z
    · exact h d z
    · exact sm_char hq (hl c List.mem_cons_self) d (by simpa using z)
theorem sm_quote (x : Str) : reprQuote x < 16 ^ 8 := by
  unfold reprQuote
  split <;> decide
theorem sm_repr {x : Str} (h : Sm x) : Sm (reprText x) := fun c hc => by
  unfold reprText at hc
  rw [Array.toList_push, List.mem_append] at hc
  rcases hc with z | z
  · rw [← Array.foldl_toList] at z
    exact sm_fold (sm_quote x) x.cps.toList _ h (fun d hd => by
      have e : d = reprQuote x := by simpa using hd
      rw [e]; exact sm_quote x) c z
  · rw [List.mem_singleton.mp z]; exact sm_quote x
theorem sm_from : ∀ (ts : List Str) (k : Nat) (acc : Str), Sm acc → (∀ t ∈ ts, Sm t) → Sm (textFrom k acc ts)
  | [], _, acc, h, _ => h
  | t :: r, k, acc, h, ht => sm_from r (k + 1) _ ((h.app (sm_of _)).app (ht t List.mem_cons_self)) fun u hu => ht u (List.mem_cons_of_mem _ hu)
theorem sm_list {ts : List Str} (h : ∀ t ∈ ts, Sm t) : Sm (listText ts) := (sm_from ts 0 _ (sm_of "[") h).app (sm_of "]")
theorem sm_join : ∀ ts : List Str, (∀ t ∈ ts, Sm t) → Sm (Str.join ", " ts)
  | [], _ => fun c hc => by
    have : c ∈ ([] : List Nat) := hc
    cases this
  | [x], h => h x List.mem_cons_self
  | x :: y :: r, h => ((h x List.mem_cons_self).app (sm_of ", ")).app (sm_join (y :: r) fun u hu => h u (List.mem_cons_of_mem _ hu))
theorem sm_tuple {ts : List Str} (h : ∀ t ∈ ts, Sm t) : Sm (tupleText ts) := ((sm_of "(").app (sm_join ts h)).app (sm_of _)
theorem sm_dict {ts : List Str} (h : ∀ t ∈ ts, Sm t) : Sm (dictText ts) := ((sm_of "{").app (sm_join ts h)).app (sm_of "}")
mutual
theorem sm_shown (B : Nat) : ∀ d : PyData, d.leavesShort B = true → Sm d.shown
  | .none, _ => sm_of "None"
  | .bool b, _ => by cases b; exact sm_of "False"; exact sm_of "True"
  | .int i, _ => sm_of (toString i)
  | .str x, h => sm_repr (by
    simp only [PyData.leavesShort, List.all_eq_true, decide_eq_true_eq] at h
    exact h)
  | .list xs, h => sm_list (sm_shownAll B xs (by simpa only [PyData.leavesShort] using h))
  | .tuple xs, h => sm_tuple (sm_shownAll B xs (by simpa only [PyData.leavesShort] using h))
  | .dict kvs, h => sm_dict (sm_shownKv B kvs (by simpa only [PyData.leavesShort] using h))
theorem sm_shownAll (B : Nat) : ∀ xs : List PyData, PyData.leavesShortAll B xs = true → ∀ t ∈ PyData.shownAll xs, Sm t
  | [], _, t, ht => by simp [PyData.shownAll] at ht
  | x :: xs, h, t, ht => by
    have h' : x.leavesShort B = true ∧ PyData.leavesShortAll B xs = true := by simpa only [PyData.leavesShortAll, Bool.and_eq_true] using h
    simp only [PyData.shownAll, List.mem_cons] at ht
    rcases ht with rfl | z
    · exact sm_shown B x h'.1
    · exact sm_shownAll B xs h'.2 t z
theorem sm_shownKv (B : Nat) : ∀ xs : List (PyData × PyData), PyData.leavesShortKv B xs = true → ∀ t ∈ PyData.shownKv xs, Sm t
  | [], _, t, ht => by simp [PyData.shownKv] at ht
  | (k, v) :: xs, h, t, ht => by
    have h' : (k.leavesShort B = true ∧ v.leavesShort B = true) ∧ PyData.leavesShortKv B xs = true := by simpa only [PyData.leavesShortKv, Bool.and_eq_true] using h
    simp only [PyData.shownKv, List.mem_cons] at ht
    rcases ht with rfl | z
    · exact ((sm_shown B k h'.1.1).app (sm_of ": ")).app (sm_shown B v h'.1.2)
    · exact sm_shownKv B xs h'.2 t z
end
/-- data of small leaves: its text is known to fit -/
structure Fit (n W : Nat) (d : PyData) : Prop where
  sh : d.showable = true
  dp : d.depth ≤ n
  lv : d.leavesShort 60 = true
  wt : d.weight ≤ W
theorem Fit.len {n W : Nat} {d : PyData} (h : Fit n W d) : d.shown.length ≤ 62 * W + 60 := by
  have a := PyData.shown_le 60 (by decide) d h.lv
  have b := Nat.mul_le_mul_left 62 h.wt
  omega
theorem Fit.str {n W : Nat} {d : PyData} (h : Fit n W d) : Fit 0 (62 * W + 60) (.str d.shown) :=
  ⟨rfl, Nat.le_refl _, by
    simp only [PyData.leavesShort, List.all_eq_true, decide_eq_true_eq]
    exact sm_shown 60 d h.lv, h.len⟩
theorem Fit.mono {n m W Y : Nat} {d : PyData} (h : Fit n W d) (a : n ≤ m) (b : W ≤ Y) : Fit m Y d := ⟨h.sh, Nat.le_trans h.dp a, h.lv, Nat.le_trans h.wt b⟩
/-- repr(x), x such data -/
theorem rr_repr {H : Hp} {v : V} {d : PyData} {n W : Nat} {Q : VK} (r : Rp H v d) (f : Fit n W d) (h : Q (.str d.shown) H) (hn : n ≤ 64 := by decide) (hW : W ≤ 200000 := by decide) : rRepr [v] H Q :=
  ⟨v, d, rfl, r, f.sh, Nat.le_trans f.dp hn, by have := f.len; rw [sizeLine_eq]; omega, h⟩
end Lx
namespace Lx
open PySem PySem.Spec PyProof.Rows L2
/-! ### what does not lean on the source of draws -/
def hid (H : Hp) (p : Addr) : Hp := fun b => if b = p then none else H b
theorem hid_ne {H : Hp} {p b : Addr} (h : b ≠ p) : hid H p b = H b := if_neg h
theorem hid_same {H : Hp} {p : Addr} : Same (hid H p) H := fun b o h => by
  unfold hid at h
  split at h
  · cases h
  · exact h
theorem SameBut.hid {p : Addr} {H H' : Hp} (h : SameBut p H H') : Same (hid H p) (hid H' p) := fun b o e => by
  by_cases z : b = p
  · unfold Lx.hid at e; rw [if_pos z] at e; cases e
  · rw [hid_ne z] at e ⊢; exact h b o z e
theorem PenOk.some {H : Hp} {p : Addr} (h : PenOk H p) : H p ≠ none := by
  obtain ⟨l, ns, a, d, c, f, e, _⟩ := h
  rw [e]; simp
theorem PenOk.same {H H' : Hp} {p : Addr} (h : PenOk H p) (k : Same H H') : PenOk H' p := by
  obtain ⟨l, ns, a, d, c, f, e1, e2, r⟩ := h
  exact ⟨l, ns, a, d, c, f, k _ _ e1, k _ _ e2, r⟩
/-- _law_pick, some a tuple -/
def spAny : Sp := fun vs H Q _ => ∃ p : Addr, vs = [.ref p] ∧ PenOk H p ∧
  ∀ (v : V) (d : PyData) (H' : Hp), Rp (hid H' p) v d → Fit 2 150 d → PenOk H' p → SameBut p H H' → Q v H'
section
variable {σ : L2.St} {H : Hp} {Q : VK}
theorem rr_disp {trs : List (TE × TE)} (h : ∀ p, H p = none → tPairs trs σ (upd H p (.dK [])) fun ps H2 => H2 p = some (.dK []) ∧ ∃ kvs : List (Key × V), ps = kvs.map (fun kv => (kV kv.1, kv.2)) ∧ kvs.length ≤ 15 ∧ Q (.ref p) (upd H2 p (.dK (mergeK [] kvs)))) : tDisp trs σ H Q := h
theorem rr_pcons {tk tv : TE} {r : List (TE × TE)} {R : List (V × V) → Hp → Prop} (h : tk σ H fun x H1 => tv σ H1 fun y H2 => tPairs r σ H2 fun ps H3 => R ((x, y) :: ps) H3) : tPairs ((tk, tv) :: r) σ H R := h
theorem rr_pnil {R : List (V × V) → Hp → Prop} (h : R [] H) : tPairs [] σ H R := h
end
theorem fit_ints {r : Int} (h0 : 0 ≤ r) (h : r < 1000000) : (PyData.int r).showable = true ∧ (PyData.int r).leavesShort 60 = true ∧ (PyData.int r).weight ≤ 20 := by
  have hn : r.natAbs < 2 ^ 20 := by
    have : (2 : Nat) ^ 20 = 1048576 := by decide
    omega
  have hl : r.natAbs.log2 < 20 := by
    by_cases z : r.natAbs = 0
    · rw [z]; decide
    · exact (Nat.log2_lt z).mpr hn
  refine ⟨?_, ?_, ?_⟩
  · simp only [PyData.showable, decide_eq_true_eq]; omega
  · have e1 := int_text_length_le (k := 20) (by decide) hl
    have e2 : (Str.ofString (toString r)).length ≤ 60 := by rw [PySem.ofString_length]; omega
    exact decide_eq_true (show (PyData.shown (.int r)).length ≤ 60 from e2)
  · simp only [PyData.weight]
    split <;> omega
end Lx
namespace Lx
open PySem PySem.Spec PyProof.Rows L2
/-! ### own exceptions whose __init__ keeps its arguments -/
/-- __init__(self, ..) of the class at C: each argument under its own name -/
def spI (C : Addr) (fns : List Str) : Sp := fun vs H Q _ => ∃ (a : Addr) (ws : List V), vs = .ref a :: ws ∧ ws.length = fns.length ∧ H a = some (exo a C none) ∧
  ∀ (d : Addr) (H2 : Hp), H d = none → d ≠ a → H2 a = some (exo a C (some d)) → H2 d = some (exd d (fns.zip ws).reverse) → (∀ b, b ≠ a → b ≠ d → H2 b = H b) → Q .non H2
section
variable {D : Ends} {σ : L2.St} {H : Hp} {K : PySem.W.Frag} {C a : Addr} {f : Str} {y : V} {i : Nat}
theorem rr_ostA (T : OexC K C) (n : PySem.W.findIn K (.ref C) f = some none) (e1 : σ[0]? = some (some (.ref a))) (e2 : σ[i]? = some (some y)) (e : H a = some (exo a C none))
    (h : ∀ dx, H dx = none → dx ≠ a → D.nx σ (upd (upd H dx (exd dx [(f, y)])) a (exo a C (some dx)))) : tOst K f (tVar 0) (tVar i) D σ H := ⟨y, e2, .ref a, e1, a, C, rfl, T, n, .inl ⟨e, h⟩⟩
theorem rr_ostB {dx : Addr} {fs : List (Str × V)} (T : OexC K C) (n : PySem.W.findIn K (.ref C) f = some none) (e1 : σ[0]? = some (some (.ref a))) (e2 : σ[i]? = some (some y)) (ea : H a = some (exo a C (some dx)))
    (ed : H dx = some (exd dx fs)) (hl : fs.length ≤ 900) (h : D.nx σ (upd H dx (exd dx ((f, y) :: fs)))) : tOst K f (tVar 0) (tVar i) D σ H := ⟨y, e2, .ref a, e1, a, C, rfl, T, n, .inr ⟨dx, fs, ea, ed, hl, h⟩⟩
end
/-- what the written part says of the class x at C with the fields fns -/
structure XcI (K : PySem.W.Frag) (mg : Str → Option Value) (x : Str) (C : Addr) (fns : List Str) : Prop where
  T : OexC K C
  gC : mg x = some (.ref C)
  ini : ∃ fI fd, PySem.W.findIn K (.ref C) "__init__" = some (some (.ref fI)) ∧ PySem.W.typeIn K (.ref fI) = some (.type "function") ∧
    (∀ (P : Program) (w : World) (base : Heap), FnOk P w K mg base CX0 1 fI fd ("self" :: fns) (spI C fns)) ∧ Binds K fd ("self" :: fns) []
/-- the exception is made: what is left to be said -/
def leafI (C : Addr) (fns : List Str) (vs : List V) (H1 : Hp) (Q : XK) : Prop := vs.length ≤ 1000 ∧ ∀ a, H1 a = none → spI C fns (.ref a :: (vs ++ [])) (upd H1 a (exo a C none))
  (fun v H2 => v = .non ∧ ∃ (d : Addr) (fs : List (Str × V)), H2 a = some (exo a C (some d)) ∧ H2 d = some (exd d fs) ∧ H1 d = none ∧ Q (.ref C) (some d) (upd (del H2 a) d (.xd fs))) (fun _ _ _ => False)
theorem leafI_of {C : Addr} {fns : List Str} {vs : List V} {H1 : Hp} {Q : XK} (hl : vs.length = fns.length) (h3 : fns.length ≤ 3) (h : ∀ d, H1 d = none → Q (.ref C) (some d) (upd H1 d (.xd (fns.zip vs).reverse))) : leafI C fns vs H1 Q := by
  refine ⟨by omega, fun a ha => ⟨a, vs, by rw [List.append_nil], hl, upd_same, fun d H2 hd hne e1 e2 e3 => ⟨rfl, d, _, e1, e2, ?_, ?_⟩⟩⟩
  · rw [upd_ne hne] at hd
    exact hd
  · rw [upd_ne hne] at hd
    have e : upd (del H2 a) d (.xd (fns.zip vs).reverse) = upd H1 d (.xd (fns.zip vs).reverse) := by
      funext b
      by_cases q : b = d
      · rw [q, upd_same, upd_same]
      · rw [upd_ne q, upd_ne q]
        by_cases r : b = a
        · rw [r, del_same, ha]
        · rw [del_ne r, e3 b r q, upd_ne r]
    rw [e]
    exact h d hd
def tRf (C : Addr) (fns : List Str) (W : WX) (ta : TA) : TS := fun _ σ H => ta σ H fun vs H1 => leafI C fns vs H1 fun cls d H' => W cls d σ H'
theorem rr_rf {C : Addr} {fns : List Str} {W : WX} {ta : TA} {D : Ends} {σ : L2.St} {H : Hp} (h : ta σ H fun vs H1 => leafI C fns vs H1 fun cls d H' => W cls d σ H') : tRf C fns W ta D σ H := h
section
variable {X : Cx} {x : Str} {C : Addr} {fns : List Str} {W : WX} {e : Expr} {es : List Expr} {ta : TA} {p pos pos2 : Pos} {k : Nat}
theorem ps_rf (B : XcI X.K X.mg x C fns) (hr : Room k X.A) (tk : Takes X W) (ha : PA X (e :: es) ta) (hk : 2 ≤ k := by decide) (hc : X.calm = true := by rfl) (hg : Gl X x := by rfl) (hdb : (x == ("__debug__" : Str)) = false := by decide)
    (he : starEach (e :: es) X.env = (false, eval e X.env) :: starEach es X.env := by rfl) (hpl : (backTo pos (starEach es X.env)).any (·.1) = false := by rfl) :
    PS X (.Raise (some (.Call (.Name x p) (e :: es) [] pos)) none pos2) (tRf C fns W ta) := by
  obtain ⟨fI, fd, i1, i2, F, hb⟩ := B.ini
  exact ps_raise hc tk (pmk_oex (dvs := []) B.T i1 i2 (F X.prog X.w X.base) (hr.mono hk) hb .nil pass0 hg B.gC ha hdb he hpl)
/-- X(), X without an __init__ of its own -/
theorem ps_rf0 {bmB : List Value} {Bs newId initId : String} (F : ExcBaseFacts Bs newId initId bmB) (q : PySem.W.excIn X.K C bmB newId = true) (gC : X.mg x = some (.ref C)) (kC : PySem.W.keepIn X.K (.ref C) = true) (r : Raises X (.ref C)) (tk : Takes X W)
    (hc : X.calm = true := by rfl) (hg : Gl X x := by rfl) (hdb : (x == ("__debug__" : Str)) = false := by decide) : PS X (.Raise (some (.Call (.Name x p) [] [] pos)) none pos2) (fun _ σ H => W (.ref C) none σ H) := by
  refine ps_raise (t := fun _ H Q => Q (.ref C) none H) hc tk (fun pins s σ H Q I h => wpAny_Call_Name_kw (ld_glob I hg gC (PySem.W.callWith_K0 I.kIn kC ?_) hdb))
  show wpAny _ _ (call (.ref C) []) _ _ _
  obtain ⟨bm, N, nm, qn, bs, hdct, sn, sub, ab, col, dd, k0, k1, k2, k3, k5, mN, hC, hN, hni, T⟩ := exc_obj I.kIn q
  exact wpAny_call_exc_subT F T hC hN hni (fun h' e hm => mk_of I hm r h (I.hok.gone hm.new)) (by show 0 ≤ sizeLine; exact Nat.zero_le _)
end
/-- isinstance of the exception at p -/
theorem rr_isP {K : PySem.W.Frag} {p : Addr × Obj} {H : Hp} {Q : VK} {C : Addr} {fs : List (Str × V)} {c : V} {cv : Value} {b : Bool} (he : ExcAt H p C fs) (T : XcF K C) (kt : PySem.W.kitOne K (.ref C) cv = some b) (hcv : ∀ u, RelV c u → u = cv) (h : Q (.bl b) H) :
    rIsP K p [.ref p.1, c] H Q := ⟨c, cv, b, C, fs, rfl, hcv, he, T, kt, h⟩
theorem rr_fldP {K : PySem.W.Frag} {p : Addr × Obj} {H : Hp} {Q : VK} {n : Str} {te : TE} {σ : L2.St} (h : te σ H fun x H1 => x = .ref p.1 ∧ ∃ (C : Addr) (fs : List (Str × V)) (v : V), ExcAt H1 p C fs ∧ XcF K C ∧ PySem.W.findIn K (.ref C) n = some none ∧ fs.lookup n = some v ∧ Q v H1) :
    tFldP K p n te σ H Q := h
theorem rr_fldL {K : PySem.W.Frag} {p : Addr × Obj} {H : Hp} {R : V → Prop} {C : Addr} {fs : List (Str × V)} {n : Str} {v : V} (he : ExcAt H p C fs) (T : XcF K C) (hn : PySem.W.findIn K (.ref C) n = some none) (hl : fs.lookup n = some v) (h : R v) :
    V.ref p.1 = .ref p.1 ∧ ∃ (C : Addr) (fs : List (Str × V)) (v : V), ExcAt H p C fs ∧ XcF K C ∧ PySem.W.findIn K (.ref C) n = some none ∧ fs.lookup n = some v ∧ R v := ⟨rfl, C, fs, v, he, T, hn, hl, h⟩
/-- the same within the suite -/
def rIsA (K : PySem.W.Frag) (a : Addr) (cls : Value) (d : Option Addr) : List V → Hp → VK → Prop := fun xs H Q => ∀ oe : Obj, Zc cls d oe → (∃ fv, oe.data = .fields fv) → rIsP K (a, oe) xs H Q
theorem call_isA {X : Cx} {a : Addr} {oe : Obj} {cls : Value} {d : Option Addr} (hp : (a, oe) ∈ X.pn) (hz : Zc cls d oe) (hf : ∃ fv, oe.data = .fields fv) : CallR X (.builtin "isinstance") (rIsA X.K a cls d) :=
  fun pins s σ H xs us Q I r h => call_isP hp pins s σ H xs us Q I r (h oe hz hf)
theorem rr_callR {R : List V → Hp → VK → Prop} {ts : TA} {σ : L2.St} {H : Hp} {Q : VK} (h : ts σ H fun vs H1 => R vs H1 Q) : tCallR R ts σ H Q := h
/-- found.append(e) -/
theorem rr_app {H : Hp} {l : Addr} {xs : List V} {y : V} {Q : VK} (e : H l = some (.lst xs)) (hz : xs.length < sizeLine) (h : Q .non (upd H l (.lst (xs ++ [y])))) : rAppend (.ref l) [y] H Q := ⟨l, xs, y, rfl, rfl, e, hz, h⟩
theorem rr_cat {H : Hp} {l b : Addr} {xs zs : List V} {Q : VK} (e1 : H l = some (.lst xs)) (e2 : H b = some (.lst zs)) (hz : xs.length + zs.length ≤ sizeLine) (h : ∀ p, H p = none → Q (.ref p) (upd H p (.lst (xs ++ zs)))) : rCat (.ref l) (.ref b) H Q := ⟨l, b, xs, zs, rfl, rfl, e1, e2, hz, h⟩
theorem tyL {K : PySem.W.Frag} {H : Hp} {l : Addr} {xs : List V} (h : H l = some (.lst xs)) : tyV K "list" (.ref l) H := .inl ⟨rfl, _, .inl (.inl h)⟩
end Lx
namespace Lx
open PySem PySem.Spec PyProof.Rows L2
/-! ### the end of a law whose defs make lambdas: their tables are tracked -/
/-- empty -/
abbrev tab0 : Obj := { cls := .none, data := .fields #[] }
/-- what may be tracked when the law is called: the script at a, the tables ts -/
def Few (a : Addr) (ob : Obj) (ns : List Int) (ts : List Addr) (H : Hp) : Prop := ∀ b, H b = none ∨ (b ∈ ts ∧ H b = some (.tbl #[])) ∨ (b = a ∧ H b = some (.frz ob (.lst (ns.map V.int))))
section
variable {P : Program} {w : World} {K : PySem.W.Frag} {mg mb : Str → Option Value} {a : Addr} {ob : Obj} {ns : List Int} {ts : List Addr} {cs : List (Addr × Addr)} {H : Hp} {s s' : Shared}
/-- no table, no list: out of H's sight -/
theorem Few.unseen (hH : Few a ob ns ts H) (ea : s.heap.get? a = some ob) (et : ∀ b ∈ ts, s.heap.get? b = some tab0) {b : Addr} {o : Obj} (e : s.heap.get? b = some o) (n1 : o ≠ ob) (n2 : o ≠ tab0) : H b = none := by
  rcases hH b with z | ⟨z, _⟩ | ⟨z, _⟩
  · exact z
  · rw [et b z] at e
    exact absurd (Option.some.inj e).symm n2
  · rw [z, ea] at e
    exact absurd (Option.some.inj e).symm n1
theorem few_out (hH : Few a ob ns ts H) (ea : s.heap.get? a = some ob) (et : ∀ b ∈ ts, s.heap.get? b = some tab0) (ic : ∀ b ∈ ts, isCodeTable s.heap b) {u : Value} (h : CE [] P w H s (fun v _ => v = .bl true) u s') :
    u = .bool true ∧ OldK s.heap s'.heap ∧ s'.os = s.os ∧ AllBare s'.gens := by
  obtain ⟨v, H', os, bare, un, hok', r, q⟩ := h
  have q' : v = .bl true := q
  subst q'
  have nf : ∀ {b : Addr}, b ∉ frs [] := fun z => absurd (show _ ∈ ([] : List Addr) from z) (by simp)
  have ne : ∀ {b : Addr}, b ∉ ([] : List Addr) := by simp
  refine ⟨r, ⟨fun b o e => ?_, fun b o e => un.there b o e ne⟩, os, bare⟩
  rcases hH b with z | ⟨z, z2⟩ | ⟨z, z2⟩
  · exact .inl (un.keep b o e z nf ne)
  · obtain ⟨more, g⟩ := un.tbls b _ z2
    have g' : s'.heap.get? b = some { cls := .none, data := .fields (#[] ++ more) } := hok' b _ g
    rw [et b z] at e
    cases e
    exact .inr (.inl ⟨ic b z, rfl, #[], more, rfl, g'⟩)
  · subst z
    have y2 : s'.heap.get? b = some ob := (show ObjOk P w H' s'.heap b (.frz ob (.lst (ns.map V.int))) from hok' b _ (un.frzs b ob _ z2)).1
    rw [ea] at e
    cases e
    exact .inl y2

theorem law_callT {k : Nat} {fa : Addr} {fd : FuncData} {x : Str} {sp : Sp} {s₁ : Shared} {vs : List Value}
    (KX : K.In s₁.heap) (hns : s₁.heap.Ns mainGlobals mg) (hb : s₁.heap.Ns builtinsNs mb) (hbb : ∀ x : Str, x ≠ "__name__" → mb x = bootBuiltins x) (hlim : s₁.heap.NoLimit) (hg : s₁.gens = #[])
    (hT : ∀ q ∈ cs, s₁.heap.get? q.2 = some tab0) (nT : ∀ q ∈ cs, K.lookup q.2 = none) (cT : ∀ q ∈ cs, PySem.W.CodeHd s₁.heap q.1 q.2)
    (hbm : ∃ (bm : Addr) (ob : Obj), mg "__builtins__" = some (.ref bm) ∧ bm ≠ builtinsNs ∧ s₁.heap.get? bm = some ob ∧ ob.cls = .type "module" ∧ ob.dict = some builtinsNs ∧ ob.data = .plain)
    (ha : s₁.heap.get? a = some { cls := .type "list", data := .seq vs.toArray }) (hi : IntsAre vs ns) (hl : ns.length ≤ sizeLine) (hr : Room k callerA)
    (F : ∀ base : Heap, K.In base → base.Ns mainGlobals mg → (∀ q ∈ cs, LamX.TabB base mg q.1 q.2) → FnG P w K mg base (L2.CX P w) k fa fd [x] sp) (hbind : ∀ (s : Shared) (u : Value), BindsTo s fd ⟨[u], []⟩ [(x, u)])
    (hsp : ∀ H : Hp, (∀ q ∈ cs, H q.2 = some (.tbl #[])) → SqL K H a (ns.map V.int) → sp [.ref a] H (fun v _ => v = .bl true) E0) :
    codeAny (model P w) callerA (.call (.ref fa) ⟨[.ref a], []⟩) (fun r s' => r = .ok (.ret (.bool true)) ∧ OldK s₁.heap s'.heap ∧ s'.os = s₁.os ∧ AllBare s'.gens) s₁ := by
  have rv := vals_ints hi
  have lv := hi.length
  obtain ⟨ob, hob⟩ : ∃ ob : Obj, ob = { cls := .type "list", data := .seq vs.toArray } := ⟨_, rfl⟩
  have ea : s₁.heap.get? a = some ob := by rw [hob]; exact ha
  have et : ∀ b ∈ cs.map (·.2), s₁.heap.get? b = some tab0 := fun b hb => by
    obtain ⟨q, hq, rfl⟩ := List.mem_map.mp hb
    exact hT q hq
  have ic : ∀ b ∈ cs.map (·.2), isCodeTable s₁.heap b := fun b hb => by
    obtain ⟨q, hq, rfl⟩ := List.mem_map.mp hb
    exact ((cT q hq).tab (hT q hq)).isCodeTable
  have na : a ∉ cs.map (·.2) := fun z => by
    have := et a z
    rw [ea, hob] at this
    cases this
  have go : ∀ H : Hp, Few a ob ns (cs.map (·.2)) H → (∀ q ∈ cs, H q.2 = some (.tbl #[])) → SqL K H a (ns.map V.int) → (H a ≠ none → K.lookup a = none) →
      codeAny (model P w) callerA (.call (.ref fa) ⟨[.ref a], []⟩) (fun r s' => r = .ok (.ret (.bool true)) ∧ OldK s₁.heap s'.heap ∧ s'.os = s₁.os ∧ AllBare s'.gens) s₁ := by
    intro H hH hHT hS hK
    have un {b : Addr} {o : Obj} (e : s₁.heap.get? b = some o) (n1 : o ≠ ob) (n2 : o ≠ tab0) : (hidT s₁.heap H).get? b = some o := hidT_get e (hH.unseen ea et e n1 n2)
    have hok : HOk P w H s₁.heap := fun b u q => by
      rcases hH b with z | ⟨z, z2⟩ | ⟨z, z2⟩
      · rw [z] at q; cases q
      · rw [z2] at q
        cases q
        exact et b z
      · subst z
        rw [z2] at q
        cases q
        exact ⟨ea, by rw [List.length_map]; exact hl, vs, _, rv, ha⟩
    have toB : ∀ {b : Addr} {m : Str → Option Value}, s₁.heap.Ns b m → (hidT s₁.heap H).Ns b m := fun {b m} ⟨o, es, ep, e, d, r⟩ =>
      ⟨o, es, ep, un e (fun z => by rw [z, hob] at d; cases d) (fun z => by rw [z] at d; cases d), d, r⟩
    have inB : K.In (hidT s₁.heap H) := fun b o e => hidT_get (KX b o e) (by
      rcases hH b with z | ⟨z, z2⟩ | ⟨z, z2⟩
      · exact z
      · obtain ⟨q, hq, rfl⟩ := List.mem_map.mp z
        rw [nT q hq] at e
        cases e
      · subst z
        rw [hK (by rw [z2]; simp)] at e
        cases e)
    have md : Mod K mg (hidT s₁.heap H) := ⟨inB, toB hns, ⟨mb, toB hb, hbb⟩, hlim.imp fun mc z => ⟨toB z.1, z.2⟩⟩
    have tb : ∀ q ∈ cs, LamX.TabB (hidT s₁.heap H) mg q.1 q.2 := fun q hq => by
      refine ⟨?_, ?_, fun z => ?_⟩
      · obtain ⟨o, us, f1, f2, f3, f4, f5, f6, f7, e1, r1, r2, r3, rest⟩ := cT q hq
        refine ⟨o, us, f1, f2, f3, f4, f5, f6, f7, un e1 (fun z => ?_) (fun z => ?_), r1, r2, r3, rest⟩
        · rw [z, hob] at r2; cases r2
        · rw [z] at r1; cases r1
      · obtain ⟨bm, o, b1, b2, b3, b4, b5, b6⟩ := hbm
        refine ⟨bm, o, b1, b2, fun z => ?_, fun z => ?_, un b3 (fun z => ?_) (fun z => ?_), b4, b5, b6⟩
        · obtain ⟨o', es, ep, e, d, _⟩ := hns
          rw [← z, b3] at e
          cases e
          rw [d] at b6
          cases b6
        · rw [z, hT q hq] at b3
          cases b3
          cases b4
        · rw [z, hob] at b6; cases b6
        · rw [z] at b4; cases b4
      · obtain ⟨o', es, ep, e, d, _⟩ := hns
        rw [z, hT q hq] at e
        cases e
        cases d
    have e0 : Env0 P w K mg (hidT s₁.heap H) callerA [] s₁ H := ⟨rfl, md, fun b o e => of_hidT e, Nat.le_of_eq (hidT_size _ _), trivial, fun b hb => absurd (show b ∈ ([] : List Addr) from hb) (by simp), hok, .of_eq hg⟩
    refine codeAny_mono ((F _ inB (toB hns) tb).run callerA [] s₁ H ⟨[.ref a], []⟩ [.ref a] [.ref a] _ _ hr rfl e0 (hbind s₁ (.ref a)) (.cons rfl .nil) (hsp H hHT hS)) fun r s' h => ?_
    cases r with
    | error e =>
      obtain ⟨_, _, _, _, _, _, _, _, _, _, _, _, z⟩ := h
      exact False.elim z
    | ok fl => cases fl with
      | ret u =>
        obtain ⟨e1, e2⟩ := few_out hH ea et ic h
        exact ⟨by rw [e1], e2⟩
      | _ => exact False.elim h
  have memT : ∀ q ∈ cs, q.2 ∈ cs.map (·.2) := fun q hq => List.mem_map.mpr ⟨q, hq, rfl⟩
  cases hk : K.lookup a with
  | some o =>
    have e := KX a o hk
    rw [ha] at e
    cases e
    refine go (fun b => if b ∈ cs.map (·.2) then some (.tbl #[]) else none) (fun b => ?_) (fun q hq => if_pos (memT q hq)) (.inr ⟨_, vs.toArray, _, hk, rfl, rfl, rfl, by rw [List.size_toArray, lv]; exact hl, by simpa using rv⟩) fun z => absurd (if_neg na) z
    by_cases hb : b ∈ cs.map (·.2)
    · exact .inr (.inl ⟨hb, if_pos hb⟩)
    · exact .inl (if_neg hb)
  | none =>
    refine go (fun b => if b = a then some (.frz ob (.lst (ns.map V.int))) else if b ∈ cs.map (·.2) then some (.tbl #[]) else none) (fun b => ?_) (fun q hq => ?_) (.inl (.inr ⟨ob, if_pos rfl⟩)) fun _ => hk
    · by_cases hb : b = a
      · exact .inr (.inr ⟨hb, if_pos hb⟩)
      · by_cases hm : b ∈ cs.map (·.2)
        · exact .inr (.inl ⟨hm, (if_neg hb).trans (if_pos hm)⟩)
        · exact .inl ((if_neg hb).trans (if_neg hm))
    · have : q.2 ≠ a := fun z => na (by rw [← z]; exact memT q hq)
      exact (if_neg this).trans (if_pos (memT q hq))
end
/-- what is known of a def that makes lambdas: its code object and table -/
structure MakT (h : Heap) (f c P : Addr) : Prop where
  code : ∃ (o : Obj) (fd : FuncData), h.get? f = some o ∧ o.data = .func fd ∧ fd.code = .ref c
  hd : PySem.W.CodeHd h c P
  tab : h.get? P = some tab0
theorem walk_ofT {l : PySem.W.OpenLaw} {n k : Nat} {q : Program} {loose : List Str} {XP : (Str → Option Value) → Heap → Prop} {YP : World → Heap → Prop} {d : DefRec} {K : Params → PySem.W.Frag} {sp : PySem.W.Frag → List Addr → Sp} {x : Str} (mk : List Str)
    (hn : l.most = some n) (hn2 : n ≤ sizeLine) (hdf : d.params.defaults = []) (hr : Room k callerA) (hmk : mk.all (fun y => (recsOf q).any fun e => e.name == y) = true)
    (hY : ∀ (w : World) (h : Heap), YP w h → (K w.params).In h)
    (F : ∀ (w : World) (mg : Str → Option Value) (fa : Addr) (h : Heap), (K w.params).In h → h.Ns mainGlobals mg → mg d.name = some (.ref fa) → (∀ y ∈ mk, ∃ f c P, mg y = some (.ref f) ∧ MakT h f c P) →
      ∃ (fd : FuncData) (cs : List (Addr × Addr)), (∀ (s : Shared) (u : Value), BindsTo s fd ⟨[u], []⟩ [(x, u)]) ∧ (∀ p ∈ cs, h.get? p.2 = some tab0 ∧ (K w.params).lookup p.2 = none ∧ PySem.W.CodeHd h p.1 p.2) ∧
        ∀ base : Heap, (K w.params).In base → base.Ns mainGlobals mg → (∀ p ∈ cs, LamX.TabB base mg p.1 p.2) → FnG l.prog w (K w.params) mg base (L2.CX l.prog w) k fa fd [x] (sp (K w.params) (cs.map (·.2))))
    (hsp : ∀ (K : PySem.W.Frag) (ts : List Addr) (H : Hp) (a : Addr) (ns : List Int), ns.length ≤ n → (∀ p ∈ ts, H p = some (.tbl #[])) → SqL K H a (ns.map V.int) → sp K ts [.ref a] H (fun v _ => v = .bl true) E0) :
    PySem.W.WalkO q loose XP YP l.row.toRowW d [] (fun f vs => PySem.call f vs) := by
  refine Att.attach_call hn hdf fun w s₀ s₁ mg mb fa o pm cd doc a vs ns G Y ho hd hcd hmg hobj hints hlen hg => ?_
  have mks : ∀ y ∈ mk, ∃ f c P, mg y = some (.ref f) ∧ MakT s₁.heap f c P := fun y hy => by
    obtain ⟨e, he, hne⟩ := List.any_eq_true.mp (List.all_eq_true.mp hmk y hy)
    obtain ⟨f, o', fd', c, P', g1, g2, g3, g4, g5, g6⟩ := G.T.tab e he
    rw [beq_iff_eq.mp hne] at g1
    exact ⟨f, c, P', g1, ⟨o', fd', g2, g3, g4⟩, .of g5 g6, g6.2⟩
  obtain ⟨fd, cs, hb, hcs, hF⟩ := F w mg fa _ (hY w _ Y) G.T.g hmg mks
  exact law_callT (hY w _ Y) G.T.g G.T.b G.T.builtins G.T.nolimit hg (fun p hp => (hcs p hp).1) (fun p hp => (hcs p hp).2.1) (fun p hp => (hcs p hp).2.2) G.T.bmain hobj hints (Nat.le_trans hlen hn2) hr hF hb fun H hT hS =>
    hsp (K w.params) _ H a ns hlen (fun b hb => by obtain ⟨p, hp, rfl⟩ := List.mem_map.mp hb; exact hT p hp) hS
end Lx
/-! Pure readings: values as data, the heap out of sight. -/
namespace Px
open PySem PySem.Spec PyProof.Rows L2 Lx
abbrev St := L2.St
mutual
inductive Rq (F : Hp) : V → PyData → Prop
  | non : Rq F .non .none
  | bl (b : Bool) : Rq F (.bl b) (.bool b)
  | int (i : Int) : Rq F (.int i) (.int i)
  | str (x : Str) : Rq F (.str x) (.str x)
  | lst {a : Addr} {xs : List V} {ds : List PyData} : F a = some (.lst xs) → RqAll F xs ds → Rq F (.ref a) (.list ds)
  | tup {a : Addr} {xs : List V} {ds : List PyData} : F a = some (.tup xs) → RqAll F xs ds → Rq F (.ref a) (.tuple ds)
  | dct {a : Addr} {kvs : List (Key × V)} {ds : List (PyData × PyData)} : F a = some (.dK kvs) → ds.map (·.1) = kvs.map (fun p => kD p.1) → RqAll F (kvs.map (·.2)) (ds.map (·.2)) → Rq F (.ref a) (.dict ds)
inductive RqAll (F : Hp) : List V → List PyData → Prop
  | nil : RqAll F [] []
  | cons {v : V} {vs : List V} {d : PyData} {ds : List PyData} : Rq F v d → RqAll F vs ds → RqAll F (v :: vs) (d :: ds)
end
mutual
theorem Rq.same {H H' : Hp} (k : Same H H') : ∀ {v : V} {d : PyData}, Rq H v d → Rq H' v d
  | _, _, .non => .non
  | _, _, .bl b => .bl b
  | _, _, .int i => .int i
  | _, _, .str x => .str x
  | _, _, .lst e r => .lst (k _ _ e) (RqAll.same k r)
  | _, _, .tup e r => .tup (k _ _ e) (RqAll.same k r)
  | _, _, .dct e q r => .dct (k _ _ e) q (RqAll.same k r)
theorem RqAll.same {H H' : Hp} (k : Same H H') : ∀ {vs : List V} {ds : List PyData}, RqAll H vs ds → RqAll H' vs ds
  | _, _, .nil => .nil
  | _, _, .cons a b => .cons (Rq.same k a) (RqAll.same k b)
end
theorem RqAll.len {F : Hp} : ∀ {vs : List V} {ds : List PyData}, RqAll F vs ds → vs.length = ds.length
  | _, _, .nil => rfl
  | _, _, .cons _ b => by rw [List.length_cons, List.length_cons, b.len]
theorem RqAll.get {F : Hp} : ∀ {vs : List V} {ds : List PyData} {i : Nat} {d : PyData}, RqAll F vs ds → ds[i]? = some d → ∃ v, vs[i]? = some v ∧ Rq F v d
  | _, _, i, d, .nil, h => by simp at h
  | _, _, 0, d, .cons a b, h => by
    simp at h
    subst h
    exact ⟨_, rfl, a⟩
  | _, _, i + 1, d, .cons a b, h => by
    simp at h
    obtain ⟨v, e, r⟩ := b.get h
    exact ⟨v, by simpa using e, r⟩
theorem RqAll.app {F : Hp} : ∀ {vs ws : List V} {ds es : List PyData}, RqAll F vs ds → RqAll F ws es → RqAll F (vs ++ ws) (ds ++ es)
  | _, _, _, _, .nil, h => h
  | _, _, _, _, .cons a b, h => .cons a (b.app h)
theorem RqAll.take {F : Hp} : ∀ {vs : List V} {ds : List PyData} (n : Nat), RqAll F vs ds → RqAll F (vs.take n) (ds.take n)
  | _, _, 0, _ => .nil
  | _, _, n + 1, .nil => .nil
  | _, _, n + 1, .cons a b => .cons a (b.take n)
theorem RqAll.drop {F : Hp} : ∀ {vs : List V} {ds : List PyData} (n : Nat), RqAll F vs ds → RqAll F (vs.drop n) (ds.drop n)
  | _, _, 0, h => h
  | _, _, n + 1, .nil => .nil
  | _, _, n + 1, .cons a b => b.drop n
theorem RqAll.set {F : Hp} : ∀ {vs : List V} {ds : List PyData} (n : Nat) {v : V} {d : PyData}, RqAll F vs ds → Rq F v d → RqAll F (vs.set n v) (ds.set n d)
  | _, _, 0, _, _, .nil, h => .nil
  | _, _, n + 1, _, _, .nil, h => .nil
  | _, _, 0, _, _, .cons a b, h => .cons h b
  | _, _, n + 1, _, _, .cons a b, h => .cons a (b.set n h)

/-! ### slots and heaps -/
abbrev FD := List (Str × PyData)
def ExcD (F : Hp) (d : Option Addr) (ds : FD) : Prop := (d = none ∧ ds = []) ∨ ∃ a fs, d = some a ∧ F a = some (.xd fs) ∧ fs.map (·.1) = ds.map (·.1) ∧ RqAll F (fs.map (·.2)) (ds.map (·.2))
theorem ExcD.same {F F' : Hp} (k : Same F F') {d : Option Addr} {ds : FD} (h : ExcD F d ds) : ExcD F' d ds :=
  h.imp id fun ⟨a, fs, e, q, m, r⟩ => ⟨a, fs, e, k _ _ q, m, r.same k⟩
/-- the exception at p, of the class at C, its fields ds -/
def ExcV (F : Hp) (p : Addr × Obj) (C : Addr) (ds : FD) : Prop := p.2.cls = .ref C ∧ (∃ vs, p.2.data = .fields vs) ∧ ExcD F p.2.dict ds
theorem ExcV.same {F F' : Hp} (k : Same F F') {p : Addr × Obj} {C : Addr} {ds : FD} (h : ExcV F p C ds) : ExcV F' p C ds := ⟨h.1, h.2.1, h.2.2.same k⟩
/-- at x an instance of the class at C, its fields ds -/
def InsD (F : Hp) (x C : Addr) (ds : FD) : Prop := ∃ dx fs, F x = some (.ins C dx fs) ∧ fs.map (·.1) = ds.map (·.1) ∧ RqAll F (fs.map (·.2)) (ds.map (·.2))
theorem InsD.same {F F' : Hp} (k : Same F F') {x C : Addr} {ds : FD} (h : InsD F x C ds) : InsD F' x C ds := let ⟨dx, fs, e, m, r⟩ := h; ⟨dx, fs, k _ _ e, m, r.same k⟩
/-- at x a dict with tuples as keys -/
def TabD (F : Hp) (x : Addr) (kvs : List (List Key × PyData)) : Prop := ∃ ys, F x = some (.dT ys) ∧ ys.map (·.1) = kvs.map (·.1) ∧ RqAll F (ys.map (·.2)) (kvs.map (·.2))
theorem TabD.same {F F' : Hp} (k : Same F F') {x : Addr} {kvs : List (List Key × PyData)} (h : TabD F x kvs) : TabD F' x kvs := let ⟨ys, e, m, r⟩ := h; ⟨ys, k _ _ e, m, r.same k⟩
inductive Sl where
  | d (x : PyData)
  | own (xs : List PyData)
  | raw (v : V)
  | exc (p : Addr × Obj) (C : Addr) (ds : List (Str × PyData))
  | obj (C : Addr) (ds : List (Str × PyData))
  | slf (x C : Addr) (ds : List (Str × PyData))
  | ownT (kvs : List (List Key × PyData))
  | tab (kvs : List (List Key × PyData))
abbrev Ev := List (Option Sl)
def RelS (F : Hp) (v : V) : Sl → Prop
  | .d x => Rq F v x
  | .raw u => v = u
  | .own _ => False
  | .exc p C ds => v = .ref p.1 ∧ ExcV F p C ds
  | .obj C ds => ∃ x, v = .ref x ∧ InsD F x C ds
  | .slf _ _ _ => False
  | .ownT _ => False
  | .tab kvs => ∃ x, v = .ref x ∧ TabD F x kvs
inductive RelSs (F : Hp) : List V → List Sl → Prop
  | nil : RelSs F [] []
  | cons {v : V} {vs : List V} {d : Sl} {ds : List Sl} : RelS F v d → RelSs F vs ds → RelSs F (v :: vs) (d :: ds)
theorem RelS.same {F F' : Hp} (k : Same F F') {v : V} : ∀ {s : Sl}, RelS F v s → RelS F' v s
  | .d _, h => Rq.same k h
  | .raw _, h => h
  | .own _, h => h
  | .exc _ _ _, h => ⟨h.1, h.2.same k⟩
  | .obj _ _, ⟨x, e, h⟩ => ⟨x, e, h.same k⟩
  | .slf _ _ _, h => h
  | .ownT _, h => h
  | .tab _, ⟨x, e, h⟩ => ⟨x, e, h.same k⟩
theorem RelSs.same {F F' : Hp} (k : Same F F') : ∀ {vs : List V} {ss : List Sl}, RelSs F vs ss → RelSs F' vs ss
  | _, _, .nil => .nil
  | _, _, .cons a b => .cons (a.same k) (b.same k)
theorem RelSs.len {F : Hp} : ∀ {vs : List V} {ss : List Sl}, RelSs F vs ss → vs.length = ss.length
  | _, _, .nil => rfl
  | _, _, .cons _ b => by rw [List.length_cons, List.length_cons, b.len]
/-- nothing stands at q, or a table of code objects -/
def Nw (H : Hp) (q : Addr) : Prop := ∀ o, H q = some o → ∃ ps, o = .tbl ps
/-- the same, or a tuple -/
def Nv (H : Hp) (q : Addr) : Prop := ∀ o, H q = some o → (∃ ps, o = .tbl ps) ∨ ∃ xs, o = .tup xs
theorem Nw.v {H : Hp} {q : Addr} (h : Nw H q) : Nv H q := fun o e => .inl (h o e)
theorem Nw.of {H : Hp} {q : Addr} (h : H q = none) : Nw H q := fun o e => by rw [h] at e; cases e
def SlotR (H0 F H : Hp) (ov : Option V) : Option Sl → Prop
  | none => True
  | some (.own xs) => ∃ q ys, ov = some (.ref q) ∧ F q = none ∧ Nw H0 q ∧ H q = some (.lst ys) ∧ RqAll F ys xs
  | some (.d x) => ∃ v, ov = some v ∧ Rq F v x
  | some (.raw u) => ov = some u
  | some (.exc p C ds) => ov = some (.ref p.1) ∧ ExcV F p C ds
  | some (.obj C ds) => ∃ x, ov = some (.ref x) ∧ InsD F x C ds
  | some (.slf x C ds) => ∃ dx fs, ov = some (.ref x) ∧ F x = none ∧ Nw H0 x ∧ H x = some (.ins C dx fs) ∧ fs.map (·.1) = ds.map (·.1) ∧ RqAll F (fs.map (·.2)) (ds.map (·.2))
  | some (.ownT kvs) => ∃ q ys, ov = some (.ref q) ∧ F q = none ∧ Nw H0 q ∧ H q = some (.dT ys) ∧ ys.map (·.1) = kvs.map (·.1) ∧ RqAll F (ys.map (·.2)) (kvs.map (·.2))
  | some (.tab kvs) => ∃ x, ov = some (.ref x) ∧ TabD F x kvs
/-- things of one's own: lists, the instance that is being made -/
def Ob (o : HO) : Prop := (∃ ys, o = .lst ys) ∨ (∃ C dx fs, o = .ins C dx fs) ∨ ∃ ys, o = .dT ys
theorem Ob.l {ys : List V} : Ob (.lst ys) := .inl ⟨ys, rfl⟩
theorem Ob.i {C dx : Addr} {fs : List (Str × V)} : Ob (.ins C dx fs) := .inr (.inl ⟨C, dx, fs, rfl⟩)
theorem Ob.t {ys : List (List Key × V)} : Ob (.dT ys) := .inr (.inr ⟨ys, rfl⟩)
theorem Ob.nt {o : HO} (h : Ob o) : ∀ ps, o ≠ .tbl ps := fun ps z => by rcases h with ⟨_, e⟩ | ⟨_, _, _, e⟩ | ⟨_, e⟩ <;> rw [e] at z <;> cases z
theorem Ob.nd {o : HO} (h : Ob o) : ∀ kv, o ≠ .dK kv := fun kv z => by rcases h with ⟨_, e⟩ | ⟨_, _, _, e⟩ | ⟨_, e⟩ <;> rw [e] at z <;> cases z
theorem Ob.ntp {o : HO} (h : Ob o) : ∀ xs, o ≠ .tup xs := fun xs z => by rcases h with ⟨_, e⟩ | ⟨_, _, _, e⟩ | ⟨_, e⟩ <;> rw [e] at z <;> cases z
structure Cc where
  p : Addr
  l : Addr
  T : List (Addr × Str)
def Cc.out (c : Cc) (b : Addr) : Prop := b = c.p ∨ ∃ q, (b, q) ∈ c.T
structure Bas (c : Cc) (H0 F0 F H : Hp) : Prop where
  sub : Same F H
  fx : ∀ b, c.out b → F b = none
  pen : ∃ ns a d k f, PenAt H c.p c.l ns a d k f ∧ F c.l = some (.lst (ns.map V.int))
  tab : LamX.Tabs c.T H
  fr : ∀ b o, ¬ c.out b → (∀ ps, o ≠ .tbl ps) → H0 b = some o → H b = some o
  fF : Same F0 F
  fN : ∀ b, F b ≠ none → F0 b ≠ none ∨ Nv H0 b
  fT : ∀ b ps, F b ≠ some (.tbl ps)
  ou : ∀ b, c.out b → H0 b ≠ none
structure Rel (c : Cc) (H0 F0 : Hp) (env : Ev) (F : Hp) (σ : St) (H : Hp) : Prop where
  b : Bas c H0 F0 F H
  len : σ.length = env.length
  sl : ∀ (i : Nat) (ov : Option V) (s : Option Sl), σ[i]? = some ov → env[i]? = some s → SlotR H0 F H ov s
  sep : ∀ (i j : Nat) (q : Addr) (xs ys : List PyData), env[i]? = some (some (.own xs)) → env[j]? = some (some (.own ys)) → σ[i]? = some (some (.ref q)) → σ[j]? = some (some (.ref q)) → i = j
theorem same_refl (H : Hp) : Same H H := fun _ _ h => h
theorem same_trans {H H1 H2 : Hp} (a : Same H H1) (b : Same H1 H2) : Same H H2 := fun x o h => b x o (a x o h)
section
variable {c : Cc} {H0 F0 F H : Hp} {env : Ev} {σ : St} {q b : Addr} {o : HO}
theorem Bas.outH (B : Bas c H0 F0 F H) (h : c.out b) : (∃ kv, H b = some (.dK kv)) ∨ ∃ ps, H b = some (.tbl ps) := by
  rcases h with rfl | ⟨q, hq⟩
  · obtain ⟨ns, a, d, k, f, P, _⟩ := B.pen
    exact .inl ⟨_, P.1⟩
  · obtain ⟨ps, e, _⟩ := B.tab _ hq
    exact .inr ⟨ps, e⟩
theorem Bas.nout (B : Bas c H0 F0 F H) (h : H q = none) : ¬ c.out q := fun z => by
  rcases B.outH z with ⟨_, e⟩ | ⟨_, e⟩ <;> rw [h] at e <;> cases e
theorem Bas.noutL (B : Bas c H0 F0 F H) {xs : List V} (h : H q = some (.lst xs)) : ¬ c.out q := fun z => by
  rcases B.outH z with ⟨_, e⟩ | ⟨_, e⟩ <;> rw [h] at e <;> cases e
theorem Bas.noutO (B : Bas c H0 F0 F H) (ho : Ob o) (h : H q = some o) : ¬ c.out q := fun z => by
  rcases B.outH z with ⟨kv, e⟩ | ⟨ps, e⟩
  · rw [h] at e; exact ho.nd kv (Option.some.inj e)
  · rw [h] at e; exact ho.nt ps (Option.some.inj e)
theorem Bas.h0 (B : Bas c H0 F0 F H) (h : H q = none) : Nw H0 q := fun o e => by
  by_cases n : ∃ ps, o = .tbl ps
  · exact n
  · rw [B.fr q o (B.nout h) (fun ps z => n ⟨ps, z⟩) e] at h; cases h
theorem Bas.fnone (B : Bas c H0 F0 F H) (h : H q = none) : F q = none := by
  cases e : F q with
  | none => rfl
  | some o => rw [B.sub q o e] at h; cases h
/-- an object laid, seen by all -/
theorem Bas.alloc (B : Bas c H0 F0 F H) (h : H q = none) (ho : ∀ ps, o ≠ .tbl ps := by intro _ z; cases z) : Bas c H0 F0 (upd F q o) (upd H q o) := by
  have hb : ∀ {b u}, H b = some u → b ≠ q := fun e z => by rw [z, h] at e; cases e
  refine ⟨fun b u e => ?_, fun b hb' => ?_, ?_, B.tab.ext fun b u e => by rw [upd_ne (hb e)]; exact e, fun b u n m e => ?_, fun b u e => ?_, fun b n => ?_, fun b ps e => ?_, B.ou⟩
  · by_cases z : b = q
    · subst z; rw [upd_same] at e ⊢; exact e
    · rw [upd_ne z] at e ⊢; exact B.sub b u e
  · rw [upd_ne fun z => B.nout h (by rw [← z]; exact hb')]; exact B.fx b hb'
  · obtain ⟨ns, a, d, k, f, ⟨e1, e2, r⟩, e3⟩ := B.pen
    exact ⟨ns, a, d, k, f, ⟨by rw [upd_ne (hb e1)]; exact e1, by rw [upd_ne (hb e2)]; exact e2, r⟩, by rw [upd_ne (hb e2)]; exact e3⟩
  · rw [upd_ne (hb (B.fr b u n m e))]; exact B.fr b u n m e
  · have := B.fF b u e
    rw [upd_ne (hb (B.sub _ _ this))]; exact this
  · by_cases z : b = q
    · subst z; exact .inr (B.h0 h).v
    · rw [upd_ne z] at n; exact B.fN b n
  · by_cases z : b = q
    · subst z; rw [upd_same] at e; exact ho _ (Option.some.inj e)
    · rw [upd_ne z] at e; exact B.fT b ps e
/-- an object laid, one's own -/
theorem Bas.new (B : Bas c H0 F0 F H) (h : H q = none) : Bas c H0 F0 F (upd H q o) := by
  have hb : ∀ {b u}, H b = some u → b ≠ q := fun e z => by rw [z, h] at e; cases e
  refine ⟨fun b u e => ?_, B.fx, ?_, B.tab.ext fun b u e => by rw [upd_ne (hb e)]; exact e, fun b u n m e => ?_, B.fF, B.fN, B.fT, B.ou⟩
  · rw [upd_ne (hb (B.sub b u e))]; exact B.sub b u e
  · obtain ⟨ns, a, d, k, f, ⟨e1, e2, r⟩, e3⟩ := B.pen
    exact ⟨ns, a, d, k, f, ⟨by rw [upd_ne (hb e1)]; exact e1, by rw [upd_ne (hb e2)]; exact e2, r⟩, e3⟩
  · rw [upd_ne (hb (B.fr b u n m e))]; exact B.fr b u n m e
/-- one's own list written -/
theorem Bas.wr (B : Bas c H0 F0 F H) {ys zs : List V} (h : H q = some (.lst ys)) (hF : F q = none) (h0 : Nw H0 q) : Bas c H0 F0 F (upd H q (.lst zs)) := by
  have no := B.noutL h
  have hF' : ∀ {b u}, F b = some u → b ≠ q := fun e z => by rw [z, hF] at e; cases e
  refine ⟨fun b u e => ?_, B.fx, ?_, fun pq hp => ?_, fun b u n m e => ?_, B.fF, B.fN, B.fT, B.ou⟩
  · rw [upd_ne (hF' e)]; exact B.sub b u e
  · obtain ⟨ns, a, d, k, f, ⟨e1, e2, r⟩, e3⟩ := B.pen
    refine ⟨ns, a, d, k, f, ⟨?_, by rw [upd_ne (hF' e3)]; exact e2, r⟩, e3⟩
    rw [upd_ne fun z => no (by rw [← z]; exact .inl rfl)]; exact e1
  · obtain ⟨ps, e, tr, hc⟩ := B.tab pq hp
    refine ⟨ps, by rw [upd_ne fun z => no (by rw [← z]; exact .inr ⟨_, hp⟩)]; exact e, tr, fun pos cv hcv => ?_⟩
    obtain ⟨c', e1, e2⟩ := hc pos cv hcv
    refine ⟨c', e1, ?_⟩
    rw [upd_ne fun z => ?_]
    · exact e2
    · subst z
      rw [h] at e2
      cases e2
  · rw [upd_ne fun z => by subst z; obtain ⟨ps, z⟩ := h0 u e; exact m ps z]; exact B.fr b u n m e
/-- one's own object shown to all -/
theorem Bas.freeze (B : Bas c H0 F0 F H) {ys : List V} (h : H q = some (.lst ys)) (hF : F q = none) (h0 : Nw H0 q) : Bas c H0 F0 (upd F q (.lst ys)) H := by
  have no := B.noutL h
  have hF' : ∀ {b u}, F b = some u → b ≠ q := fun e z => by rw [z, hF] at e; cases e
  refine ⟨fun b u e => ?_, fun b hb => ?_, ?_, B.tab, B.fr, fun b u e => ?_, fun b n => ?_, fun b ps e => ?_, B.ou⟩
  · by_cases z : b = q
    · subst z; rw [upd_same] at e; cases e; exact h
    · rw [upd_ne z] at e; exact B.sub b u e
  · rw [upd_ne fun z => no (by rw [← z]; exact hb)]; exact B.fx b hb
  · obtain ⟨ns, a, d, k, f, e1, e3⟩ := B.pen
    exact ⟨ns, a, d, k, f, e1, by rw [upd_ne (hF' e3)]; exact e3⟩
  · have := B.fF b u e
    rw [upd_ne (hF' this)]; exact this
  · by_cases z : b = q
    · subst z; exact .inr h0.v
    · rw [upd_ne z] at n; exact B.fN b n
  · by_cases z : b = q
    · subst z; rw [upd_same] at e; cases e
    · rw [upd_ne z] at e; exact B.fT b ps e
theorem Bas.here (B : Bas c H0 F0 F H) : Bas c H F F H :=
  ⟨B.sub, B.fx, B.pen, B.tab, fun _ _ _ _ e => e, same_refl F, fun b n => .inl n, B.fT, fun b h => by rcases B.outH h with ⟨_, e⟩ | ⟨_, e⟩ <;> rw [e] <;> simp⟩
theorem same_upd (h : F q = none) : Same F (upd F q o) := fun b u e => by rw [upd_ne fun z => by rw [z, h] at e; cases e]; exact e
/-- a step from H to H' seen from the entry -/
theorem Bas.after {F' H' : Hp} (B : Bas c H0 F0 F H) (A : Bas c H F F' H') : Bas c H0 F0 F' H' := by
  refine ⟨A.sub, A.fx, A.pen, A.tab, fun b o n m e => A.fr b o n m (B.fr b o n m e), same_trans B.fF A.fF, fun b n => ?_, A.fT, B.ou⟩
  rcases A.fN b n with z | z
  · exact B.fN b z
  · refine .inr fun o e => ?_
    by_cases m : ∃ ps, o = .tbl ps
    · exact .inl m
    · exact z o (B.fr b o (fun hb => n (A.fx b hb)) (fun ps h => m ⟨ps, h⟩) e)
/-- a lambda was made -/
theorem Bas.extN {H' : Hp} (B : Bas c H0 F0 F H) (e : LamX.ExtN H H') (t : LamX.Tabs c.T H') : Bas c H0 F0 F H' := by
  refine ⟨fun b o h => e b o (B.sub b o h) fun ps z => B.fT b ps (h.trans (congrArg some z)), B.fx, ?_, t, fun b o n m h => e b o (B.fr b o n m h) m, B.fF, B.fN, B.fT, B.ou⟩
  obtain ⟨ns, a, d, k, f, ⟨e1, e2, r⟩, e3⟩ := B.pen
  exact ⟨ns, a, d, k, f, ⟨e _ _ e1 (fun ps z => by cases z), e _ _ e2 (fun ps z => by cases z), r⟩, e3⟩
theorem SlotR.same {F' H' : Hp} (k : Same F F') (ko : ∀ q o, Ob o → F q = none → Nw H0 q → H q = some o → F' q = none ∧ H' q = some o) {ov : Option V} : ∀ {s : Option Sl}, SlotR H0 F H ov s → SlotR H0 F' H' ov s
  | none, _ => True.intro
  | some (.d _), ⟨v, e, r⟩ => ⟨v, e, r.same k⟩
  | some (.raw _), h => h
  | some (.exc _ _ _), h => ⟨h.1, h.2.same k⟩
  | some (.obj _ _), ⟨x, e, h⟩ => ⟨x, e, h.same k⟩
  | some (.own _), ⟨q, ys, e, e1, e2, e3, r⟩ => ⟨q, ys, e, (ko q _ .l e1 e2 e3).1, e2, (ko q _ .l e1 e2 e3).2, r.same k⟩
  | some (.slf x _ _), ⟨dx, fs, e, e1, e2, e3, m, r⟩ => ⟨dx, fs, e, (ko x _ .i e1 e2 e3).1, e2, (ko x _ .i e1 e2 e3).2, m, r.same k⟩
  | some (.ownT _), ⟨q, ys, e, e1, e2, e3, m, r⟩ => ⟨q, ys, e, (ko q _ .t e1 e2 e3).1, e2, (ko q _ .t e1 e2 e3).2, m, r.same k⟩
  | some (.tab _), ⟨x, e, h⟩ => ⟨x, e, h.same k⟩
theorem Rel.move {F' H' : Hp} (R : Rel c H0 F0 env F σ H) (B : Bas c H0 F0 F' H') (k : Same F F') (ko : ∀ q o, Ob o → F q = none → Nw H0 q → H q = some o → F' q = none ∧ H' q = some o) : Rel c H0 F0 env F' σ H' :=
  ⟨B, R.len, fun i ov s e1 e2 => (R.sl i ov s e1 e2).same k ko, R.sep⟩
theorem Rel.alloc (R : Rel c H0 F0 env F σ H) (h : H q = none) (o : HO) (ho : ∀ ps, o ≠ .tbl ps := by intro _ z; cases z) : Rel c H0 F0 env (upd F q o) σ (upd H q o) :=
  R.move (R.b.alloc h ho) (same_upd (R.b.fnone h)) fun b _ _ e1 _ e3 => by
    have : b ≠ q := fun z => by rw [z, h] at e3; cases e3
    rw [upd_ne this, upd_ne this]; exact ⟨e1, e3⟩
theorem Rel.new (R : Rel c H0 F0 env F σ H) (h : H q = none) (o : HO) : Rel c H0 F0 env F σ (upd H q o) :=
  R.move (R.b.new h) (same_refl F) fun b _ _ e1 _ e3 => by
    have : b ≠ q := fun z => by rw [z, h] at e3; cases e3
    rw [upd_ne this]; exact ⟨e1, e3⟩
theorem Rel.extN {H' : Hp} (R : Rel c H0 F0 env F σ H) (e : LamX.ExtN H H') (t : LamX.Tabs c.T H') : Rel c H0 F0 env F σ H' :=
  R.move (R.b.extN e t) (same_refl F) fun b _ ho e1 _ e3 => ⟨e1, e b _ e3 ho.nt⟩
theorem Rel.after {F' H' : Hp} (R : Rel c H0 F0 env F σ H) (A : Bas c H F F' H') : Rel c H0 F0 env F' σ H' :=
  R.move (R.b.after A) A.fF fun b _ ho e1 _ e3 => by
    refine ⟨?_, A.fr b _ (R.b.noutO ho e3) ho.nt e3⟩
    cases e : F' b with
    | none => rfl
    | some o =>
      rcases A.fN b (by rw [e]; simp) with z | z
      · exact absurd e1 z
      · rcases z _ e3 with ⟨ps, z⟩ | ⟨xs, z⟩
        · exact absurd z (ho.nt ps)
        · exact absurd z (ho.ntp xs)
theorem Rel.set (R : Rel c H0 F0 env F σ H) {v : V} {s : Sl} (i : Nat) (r : RelS F v s) : Rel c H0 F0 (env.set i (some s)) F (σ.set i (some v)) H := by
  have nown : ∀ xs, s ≠ .own xs := fun xs z => by subst z; exact r
  have nslf : ∀ x C ds, s ≠ .slf x C ds := fun x C ds z => by subst z; exact r
  have nT : ∀ kvs, s ≠ .ownT kvs := fun kvs z => by subst z; exact r
  refine ⟨R.b, by rw [List.length_set, List.length_set]; exact R.len, fun j ov s' e1 e2 => ?_, fun j k q xs ys e1 e2 e3 e4 => ?_⟩
  · by_cases hij : i = j
    · subst hij
      have h1 : i < σ.length := by
        have := (List.getElem?_eq_some_iff.mp e1).1
        simpa using this
      have h2 : i < env.length := by rw [← R.len]; exact h1
      rw [List.getElem?_set_self h1] at e1
      rw [List.getElem?_set_self h2] at e2
      cases e1
      cases e2
      cases s with
      | d x => exact ⟨v, rfl, r⟩
      | raw u => exact congrArg some r
      | exc p C ds => exact ⟨congrArg some r.1, r.2⟩
      | obj C ds => exact ⟨r.choose, congrArg some r.choose_spec.1, r.choose_spec.2⟩
      | slf x C ds => exact absurd rfl (nslf x C ds)
      | ownT kvs => exact absurd rfl (nT kvs)
      | tab kvs => exact ⟨r.choose, congrArg some r.choose_spec.1, r.choose_spec.2⟩
      | own xs => exact absurd rfl (nown xs)
    · rw [List.getElem?_set_ne hij] at e1 e2
      exact R.sl j ov s' e1 e2
  · have ne1 : i ≠ j := fun z => by
      subst z
      have h2 : i < env.length := by
        have := (List.getElem?_eq_some_iff.mp e1).1
        simpa using this
      rw [List.getElem?_set_self h2] at e1
      exact nown xs (Option.some.inj (Option.some.inj e1))
    have ne2 : i ≠ k := fun z => by
      subst z
      have h2 : i < env.length := by
        have := (List.getElem?_eq_some_iff.mp e2).1
        simpa using this
      rw [List.getElem?_set_self h2] at e2
      exact nown ys (Option.some.inj (Option.some.inj e2))
    rw [List.getElem?_set_ne ne1] at e1 e3
    rw [List.getElem?_set_ne ne2] at e2 e4
    exact R.sep j k q xs ys e1 e2 e3 e4
/-- one forgets what stands in a slot -/
theorem Rel.any (R : Rel c H0 F0 env F σ H) (i : Nat) (ov : Option V) : Rel c H0 F0 (env.set i none) F (σ.set i ov) H := by
  refine ⟨R.b, by rw [List.length_set, List.length_set]; exact R.len, fun j ov s' e1 e2 => ?_, fun j k q xs ys e1 e2 e3 e4 => ?_⟩
  · by_cases hij : i = j
    · subst hij
      have h2 : i < env.length := by
        have := (List.getElem?_eq_some_iff.mp e2).1
        simpa using this
      rw [List.getElem?_set_self h2] at e2
      cases e2
      exact True.intro
    · rw [List.getElem?_set_ne hij] at e1 e2
      exact R.sl j ov s' e1 e2
  · have ne1 : i ≠ j := fun z => by
      subst z
      have h2 : i < env.length := by
        have := (List.getElem?_eq_some_iff.mp e1).1
        simpa using this
      rw [List.getElem?_set_self h2] at e1
      cases e1
    have ne2 : i ≠ k := fun z => by
      subst z
      have h2 : i < env.length := by
        have := (List.getElem?_eq_some_iff.mp e2).1
        simpa using this
      rw [List.getElem?_set_self h2] at e2
      cases e2
    rw [List.getElem?_set_ne ne1] at e1 e3
    rw [List.getElem?_set_ne ne2] at e2 e4
    exact R.sep j k q xs ys e1 e2 e3 e4
end
end Px
namespace Px
open PySem PySem.Spec PyProof.Rows L2 Lx
abbrev XP := Ev → Addr → FD → Prop
abbrev PTE := Ev → (Sl → Prop) → XP → Prop
abbrev PTT := Ev → (Bool → Prop) → XP → Prop
abbrev PTA := Ev → (List Sl → Prop) → XP → Prop
structure PD where
  nx : Ev → Prop
  rt : Sl → Prop
  bk : Ev → Prop
  ct : Ev → Prop
  ex : XP
abbrev PTS := PD → Ev → Prop
section
variable (c : Cc) (H0 F0 : Hp) (W : WX)
def LinkX (E : XP) : Prop := ∀ (env' : Ev) (F' : Hp) (σ' : St) (H' : Hp) (C : Addr) (d : Option Addr) (ds : FD), Rel c H0 F0 env' F' σ' H' → ExcD F' d ds → E env' C ds → W (.ref C) d σ' H'
def Fin (env : Ev) (F : Hp) (σ : St) (R : Sl → Prop) (Q : VK) : Prop := ∀ (v : V) (s : Sl) (F' H' : Hp), Rel c H0 F0 env F' σ H' → Same F F' → RelS F' v s → R s → Q v H'
def FinT (env : Ev) (F : Hp) (σ : St) (R : Bool → Prop) (Q : Bool → Hp → Prop) : Prop := ∀ (b : Bool) (F' H' : Hp), Rel c H0 F0 env F' σ H' → Same F F' → R b → Q b H'
def FinA (env : Ev) (F : Hp) (σ : St) (R : List Sl → Prop) (Q : List V → Hp → Prop) : Prop := ∀ (vs : List V) (ss : List Sl) (F' H' : Hp), Rel c H0 F0 env F' σ H' → Same F F' → RelSs F' vs ss → R ss → Q vs H'
end
section
variable (c : Cc) (W : WX)
def Rd (t : TE) (pt : PTE) : Prop := ∀ (H0 F0 : Hp) (env : Ev) (F : Hp) (σ : St) (H : Hp) (R : Sl → Prop) (E : XP) (Q : VK), Rel c H0 F0 env F σ H → LinkX c H0 F0 W E → pt env R E → Fin c H0 F0 env F σ R Q → t σ H Q
def RdT (t : TT) (pt : PTT) : Prop := ∀ (H0 F0 : Hp) (env : Ev) (F : Hp) (σ : St) (H : Hp) (R : Bool → Prop) (E : XP) (Q : Bool → Hp → Prop), Rel c H0 F0 env F σ H → LinkX c H0 F0 W E → pt env R E → FinT c H0 F0 env F σ R Q → t σ H Q
def RdA (t : TA) (pt : PTA) : Prop := ∀ (H0 F0 : Hp) (env : Ev) (F : Hp) (σ : St) (H : Hp) (R : List Sl → Prop) (E : XP) (Q : List V → Hp → Prop), Rel c H0 F0 env F σ H → LinkX c H0 F0 W E → pt env R E → FinA c H0 F0 env F σ R Q → t σ H Q
structure Lk (H0 F0 F : Hp) (D : Ends) (P : PD) : Prop where
  nx : ∀ (env' : Ev) (F' : Hp) (σ' : St) (H' : Hp), Rel c H0 F0 env' F' σ' H' → Same F F' → P.nx env' → D.nx σ' H'
  rt : ∀ (v : V) (s : Sl) (F' H' : Hp), Bas c H0 F0 F' H' → RelS F' v s → P.rt s → D.rt v H'
  bk : ∀ (env' : Ev) (F' : Hp) (σ' : St) (H' : Hp), Rel c H0 F0 env' F' σ' H' → Same F F' → P.bk env' → D.bk σ' H'
  ct : ∀ (env' : Ev) (F' : Hp) (σ' : St) (H' : Hp), Rel c H0 F0 env' F' σ' H' → Same F F' → P.ct env' → D.ct σ' H'
  ex : LinkX c H0 F0 W P.ex
def RdS (t : TS) (pt : PTS) : Prop := ∀ (H0 F0 : Hp) (env : Ev) (F : Hp) (σ : St) (H : Hp) (D : Ends) (P : PD), Rel c H0 F0 env F σ H → Lk c W H0 F0 F D P → pt P env → t D σ H
end
def PuE (X : Cx) (c : Cc) (W : WX) (e : Expr) (pt : PTE) : Prop := ∃ t, PE X e t ∧ Rd c W t pt
def PuT (X : Cx) (c : Cc) (W : WX) (e : Expr) (pt : PTT) : Prop := ∃ t, PT X e t ∧ RdT c W t pt
def PuW (X : Cx) (c : Cc) (W : WX) (e : Expr) (pt : PTT) : Prop := ∃ t, PW X e t ∧ RdT c W t pt
def PuA (X : Cx) (c : Cc) (W : WX) (es : List Expr) (pt : PTA) : Prop := ∃ t, PA X es t ∧ RdA c W t pt
def PuS (X : Cx) (c : Cc) (W : WX) (st : Stmt) (pt : PTS) : Prop := ∃ t, PS X st t ∧ RdS c W t pt
def PuSs (X : Cx) (c : Cc) (W : WX) (st : List Stmt) (pt : PTS) : Prop := ∃ t, PSs X st t ∧ RdS c W t pt

/-! ### the pure readings -/
def nth : Ev → Nat → Option Sl
  | [], _ => none
  | a :: _, 0 => a
  | _ :: l, n + 1 => nth l n
def pVar (i : Nat) : PTE := fun env R _ => match nth env i with
  | some (.d x) => R (.d x)
  | some (.raw v) => R (.raw v)
  | some (.exc p C ds) => R (.exc p C ds)
  | some (.obj C ds) => R (.obj C ds)
  | some (.tab kvs) => R (.tab kvs)
  | _ => False
def pC (s : Sl) : PTE := fun _ R _ => R s
abbrev POp := Sl → Sl → (Sl → Prop) → Prop
def pOp (r : POp) (a b : PTE) : PTE := fun env R E => a env (fun x => b env (fun y => r x y R) E) E
def pUn (r : Sl → (Sl → Prop) → Prop) (a : PTE) : PTE := fun env R E => a env (fun x => r x R) E
def oI (C : Int → Int → Prop) (g : Int → Int → PyData) : POp := fun x y R => match x, y with
  | .d (.int i), .d (.int j) => C i j ∧ R (.d (g i j))
  | _, _ => False
def oI0 (g : Int → Int → PyData) : POp := fun x y R => match x, y with
  | .d (.int i), .d (.int j) => R (.d (g i j))
  | _, _ => False
def uI (g : Int → PyData) : Sl → (Sl → Prop) → Prop := fun x R => match x with
  | .d (.int i) => R (.d (g i))
  | _ => False
/-- data that == takes -/
def okE (d : PyData) : Bool := SeqAt.shaped d && !d.hasDict
def oEq : POp := fun x y R => match x, y with
  | .d a, .d b => okE a = true ∧ okE b = true ∧ R (.d (.bool (PyData.eqv a b)))
  | _, _ => False
def oNe : POp := fun x y R => match x, y with
  | .d a, .d b => okE a = true ∧ okE b = true ∧ R (.d (.bool (!PyData.eqv a b)))
  | _, _ => False
def isNone : PyData → Bool
  | .none => true
  | _ => false
def isBool (b : Bool) : PyData → Bool
  | .bool a => a == b
  | _ => false
def oIs : POp := fun x y R => match x, y with
  | .d a, .d .none => R (.d (.bool (isNone a)))
  | .d a, .d (.bool b) => R (.d (.bool (isBool b a)))
  | _, _ => False
def oNis : POp := fun x y R => match x, y with
  | .d a, .d .none => R (.d (.bool (!isNone a)))
  | .d a, .d (.bool b) => R (.d (.bool (!isBool b a)))
  | _, _ => False
def pNil : PTA := fun _ R _ => R []
def pCons (a : PTE) (as : PTA) : PTA := fun env R E => a env (fun x => as env (fun xs => R (x :: xs)) E) E
/-- all of them data -/
def allD : List Sl → (List PyData → Prop) → Prop
  | [], R => R []
  | .d x :: l, R => allD l fun xs => R (x :: xs)
  | _ :: _, _ => False
def pTup (a : PTA) : PTE := fun env R E => a env (fun ss => allD ss fun ds => ds.length ≤ 1000 ∧ R (.d (.tuple ds))) E
def pLst (a : PTA) : PTE := fun env R E => a env (fun ss => allD ss fun ds => ds.length ≤ 1000 ∧ R (.d (.list ds))) E
def pDisp0 : PTE := fun _ R _ => R (.d (.dict []))
def bOf : Sl → (Bool → Prop) → Prop
  | .d (.bool b), R => R b
  | _, _ => False
def ptB (a : PTE) : PTT := fun env R E => a env (fun x => bOf x R) E
def ptAnd (a b : PTT) : PTT := fun env R E => a env (fun x => (x = true → b env R E) ∧ (x = false → R false)) E
def ptOr (a b : PTT) : PTT := fun env R E => a env (fun x => (x = true → R true) ∧ (x = false → b env R E)) E
def ptNot (a : PTT) : PTT := fun env R E => a env (fun x => R (!x)) E
def pIf (t : PTT) (a b : PTE) : PTE := fun env R E => t env (fun x => (x = true → a env R E) ∧ (x = false → b env R E)) E
def pAndV (a b : PTE) : PTE := fun env R E => a env (fun x => bOf x fun x => (x = true → b env R E) ∧ (x = false → R (.d (.bool false)))) E
def pOrV (a b : PTE) : PTE := fun env R E => a env (fun x => bOf x fun x => (x = true → R (.d (.bool true))) ∧ (x = false → b env R E)) E
def pNotV (a : PTE) : PTE := fun env R E => a env (fun x => bOf x fun x => R (.d (.bool (!x)))) E
abbrev PSp := List Sl → (Sl → Prop) → (Addr → FD → Prop) → Prop
def pCall (sp : PSp) (a : PTA) : PTE := fun env R E => a env (fun ss => sp ss R (E env)) E
abbrev PB := List Sl → (Sl → Prop) → Prop
def pB (r : PB) (a : PTA) : PTE := fun env R E => a env (fun ss => r ss R) E
def bInt : PB := fun ss R => match ss with
  | [.d (.int i)] => R (.d (.int i))
  | [.d (.bool b)] => R (.d (.int (if b = true then 1 else 0)))
  | _ => False
def bAbs : PB := fun ss R => match ss with
  | [.d (.int i)] => R (.d (.int (i.natAbs : Nat)))
  | _ => False
def bGcd : PB := fun ss R => match ss with
  | [.d (.int i), .d (.int j)] => R (.d (.int (Nat.gcd i.natAbs j.natAbs : Nat)))
  | _ => False
def bLen : PB := fun ss R => match ss with
  | [.d (.tuple ds)] => R (.d (.int (ds.length : Nat)))
  | [.d (.list ds)] => R (.d (.int (ds.length : Nat)))
  | _ => False
def bList : PB := fun ss R => match ss with
  | [.d (.tuple ds)] => R (.d (.list ds))
  | [.d (.list ds)] => R (.d (.list ds))
  | _ => False
def bTuple : PB := fun ss R => match ss with
  | [.d (.tuple ds)] => R (.d (.tuple ds))
  | [.d (.list ds)] => R (.d (.tuple ds))
  | _ => False
mutual
/-- a list stands in it -/
def hasL : PyData → Bool
  | .list _ => true
  | .tuple xs => hasLs xs
  | .dict kvs => hasLk kvs
  | _ => false
def hasLs : List PyData → Bool
  | [] => false
  | x :: xs => hasL x || hasLs xs
def hasLk : List (PyData × PyData) → Bool
  | [] => false
  | (_, v) :: r => hasL v || hasLk r
end
/-- data that repr takes -/
structure OkR (d : PyData) : Prop where
  sh : d.showable = true
  dp : d.depth ≤ 64
  nd : d.hasDict = false ∨ hasL d = false
  ln : d.shown.length ≤ sizeLine
def bRepr : PB := fun ss R => match ss with
  | [.d x] => OkR x ∧ R (.d (.str x.shown))
  | _ => False
def tyN : PyData → String
  | .none => "NoneType"
  | .bool _ => "bool"
  | .int _ => "int"
  | .str _ => "str"
  | .list _ => "list"
  | .tuple _ => "tuple"
  | .dict _ => "dict"
def isTy (t : String) (d : PyData) : Bool := tyN d == t || (t == "int" && tyN d == "bool")
def bIsi (t : String) : PB := fun ss R => match ss with
  | [.d x, _] => R (.d (.bool (isTy t x)))
  | _ => False
def bIsi2 (t u : String) : PB := fun ss R => match ss with
  | [.d x, _] => R (.d (.bool (isTy t x || isTy u x)))
  | _ => False
def oIx : POp := fun x y R => match x, y with
  | .d (.tuple ds), .d (.int i) => ∃ d, atI ds i = some d ∧ R (.d d)
  | .d (.list ds), .d (.int i) => ∃ d, atI ds i = some d ∧ R (.d d)
  | _, _ => False
def oCat : POp := fun x y R => match x, y with
  | .d (.tuple ds), .d (.tuple es) => ds.length + es.length ≤ 1000000 ∧ R (.d (.tuple (ds ++ es)))
  | .d (.list ds), .d (.list es) => ds.length + es.length ≤ 1000000 ∧ R (.d (.list (ds ++ es)))
  | _, _ => False

/-! ### statements -/
def psNext : PTS := fun P env => P.nx env
def psSeq (a b : PTS) : PTS := fun P env => a { P with nx := b P } env
def psSet (i : Nat) (a : PTE) : PTS := fun P env => a env (fun s => P.nx (env.set i (some s))) P.ex
def psPar (i j : Nat) (a : PTA) : PTS := fun P env => a env (fun ss => match ss with
  | [x, y] => P.nx ((env.set i (some x)).set j (some y))
  | _ => False) P.ex
def psIf (t : PTT) (a b : PTS) : PTS := fun P env => t env (fun x => (x = true → a P env) ∧ (x = false → b P env)) P.ex
def psRet (a : PTE) : PTS := fun P env => a env P.rt P.ex
def psDrop (a : PTE) : PTS := fun P env => a env (fun _ => P.nx env) P.ex
def psCont : PTS := fun P env => P.ct env
end Px
namespace Px
open PySem PySem.Spec PyProof.Rows L2 Lx
/-! ### the rules of expressions -/
theorem nth_eq : ∀ (env : Ev) (i : Nat) {s : Sl}, nth env i = some s → env[i]? = some (some s)
  | [], i, s, h => by simp [nth] at h
  | a :: l, 0, s, h => by
    have h' : a = some s := h
    rw [h']; rfl
  | a :: l, i + 1, s, h => by
    have := nth_eq l i (s := s) h
    simpa using this
mutual
theorem Rq.dp {K : PySem.W.Frag} {F H : Hp} (k : Same F H) : ∀ {v : V} {d : PyData}, Rq F v d → d.hasDict = false → Dp K H v d
  | _, _, .non, _ => .non
  | _, _, .bl b, _ => .bl b
  | _, _, .int i, _ => .int i
  | _, _, .str x, _ => .str x
  | _, _, .lst e r, n => .lst (sqL (k _ _ e)) (RqAll.dp k r (by simpa [PyData.hasDict] using n))
  | _, _, .tup e r, n => .tup (sqT (k _ _ e)) (RqAll.dp k r (by simpa [PyData.hasDict] using n))
  | _, _, .dct e q r, n => by simp [PyData.hasDict] at n
theorem RqAll.dp {K : PySem.W.Frag} {F H : Hp} (k : Same F H) : ∀ {vs : List V} {ds : List PyData}, RqAll F vs ds → PyData.hasDictAll ds = false → DpAll K H vs ds
  | _, _, .nil, _ => .nil
  | _, _, .cons (d := d) (ds := ds) a b, n => by
    have n' : d.hasDict = false ∧ PyData.hasDictAll ds = false := by simpa [PyData.hasDictAll] using n
    exact .cons (Rq.dp k a n'.1) (RqAll.dp k b n'.2)
end
section
variable {X : Cx} {c : Cc} {W : WX} {H0 F0 F H : Hp} {env : Ev} {σ : St}
theorem Rel.get (R : Rel c H0 F0 env F σ H) {i : Nat} {s : Option Sl} (h : env[i]? = some s) : ∃ ov, σ[i]? = some ov ∧ SlotR H0 F H ov s := by
  have hi : i < σ.length := by
    rw [R.len]
    exact (List.getElem?_eq_some_iff.mp h).1
  exact ⟨_, List.getElem?_eq_getElem hi, R.sl i _ _ (List.getElem?_eq_getElem hi) h⟩
theorem rd_var (i : Nat) : Rd c W (tVar i) (pVar i) := by
  intro H0 F0 env F σ H R E Q J L h fin
  unfold pVar at h
  cases e : nth env i with
  | none => rw [e] at h; exact h.elim
  | some s =>
    rw [e] at h
    obtain ⟨ov, e1, r⟩ := J.get (nth_eq _ _ e)
    cases s with
    | own xs => exact h.elim
    | d x =>
      obtain ⟨v, e2, r⟩ := r
      subst e2
      exact ⟨v, e1, fin v (.d x) F H J (same_refl F) r h⟩
    | raw u =>
      have e2 : ov = some u := r
      subst e2
      exact ⟨u, e1, fin u (.raw u) F H J (same_refl F) rfl h⟩
    | exc p C ds =>
      obtain ⟨e2, r⟩ := r
      subst e2
      exact ⟨.ref p.1, e1, fin _ (.exc p C ds) F H J (same_refl F) ⟨rfl, r⟩ h⟩
    | obj C ds =>
      obtain ⟨x, e2, r⟩ := r
      subst e2
      exact ⟨.ref x, e1, fin _ (.obj C ds) F H J (same_refl F) ⟨x, rfl, r⟩ h⟩
    | tab kvs =>
      obtain ⟨x, e2, r⟩ := r
      subst e2
      exact ⟨.ref x, e1, fin _ (.tab kvs) F H J (same_refl F) ⟨x, rfl, r⟩ h⟩
    | ownT kvs => exact h.elim
    | slf x C ds => exact h.elim
theorem pu_var (i : Nat) {x : Str} {pos : Pos} (hN : X.N[i]? = some x := by rfl) (hv : Vis X.env.scope x := by first | exact Or.inl rfl | exact Or.inr (Or.inl rfl) | exact Or.inr (Or.inr rfl)) (hd : (x == ("__debug__" : Str)) = false := by decide)
    (hcd : (x == ("__classdict__" : Str)) = false := by decide) : PuE X c W (.Name x pos) (pVar i) := ⟨_, pv i hN hv hd hcd, rd_var i⟩
theorem rd_c {v : V} {s : Sl} (h : ∀ F, RelS F v s) : Rd c W (tC v) (pC s) := fun H0 F0 env F σ H R E Q J L hp fin => fin v s F H J (same_refl F) (h F) hp
theorem pu_non {j pos} : PuE X c W (.Constant .none j pos) (pC (.d .none)) := ⟨_, pe_non, rd_c fun _ => Rq.non⟩
theorem pu_bl {b j pos} : PuE X c W (.Constant (.bool b) j pos) (pC (.d (.bool b))) := ⟨_, pe_bl, rd_c fun _ => Rq.bl b⟩
theorem pu_int {i j pos} : PuE X c W (.Constant (.int i) j pos) (pC (.d (.int i))) := ⟨_, pe_int, rd_c fun _ => Rq.int i⟩
theorem pu_str {x j pos} : PuE X c W (.Constant (.str x) j pos) (pC (.d (.str x))) := ⟨_, pe_str, rd_c fun _ => Rq.str x⟩
/-- a module's name, its value v, s the data -/
theorem pu_glob {x : Str} {v : V} {s : Sl} {u : Value} {pos : Pos} (hm : X.mg x = some u) (r : RelV v u) (h : ∀ F, RelS F v s) (hg : Gl X x := by rfl) (hd : (x == ("__debug__" : Str)) = false := by decide) : PuE X c W (.Name x pos) (pC s) := ⟨_, pe_glob hg hm r hd, rd_c h⟩
/-- a two-place reading on data -/
def ROp (c : Cc) (r : R2) (pr : POp) : Prop := ∀ (H0 F0 : Hp) (env : Ev) (F : Hp) (σ : St) (H : Hp) (x y : V) (sx sy : Sl) (R : Sl → Prop) (Q : VK), Rel c H0 F0 env F σ H → RelS F x sx → RelS F y sy → pr sx sy R → Fin c H0 F0 env F σ R Q → r x y H Q
theorem rd_op {r : R2} {pr : POp} {ta tb : TE} {pa pb : PTE} (hr : ROp c r pr) (ha : Rd c W ta pa) (hb : Rd c W tb pb) : Rd c W (tOp r ta tb) (pOp pr pa pb) := by
  intro H0 F0 env F σ H R E Q J L h fin
  refine ha _ _ _ _ _ _ _ _ _ J L h fun x sx F1 H1 J1 k1 rx h1 => ?_
  refine hb _ _ _ _ _ _ _ _ _ J1 L h1 fun y sy F2 H2 J2 k2 ry h2 => ?_
  exact hr _ _ _ _ _ _ _ _ _ _ _ _ J2 (rx.same k2) ry h2 fun v s F3 H3 J3 k3 rv q => fin v s F3 H3 J3 (same_trans k1 (same_trans k2 k3)) rv q
theorem pu_op {op : Operator} {r : R2} {pr : POp} {a b : Expr} {pos : Pos} {pa pb : PTE} (ho : OpR X (binaryOp op) r) (hr : ROp c r pr) (ha : PuE X c W a pa) (hb : PuE X c W b pb) : PuE X c W (.BinOp a op b pos) (pOp pr pa pb) := by
  obtain ⟨ta, ha, ra⟩ := ha
  obtain ⟨tb, hb, rb⟩ := hb
  exact ⟨_, pe_op ho ha hb, rd_op hr ra rb⟩
theorem pu_cmp {op : CmpOp} {r : R2} {pr : POp} {a b : Expr} {pos : Pos} {pa pb : PTE} (ho : OpR X (compareOp op) r) (hr : ROp c r pr) (ha : PuE X c W a pa) (hb : PuE X c W b pb) (hm : behindInMarks op b = false := by first | exact nomark _ | rfl) : PuE X c W (.Compare a [op] [b] pos) (pOp pr pa pb) := by
  obtain ⟨ta, ha, ra⟩ := ha
  obtain ⟨tb, hb, rb⟩ := hb
  exact ⟨_, pe_cmpR ho ha hb hm, rd_op hr ra rb⟩
theorem bOf_d {s : Sl} {R : Bool → Prop} (h : bOf s R) : ∃ b, s = .d (.bool b) ∧ R b := by
  cases s with
  | d x => cases x <;> first | exact ⟨_, rfl, h⟩ | exact h.elim
  | own x => exact h.elim
  | raw v => exact h.elim
  | exc p C ds => exact h.elim
  | obj C ds => exact h.elim
  | slf x C ds => exact h.elim
  | ownT x => exact h.elim
  | tab x => exact h.elim
theorem rq_bl {F : Hp} {v : V} {b : Bool} (h : Rq F v (.bool b)) : v = .bl b := by cases h; rfl
theorem rq_int {F : Hp} {v : V} {i : Int} (h : Rq F v (.int i)) : v = .int i := by cases h; rfl
theorem rq_str {F : Hp} {v : V} {x : Str} (h : Rq F v (.str x)) : v = .str x := by cases h; rfl
theorem rq_non {F : Hp} {v : V} (h : Rq F v .none) : v = .non := by cases h; rfl
theorem rd_test {t : TE} {pt : PTE} (h : Rd c W t pt) : RdT c W (tTest t) (ptB pt) := by
  intro H0 F0 env F σ H R E Q J L hp fin
  refine h _ _ _ _ _ _ _ _ _ J L hp fun v s F1 H1 J1 k1 r h1 => ?_
  obtain ⟨b, rfl, h2⟩ := bOf_d h1
  exact ⟨b, rq_bl r, fin b F1 H1 J1 k1 h2⟩
theorem pt_cmp' {op : CmpOp} {r : R2} {pr : POp} {a b : Expr} {pos : Pos} {pa pb : PTE} (ho : OpR X (compareOp op) r) (hr : ROp c r pr) (ha : PuE X c W a pa) (hb : PuE X c W b pb) (hm : behindInMarks op b = false := by first | exact nomark _ | rfl) : PuT X c W (.Compare a [op] [b] pos) (ptB (pOp pr pa pb)) := by
  obtain ⟨ta, ha, ra⟩ := ha
  obtain ⟨tb, hb, rb⟩ := hb
  exact ⟨_, pt_cmpR ho ha hb hm, rd_test (rd_op hr ra rb)⟩
theorem pt_val' {e : Expr} {pt : PTE} (h : PuE X c W e pt) (he : ∀ whole, isTrue e X.env whole = (do let v ← whole; standAt e.pos; holding [v] (truthy v)) := by intro _; rfl) : PuT X c W e (ptB pt) := by
  obtain ⟨t, h, r⟩ := h
  exact ⟨_, pt_val h he, rd_test r⟩
theorem pt_not' {a : Expr} {pos : Pos} {pa : PTT} (ha : PuT X c W a pa) : PuT X c W (.UnaryOp .Not a pos) (ptNot pa) := by
  obtain ⟨t, h, r⟩ := ha
  exact ⟨_, pt_not h, fun H0 F0 env F σ H R E Q J L hp fin => r _ _ _ _ _ _ _ _ _ J L hp fun b F1 H1 J1 k1 h1 => fin _ F1 H1 J1 k1 h1⟩
theorem pw_and' {a b : Expr} {rest : List Expr} {pos : Pos} {pa pb : PTT} (ha : PuT X c W a pa) (hb : PuW X c W (.BoolOp .And (b :: rest) pos) pb) : PuW X c W (.BoolOp .And (a :: b :: rest) pos) (ptAnd pa pb) := by
  obtain ⟨ta, ha, ra⟩ := ha
  obtain ⟨tb, hb, rb⟩ := hb
  refine ⟨_, pw_and ha hb, fun H0 F0 env F σ H R E Q J L hp fin => ra _ _ _ _ _ _ _ _ _ J L hp fun x F1 H1 J1 k1 h1 => ?_⟩
  cases x with
  | true =>
    show tb σ H1 Q
    exact rb _ _ _ _ _ _ _ _ _ J1 L (h1.1 rfl) fun y F2 H2 J2 k2 h2 => fin y F2 H2 J2 (same_trans k1 k2) h2
  | false =>
    show Q false H1
    exact fin false F1 H1 J1 k1 (h1.2 rfl)
theorem pw_or' {a b : Expr} {rest : List Expr} {pos : Pos} {pa pb : PTT} (ha : PuT X c W a pa) (hb : PuW X c W (.BoolOp .Or (b :: rest) pos) pb) : PuW X c W (.BoolOp .Or (a :: b :: rest) pos) (ptOr pa pb) := by
  obtain ⟨ta, ha, ra⟩ := ha
  obtain ⟨tb, hb, rb⟩ := hb
  refine ⟨_, pw_or ha hb, fun H0 F0 env F σ H R E Q J L hp fin => ra _ _ _ _ _ _ _ _ _ J L hp fun x F1 H1 J1 k1 h1 => ?_⟩
  cases x with
  | false =>
    show tb σ H1 Q
    exact rb _ _ _ _ _ _ _ _ _ J1 L (h1.2 rfl) fun y F2 H2 J2 k2 h2 => fin y F2 H2 J2 (same_trans k1 k2) h2
  | true =>
    show Q true H1
    exact fin true F1 H1 J1 k1 (h1.1 rfl)
theorem pw_and1' {a : Expr} {pos : Pos} {pa : PTT} (ha : PuT X c W a pa) : PuW X c W (.BoolOp .And [a] pos) pa := by
  obtain ⟨ta, ha, ra⟩ := ha
  exact ⟨_, pw_and1 ha, ra⟩
theorem pw_or1' {a : Expr} {pos : Pos} {pa : PTT} (ha : PuT X c W a pa) : PuW X c W (.BoolOp .Or [a] pos) pa := by
  obtain ⟨ta, ha, ra⟩ := ha
  exact ⟨_, pw_or1 ha, ra⟩
theorem PuW.pt {e : Expr} {pa : PTT} (h : PuW X c W e pa) : PuT X c W e pa := by
  obtain ⟨t, h, r⟩ := h
  exact ⟨t, PW.pt h, r⟩
theorem pu_if {t a b : Expr} {pos : Pos} {pt : PTT} {pa pb : PTE} (hc : PuT X c W t pt) (ha : PuE X c W a pa) (hb : PuE X c W b pb) : PuE X c W (.IfExp t a b pos) (pIf pt pa pb) := by
  obtain ⟨tc, hc, rc⟩ := hc
  obtain ⟨ta, ha, ra⟩ := ha
  obtain ⟨tb, hb, rb⟩ := hb
  refine ⟨_, pe_ifExp hc ha hb, fun H0 F0 env F σ H R E Q J L hp fin => rc _ _ _ _ _ _ _ _ _ J L hp fun x F1 H1 J1 k1 h1 => ?_⟩
  cases x with
  | true =>
    show ta σ H1 Q
    exact ra _ _ _ _ _ _ _ _ _ J1 L (h1.1 rfl) fun y s F2 H2 J2 k2 r2 h2 => fin y s F2 H2 J2 (same_trans k1 k2) r2 h2
  | false =>
    show tb σ H1 Q
    exact rb _ _ _ _ _ _ _ _ _ J1 L (h1.2 rfl) fun y s F2 H2 J2 k2 r2 h2 => fin y s F2 H2 J2 (same_trans k1 k2) r2 h2
theorem pu_one {op} {a : Expr} {pos : Pos} {pa : PTE} (h : PuE X c W a pa) : PuE X c W (.BoolOp op [a] pos) pa := by
  obtain ⟨t, h, r⟩ := h
  exact ⟨t, pe_one h, r⟩
theorem pu_and {a b : Expr} {rest : List Expr} {pos : Pos} {pa pb : PTE} (ha : PuE X c W a pa) (hb : PuE X c W (.BoolOp .And (b :: rest) pos) pb) : PuE X c W (.BoolOp .And (a :: b :: rest) pos) (pAndV pa pb) := by
  obtain ⟨ta, ha, ra⟩ := ha
  obtain ⟨tb, hb, rb⟩ := hb
  refine ⟨_, pe_and ha hb, fun H0 F0 env F σ H R E Q J L hp fin => ra _ _ _ _ _ _ _ _ _ J L hp fun v s F1 H1 J1 k1 r1 h1 => ?_⟩
  obtain ⟨x, rfl, h1⟩ := bOf_d h1
  refine ⟨x, rq_bl r1, ?_⟩
  cases x with
  | true =>
    show tb σ H1 Q
    exact rb _ _ _ _ _ _ _ _ _ J1 L (h1.1 rfl) fun y s F2 H2 J2 k2 r2 h2 => fin y s F2 H2 J2 (same_trans k1 k2) r2 h2
  | false =>
    show Q (.bl false) H1
    exact fin _ (.d (.bool false)) F1 H1 J1 k1 (Rq.bl false) (h1.2 rfl)
theorem pu_or {a b : Expr} {rest : List Expr} {pos : Pos} {pa pb : PTE} (ha : PuE X c W a pa) (hb : PuE X c W (.BoolOp .Or (b :: rest) pos) pb) : PuE X c W (.BoolOp .Or (a :: b :: rest) pos) (pOrV pa pb) := by
  obtain ⟨ta, ha, ra⟩ := ha
  obtain ⟨tb, hb, rb⟩ := hb
  refine ⟨_, pe_or ha hb, fun H0 F0 env F σ H R E Q J L hp fin => ra _ _ _ _ _ _ _ _ _ J L hp fun v s F1 H1 J1 k1 r1 h1 => ?_⟩
  obtain ⟨x, rfl, h1⟩ := bOf_d h1
  refine ⟨x, rq_bl r1, ?_⟩
  cases x with
  | false =>
    show tb σ H1 Q
    exact rb _ _ _ _ _ _ _ _ _ J1 L (h1.2 rfl) fun y s F2 H2 J2 k2 r2 h2 => fin y s F2 H2 J2 (same_trans k1 k2) r2 h2
  | true =>
    show Q (.bl true) H1
    exact fin _ (.d (.bool true)) F1 H1 J1 k1 (Rq.bl true) (h1.1 rfl)
theorem pu_not {a : Expr} {pos : Pos} {pa : PTE} (ha : PuE X c W a pa) : PuE X c W (.UnaryOp .Not a pos) (pNotV pa) := by
  obtain ⟨ta, ha, ra⟩ := ha
  refine ⟨_, pe_not ha, fun H0 F0 env F σ H R E Q J L hp fin => ra _ _ _ _ _ _ _ _ _ J L hp fun v s F1 H1 J1 k1 r1 h1 => ?_⟩
  obtain ⟨x, rfl, h1⟩ := bOf_d h1
  exact ⟨x, rq_bl r1, fin _ (.d (.bool (!x))) F1 H1 J1 k1 (Rq.bl _) h1⟩
theorem pa_nil' : PuA X c W [] pNil := ⟨_, pa_nil, fun H0 F0 env F σ H R E Q J L hp fin => fin [] [] F H J (same_refl F) .nil hp⟩
theorem pa_cons' {a : Expr} {as : List Expr} {pa : PTE} {ps : PTA} (ha : PuE X c W a pa) (hs : PuA X c W as ps) (he : starEach (a :: as) X.env = (false, eval a X.env) :: starEach as X.env := by rfl) : PuA X c W (a :: as) (pCons pa ps) := by
  obtain ⟨ta, ha, ra⟩ := ha
  obtain ⟨ts, hs, rs⟩ := hs
  refine ⟨_, pa_cons ha hs he, fun H0 F0 env F σ H R E Q J L hp fin => ra _ _ _ _ _ _ _ _ _ J L hp fun v s F1 H1 J1 k1 r1 h1 => ?_⟩
  exact rs _ _ _ _ _ _ _ _ _ J1 L h1 fun vs ss F2 H2 J2 k2 r2 h2 => fin _ _ F2 H2 J2 (same_trans k1 k2) (.cons (r1.same k2) r2) h2
theorem allD_d {F : Hp} : ∀ {vs : List V} {ss : List Sl} {R : List PyData → Prop}, RelSs F vs ss → allD ss R → ∃ ds, RqAll F vs ds ∧ R ds
  | _, _, R, .nil, h => ⟨[], .nil, h⟩
  | _, _, R, .cons (d := s) a b, h => by
    cases s with
    | d x =>
      obtain ⟨ds, r, q⟩ := allD_d b (R := fun xs => R (x :: xs)) h
      exact ⟨x :: ds, .cons a r, q⟩
    | own x => exact h.elim
    | raw x => exact h.elim
    | exc p C ds => exact h.elim
    | obj C ds => exact h.elim
    | slf x C ds => exact h.elim
    | ownT x => exact h.elim
    | tab x => exact h.elim
theorem pu_tup {es : List Expr} {k : Nat} {pos : Pos} {pa : PTA} (ha : PuA X c W es pa) : PuE X c W (.Tuple es k pos) (pTup pa) := by
  obtain ⟨ta, ha, ra⟩ := ha
  refine ⟨_, pe_tup ha, fun H0 F0 env F σ H R E Q J L hp fin => ra _ _ _ _ _ _ _ _ _ J L hp fun vs ss F1 H1 J1 k1 r1 h1 => ?_⟩
  obtain ⟨ds, r2, hl, q⟩ := allD_d r1 h1
  refine ⟨by rw [r2.len]; exact Nat.le_trans hl (by decide), fun p hp => ?_⟩
  have k2 : Same F1 (upd F1 p (.tup vs)) := same_upd (J1.b.fnone hp)
  exact fin (.ref p) (.d (.tuple ds)) _ _ (J1.alloc hp _) (same_trans k1 k2) (Rq.tup upd_same (r2.same k2)) q
theorem pu_lst {es : List Expr} {pos : Pos} {pa : PTA} (ha : PuA X c W es pa) : PuE X c W (.List es pos) (pLst pa) := by
  obtain ⟨ta, ha, ra⟩ := ha
  refine ⟨_, pe_lst ha, fun H0 F0 env F σ H R E Q J L hp fin => ra _ _ _ _ _ _ _ _ _ J L hp fun vs ss F1 H1 J1 k1 r1 h1 => ?_⟩
  obtain ⟨ds, r2, hl, q⟩ := allD_d r1 h1
  refine ⟨by rw [r2.len]; exact Nat.le_trans hl (by decide), fun p hp => ?_⟩
  have k2 : Same F1 (upd F1 p (.lst vs)) := same_upd (J1.b.fnone hp)
  exact fin (.ref p) (.d (.list ds)) _ _ (J1.alloc hp _) (same_trans k1 k2) (Rq.lst upd_same (r2.same k2)) q
theorem pu_disp0 {pos : Pos} : PuE X c W (.Dict [] [] pos) pDisp0 := by
  refine ⟨_, pe_dnewK, fun H0 F0 env F σ H R E Q J L hp fin => ?_⟩
  intro p hn
  exact fin (.ref p) (.d (.dict [])) _ _ (J.alloc hn (.dK [])) (same_upd (J.b.fnone hn)) (Rq.dct (kvs := []) upd_same rfl .nil) hp
end
end Px
namespace Px
open PySem PySem.Spec PyProof.Rows L2 Lx
/-! ### operations on data -/
/-- below 2 ^ n in size -/
def Bn (n : Nat) (i : Int) : Prop := i.natAbs < 2 ^ n
def CMulP (i j : Int) : Prop := ∃ a b : Nat, Bn a i ∧ Bn b j ∧ a + b ≤ 100000000
def CDivZ (i j : Int) : Prop := j ≠ 0 ∧ ∃ b, Bn b j ∧ b ≤ 9000
section
variable {X : Cx} {c : Cc} {W : WX}
theorem op_mulP : OpR X (binaryOp .Mult) (rI CMulP fun i j => .int (i * j)) := opI fun _ _ _ _ _ _ _ hc q => by
  obtain ⟨a, b, h1, h2, h3⟩ := hc
  exact mul_int q (mulx_ok h1 h2 (by omega)).ok
theorem log2_le {n b : Nat} (h : n < 2 ^ b) (hb : b ≤ 9000) : n.log2 < 9000 := by
  by_cases z : n = 0
  · rw [z]; decide
  · exact Nat.lt_of_lt_of_le ((Nat.log2_lt z).mpr h) hb
theorem op_fdivZ : OpR X (binaryOp .FloorDiv) (rI CDivZ fun i j => .int (i.fdiv j)) := opI fun i j _ _ _ _ _ hc q => by
  obtain ⟨h0, b, h1, h2⟩ := hc
  exact floordiv_int h0 q (.inl (PyProof.noPylong_of_log2 (log2_le h1 h2)))
theorem ro_I {C : Int → Int → Prop} {g : Int → Int → V} {g' : Int → Int → PyData} (h : ∀ F i j, Rq F (g i j) (g' i j)) : ROp c (rI C g) (oI C g') := by
  intro H0 F0 env F σ H x y sx sy R Q J rx ry hp fin
  cases sx with
  | d a =>
    cases sy with
    | d b =>
      cases a <;> try exact hp.elim
      cases b <;> try exact hp.elim
      obtain ⟨hc, hp⟩ := hp
      cases rx
      cases ry
      exact ⟨_, _, rfl, rfl, hc, fin _ (.d _) F H J (same_refl F) (h F _ _) hp⟩
    | _ => cases a <;> exact hp.elim
  | _ => exact hp.elim
theorem ro_I0 {g : Int → Int → V} {g' : Int → Int → PyData} (h : ∀ F i j, Rq F (g i j) (g' i j)) : ROp c (rI0 g) (oI0 g') := by
  intro H0 F0 env F σ H x y sx sy R Q J rx ry hp fin
  cases sx with
  | d a =>
    cases sy with
    | d b =>
      cases a <;> try exact hp.elim
      cases b <;> try exact hp.elim
      cases rx
      cases ry
      exact ⟨_, _, rfl, rfl, fin _ (.d _) F H J (same_refl F) (h F _ _) hp⟩
    | _ => cases a <;> exact hp.elim
  | _ => exact hp.elim
theorem rq_i {F : Hp} (g : Int → Int → Int) : ∀ i j, Rq F (.int (g i j)) (.int (g i j)) := fun i j => Rq.int _
abbrev oSub := oI0 fun i j => .int (i - j)
abbrev oMul := oI CMulP fun i j => .int (i * j)
abbrev oDiv := oI CDivZ fun i j => .int (i.fdiv j)
abbrev oMod := oI (fun _ j => j ≠ 0) fun i j => .int (i.fmod j)
abbrev oPow := oI CPow fun i j => .int (i ^ j.toNat)
abbrev oLt := oI0 fun i j => .bool (decide (i < j))
abbrev oLe := oI0 fun i j => .bool (decide (i ≤ j))
abbrev oGt := oI0 fun i j => .bool (decide (j < i))
abbrev oGe := oI0 fun i j => .bool (decide (j ≤ i))
theorem ro_sub : ROp c (rI0 fun i j => .int (i - j)) oSub := ro_I0 fun _ _ _ => Rq.int _
theorem ro_mul : ROp c (rI CMulP fun i j => .int (i * j)) oMul := ro_I fun _ _ _ => Rq.int _
theorem ro_div : ROp c (rI CDivZ fun i j => .int (i.fdiv j)) oDiv := ro_I fun _ _ _ => Rq.int _
theorem ro_mod : ROp c (rI (fun _ j => j ≠ 0) fun i j => .int (i.fmod j)) oMod := ro_I fun _ _ _ => Rq.int _
theorem ro_pow : ROp c (rI CPow fun i j => .int (i ^ j.toNat)) oPow := ro_I fun _ _ _ => Rq.int _
theorem ro_lt : ROp c (rI0 fun i j => .bl (decide (i < j))) oLt := ro_I0 fun _ _ _ => Rq.bl _
theorem ro_le : ROp c (rI0 fun i j => .bl (decide (i ≤ j))) oLe := ro_I0 fun _ _ _ => Rq.bl _
theorem ro_gt : ROp c (rI0 fun i j => .bl (decide (j < i))) oGt := ro_I0 fun _ _ _ => Rq.bl _
theorem ro_ge : ROp c (rI0 fun i j => .bl (decide (j ≤ i))) oGe := ro_I0 fun _ _ _ => Rq.bl _
/-- + of ints, of tuples, of lists -/
def oAdd : POp := fun x y R => match x, y with
  | .d (.int i), .d (.int j) => R (.d (.int (i + j)))
  | .d (.tuple ds), .d (.tuple es) => ds.length + es.length ≤ 1000000 ∧ R (.d (.tuple (ds ++ es)))
  | .d (.list ds), .d (.list es) => ds.length + es.length ≤ 1000000 ∧ R (.d (.list (ds ++ es)))
  | _, _ => False
def rAddU (K : PySem.W.Frag) : R2 := fun x y H Q => rI0 (fun i j => .int (i + j)) x y H Q ∨ (rCatA K x y H Q ∨ rCat x y H Q)
theorem op_addU : OpR X (binaryOp .Add) (rAddU X.K) := op_add.or (op_catA.or op_cat)
theorem sz_le {n : Nat} (h : n ≤ 1000000) : n ≤ sizeLine := Nat.le_trans h (by decide)
theorem ro_add {K : PySem.W.Frag} : ROp c (rAddU K) oAdd := by
  intro H0 F0 env F σ H x y sx sy R Q J rx ry hp fin
  cases sx with
  | d a =>
    cases sy with
    | d b =>
      cases a <;> cases b <;> try exact hp.elim
      · cases rx
        cases ry
        exact .inl ⟨_, _, rfl, rfl, fin _ (.d _) F H J (same_refl F) (Rq.int _) hp⟩
      · obtain ⟨hl, hp⟩ := hp
        cases rx with
        | @lst a xs ds ea ra =>
          cases ry with
          | @lst b ys es eb rb =>
            refine .inr (.inr ⟨_, _, _, _, rfl, rfl, J.b.sub _ _ ea, J.b.sub _ _ eb, by rw [ra.len, rb.len]; exact sz_le hl, fun p hn => ?_⟩)
            have k2 : Same F (upd F p (.lst (xs ++ ys))) := same_upd (J.b.fnone hn)
            exact fin (.ref p) (.d _) _ _ (J.alloc hn _) k2 (Rq.lst upd_same ((ra.app rb).same k2)) hp
      · obtain ⟨hl, hp⟩ := hp
        cases rx with
        | @tup a xs ds ea ra =>
          cases ry with
          | @tup b ys es eb rb =>
            refine .inr (.inl ⟨_, _, _, _, rfl, rfl, sqT (J.b.sub _ _ ea), sqT (J.b.sub _ _ eb), by rw [ra.len, rb.len]; exact sz_le hl, fun z => ?_, fun z1 z2 => ?_, fun z1 z2 p hn => ?_⟩)
            · subst z
              cases ra
              exact fin _ (.d _) F H J (same_refl F) (Rq.tup eb rb) hp
            · subst z2
              cases rb
              rw [List.append_nil] at hp
              exact fin _ (.d _) F H J (same_refl F) (Rq.tup ea ra) hp
            · have k2 : Same F (upd F p (.tup (xs ++ ys))) := same_upd (J.b.fnone hn)
              exact fin (.ref p) (.d _) _ _ (J.alloc hn _) k2 (Rq.tup upd_same ((ra.app rb).same k2)) hp
    | _ => cases a <;> exact hp.elim
  | _ => exact hp.elim
theorem okE_of {d : PyData} (h : okE d = true) : SeqAt.shaped d = true ∧ d.hasDict = false := by
  unfold okE at h
  simpa using h
theorem ro_eq {K : PySem.W.Frag} : ROp c (rEqD K) oEq := by
  intro H0 F0 env F σ H x y sx sy R Q J rx ry hp fin
  cases sx with
  | d a =>
    cases sy with
    | d b =>
      obtain ⟨h1, h2, hp⟩ := hp
      exact ⟨a, b, rx.dp J.b.sub (okE_of h1).2, ry.dp J.b.sub (okE_of h2).2, (okE_of h1).1, (okE_of h2).1, fin _ (.d _) F H J (same_refl F) (Rq.bl _) hp⟩
    | _ => exact hp.elim
  | _ => exact hp.elim
theorem ro_ne {K : PySem.W.Frag} : ROp c (rNeD K) oNe := by
  intro H0 F0 env F σ H x y sx sy R Q J rx ry hp fin
  cases sx with
  | d a =>
    cases sy with
    | d b =>
      obtain ⟨h1, h2, hp⟩ := hp
      exact ⟨a, b, rx.dp J.b.sub (okE_of h1).2, ry.dp J.b.sub (okE_of h2).2, (okE_of h1).1, (okE_of h2).1, fin _ (.d _) F H J (same_refl F) (Rq.bl _) hp⟩
    | _ => exact hp.elim
  | _ => exact hp.elim
/-- x is y, y None or a bool -/
def rIsC (neg : Bool) : R2 := fun x y H Q => (y = .non ∧ Q (.bl (xor neg (decide (x = .non)))) H) ∨ ∃ b, y = .bl b ∧ (x ≠ .bl b → ∀ u, RelV x u → u ≠ .bool b ∧ plainIs u (.bool b) = true) ∧ Q (.bl (xor neg (decide (x = .bl b)))) H
theorem op_isC : OpR X (compareOp .Is) (rIsC false) := by
  intro pins s σ H x y v u Q I rx ry h
  rcases h with ⟨rfl, q⟩ | ⟨b, rfl, hne, q⟩
  · exact op_isN pins s σ H x .non v u Q I rx ry ⟨rfl, by simpa using q⟩
  · cases (show u = Value.bool b from ry)
    by_cases e : x = .bl b
    · subst e
      cases (show v = Value.bool b from rx)
      exact wpAny_is_self rfl ⟨.bl true, H, I, rfl, by simpa using q⟩
    · exact wpAny_is_other (hne e v rx).2 (hne e v rx).1 ⟨.bl false, H, I, rfl, by simpa [e] using q⟩
theorem op_nisC : OpR X (compareOp .IsNot) (rIsC true) := by
  intro pins s σ H x y v u Q I rx ry h
  rcases h with ⟨rfl, q⟩ | ⟨b, rfl, hne, q⟩
  · exact op_notN pins s σ H x .non v u Q I rx ry ⟨rfl, by simpa using q⟩
  · cases (show u = Value.bool b from ry)
    by_cases e : x = .bl b
    · subst e
      cases (show v = Value.bool b from rx)
      exact wpAny_isNot_self rfl ⟨.bl false, H, I, rfl, by simpa using q⟩
    · exact wpAny_isNot_other (hne e v rx).2 (hne e v rx).1 ⟨.bl true, H, I, rfl, by simpa [e] using q⟩
theorem rq_isNone {F : Hp} {v : V} {d : PyData} (h : Rq F v d) : isNone d = decide (v = .non) := by cases h <;> simp [isNone]
theorem rq_isBool {F : Hp} {v : V} {d : PyData} {b : Bool} (h : Rq F v d) : isBool b d = decide (v = .bl b) := by
  cases h <;> simp [isBool]
  case bl a => cases a <;> cases b <;> rfl
theorem rq_nb {F : Hp} {v : V} {d : PyData} {b : Bool} (h : Rq F v d) (e : v ≠ .bl b) : ∀ u, RelV v u → u ≠ .bool b ∧ plainIs u (.bool b) = true := by
  intro u r
  cases h with
  | non => cases r; exact ⟨(fun z => nomatch z), rfl⟩
  | bl a =>
    cases (show u = Value.bool a from r)
    exact ⟨fun z => e (congrArg V.bl (Value.bool.inj z)), rfl⟩
  | int i => obtain ⟨t, r⟩ := r; cases r; exact ⟨(fun z => nomatch z), rfl⟩
  | str x => obtain ⟨t, r⟩ := r; cases r; exact ⟨(fun z => nomatch z), rfl⟩
  | lst _ _ => cases r; exact ⟨(fun z => nomatch z), rfl⟩
  | tup _ _ => cases r; exact ⟨(fun z => nomatch z), rfl⟩
  | dct _ _ _ => cases r; exact ⟨(fun z => nomatch z), rfl⟩
theorem rs_bl {F : Hp} {a b : Bool} (h : a = b) : RelS F (.bl a) (.d (.bool b)) := by subst h; exact Rq.bl a
theorem ro_is : ROp c (rIsC false) oIs := by
  intro H0 F0 env F σ H x y sx sy R Q J rx ry hp fin
  cases sx with
  | d a =>
    cases sy with
    | d b =>
      cases b <;> try exact hp.elim
      · cases ry
        refine .inl ⟨rfl, fin _ _ F H J (same_refl F) ?_ hp⟩
        rw [rq_isNone rx]
        exact rs_bl (by simp)
      · cases ry
        refine .inr ⟨_, rfl, rq_nb rx, fin _ _ F H J (same_refl F) ?_ hp⟩
        rw [rq_isBool rx]
        exact rs_bl (by simp)
    | _ => exact hp.elim
  | _ => exact hp.elim
theorem ro_nis : ROp c (rIsC true) oNis := by
  intro H0 F0 env F σ H x y sx sy R Q J rx ry hp fin
  cases sx with
  | d a =>
    cases sy with
    | d b =>
      cases b <;> try exact hp.elim
      · cases ry
        refine .inl ⟨rfl, fin _ _ F H J (same_refl F) ?_ hp⟩
        rw [rq_isNone rx]
        exact rs_bl (by simp)
      · cases ry
        refine .inr ⟨_, rfl, rq_nb rx, fin _ _ F H J (same_refl F) ?_ hp⟩
        rw [rq_isBool rx]
        exact rs_bl (by simp)
    | _ => exact hp.elim
  | _ => exact hp.elim
theorem atI_rel {F : Hp} {xs : List V} {ds : List PyData} {i : Int} {d : PyData} (r : RqAll F xs ds) (h : atI ds i = some d) : ∃ v, atI xs i = some v ∧ Rq F v d := by
  unfold atI at h ⊢
  rw [r.len]
  cases e : ixN ds.length i with
  | none => rw [e] at h; cases h
  | some j =>
    rw [e] at h
    exact r.get h
theorem ro_ix {K : PySem.W.Frag} : ROp c (rIx K) oIx := by
  intro H0 F0 env F σ H x y sx sy R Q J rx ry hp fin
  cases sx with
  | d a =>
    cases sy with
    | d b =>
      cases a <;> cases b <;> try exact hp.elim
      · obtain ⟨d, e, hp⟩ := hp
        cases ry
        cases rx with
        | lst ea ra =>
          obtain ⟨v, e2, rv⟩ := atI_rel ra e
          exact .inl ⟨_, _, _, v, rfl, rfl, sqL (J.b.sub _ _ ea), e2, fin v (.d d) F H J (same_refl F) rv hp⟩
      · obtain ⟨d, e, hp⟩ := hp
        cases ry
        cases rx with
        | tup ea ra =>
          obtain ⟨v, e2, rv⟩ := atI_rel ra e
          exact .inr (.inl ⟨_, _, _, v, rfl, rfl, sqT (J.b.sub _ _ ea), e2, fin v (.d d) F H J (same_refl F) rv hp⟩)
    | _ => cases a <;> exact hp.elim
  | _ => exact hp.elim
theorem pu_ix {a b : Expr} {pos : Pos} {pa pb : PTE} (ha : PuE X c W a pa) (hb : PuE X c W b pb) (hs : PlainIx b := by exact fun _ _ => rfl) : PuE X c W (.Subscript a b pos) (pOp oIx pa pb) := by
  obtain ⟨ta, ha, ra⟩ := ha
  obtain ⟨tb, hb, rb⟩ := hb
  exact ⟨_, pe_ix ix_seq ha hb hs, rd_op ro_ix ra rb⟩
theorem pu_neg {a : Expr} {pos : Pos} {pa : PTE} (ha : PuE X c W a pa) : PuE X c W (.UnaryOp .USub a pos) (pUn (uI fun i => .int (-i)) pa) := by
  obtain ⟨ta, ha, ra⟩ := ha
  refine ⟨_, pe_un un_neg ha, fun H0 F0 env F σ H R E Q J L hp fin => ra _ _ _ _ _ _ _ _ _ J L hp fun v s F1 H1 J1 k1 r1 h1 => ?_⟩
  cases s with
  | d x =>
    cases x <;> try exact h1.elim
    cases r1
    exact ⟨_, rfl, fin _ (.d (.int _)) F1 H1 J1 k1 (Rq.int _) h1⟩
  | _ => exact h1.elim
end
end Px
namespace Px
open PySem PySem.Spec PyProof.Rows L2 Lx
/-! ### built-ins on data -/
section
variable {X : Cx} {pins : List (Addr × Obj)} {σ : St} {H F : Hp} {s : Shared}
mutual
theorem Rq.reads (I : Inv X pins σ H s) (k : Same F H) : ∀ {v : V} {d : PyData}, Rq F v d → ∀ {u : Value}, RelV v u → ∃ as, Reads s.heap u d as
  | _, _, .non, _, r => by cases r; exact ⟨_, .none⟩
  | _, _, .bl b, _, r => by cases r; exact ⟨_, .bool b⟩
  | _, _, .int i, _, r => by obtain ⟨t, rfl⟩ := r; exact ⟨_, .int i t⟩
  | _, _, .str x, _, r => by obtain ⟨t, rfl⟩ := r; exact ⟨_, .str x t⟩
  | _, _, @Rq.lst _ a xs ds e h, _, r => by
    cases r
    obtain ⟨its, rv, ⟨o, c, ho, hc, _, hd⟩, _⟩ := I.list (.inl (.inl (k _ _ e)))
    obtain ⟨as, q1⟩ := RqAll.reads I k h rv
    exact ⟨_, .list ho hc hd q1⟩
  | _, _, @Rq.tup _ a xs ds e h, _, r => by
    cases r
    obtain ⟨its, rv, ⟨o, ho, hc, c, hd⟩, _⟩ := I.tuple (.inl (.inl (k _ _ e)))
    obtain ⟨as, q1⟩ := RqAll.reads I k h rv
    exact ⟨_, .tuple ho hc hd q1⟩
  | _, _, @Rq.dct _ a kvs ds e hk h, _, r => by
    cases r
    obtain ⟨_, hs, vs, kv, o, es, ep, ho, hx, hd, _, hp, _⟩ := (show ObjOk X.prog X.w H s.heap a (.dK kvs) from I.hok a _ (k _ _ e))
    obtain ⟨as, q1⟩ := RqAll.reads I k h (kv_vals kv)
    have e1 : ReadsAll s.heap (es.toList.map (·.key)) (ds.map (·.1)) [] := by
      rw [hk, ← kv_keys kv]
      exact keys_read hp
    have e2 : ReadsAll s.heap (es.toList.map (·.val)) (ds.map (·.2)) as := by
      rw [vals_of_pairs hp]
      exact q1
    exact ⟨_, .dict ho hx.1 hd e1 e2⟩
theorem RqAll.reads (I : Inv X pins σ H s) (k : Same F H) : ∀ {vs : List V} {ds : List PyData}, RqAll F vs ds → ∀ {us : List Value}, Vals vs us → ∃ as, ReadsAll s.heap us ds as
  | _, _, .nil, _, r => by cases r; exact ⟨_, .nil⟩
  | _, _, .cons h1 h2, _, r => by
    cases r with
    | cons r1 r2 =>
      obtain ⟨as, q1⟩ := Rq.reads I k h1 r1
      obtain ⟨bs, q2⟩ := RqAll.reads I k h2 r2
      exact ⟨_, .cons q1 q2⟩
end
theorem hasLk_vals : ∀ (l : List (PyData × PyData)), hasLk l = hasLs (l.map (·.2))
  | [] => by simp [hasLk, hasLs]
  | (k, v) :: r => by simp [hasLk, hasLs, hasLk_vals r]
mutual
theorem Rq.readsN (I : Inv X pins σ H s) (k : Same F H) : ∀ {v : V} {d : PyData}, Rq F v d → hasL d = false → ∀ {u : Value}, RelV v u → ∃ as, Reads s.heap u d as ∧ sysModules ∉ as
  | _, _, .non, _, _, r => by cases r; exact ⟨_, .none, by simp⟩
  | _, _, .bl b, _, _, r => by cases r; exact ⟨_, .bool b, by simp⟩
  | _, _, .int i, _, _, r => by obtain ⟨t, rfl⟩ := r; exact ⟨_, .int i t, by simp⟩
  | _, _, .str x, _, _, r => by obtain ⟨t, rfl⟩ := r; exact ⟨_, .str x t, by simp⟩
  | _, _, .lst e h, n, _, r => by simp [hasL] at n
  | _, _, @Rq.tup _ a xs ds e h, n, _, r => by
    cases r
    obtain ⟨its, rv, ⟨o, ho, hc, c, hd⟩, _⟩ := I.tuple (.inl (.inl (k _ _ e)))
    obtain ⟨as, q1, q2⟩ := RqAll.readsN I k h (by simpa [hasL] using n) rv
    exact ⟨_, .tuple ho hc hd q1, q2⟩
  | _, _, @Rq.dct _ a kvs ds e hk h, n, _, r => by
    cases r
    obtain ⟨_, hs, vs, kv, o, es, ep, ho, hx, hd, _, hp, _⟩ := (show ObjOk X.prog X.w H s.heap a (.dK kvs) from I.hok a _ (k _ _ e))
    obtain ⟨as, q1, q2⟩ := RqAll.readsN I k h (by rw [← hasLk_vals]; simpa [hasL] using n) (kv_vals kv)
    have e1 : ReadsAll s.heap (es.toList.map (·.key)) (ds.map (·.1)) [] := by
      rw [hk, ← kv_keys kv]
      exact keys_read hp
    have e2 : ReadsAll s.heap (es.toList.map (·.val)) (ds.map (·.2)) as := by
      rw [vals_of_pairs hp]
      exact q1
    refine ⟨_, .dict ho hx.1 hd e1 e2, fun z => ?_⟩
    rcases List.mem_cons.mp z with y | y
    · rw [← y] at hs
      simp at hs
    · exact q2 (by simpa using y)
theorem RqAll.readsN (I : Inv X pins σ H s) (k : Same F H) : ∀ {vs : List V} {ds : List PyData}, RqAll F vs ds → hasLs ds = false → ∀ {us : List Value}, Vals vs us → ∃ as, ReadsAll s.heap us ds as ∧ sysModules ∉ as
  | _, _, .nil, _, _, r => by cases r; exact ⟨_, .nil, by simp⟩
  | _, _, .cons (d := d) (ds := ds) h1 h2, n, _, r => by
    have n' : hasL d = false ∧ hasLs ds = false := by simpa [hasLs] using n
    cases r with
    | cons r1 r2 =>
      obtain ⟨as, q1, n1⟩ := Rq.readsN I k h1 n'.1 r1
      obtain ⟨bs, q2, n2⟩ := RqAll.readsN I k h2 n'.2 r2
      exact ⟨_, .cons q1 q2, fun z => (List.mem_append.mp z).elim n1 n2⟩
end
theorem reads_top (I : Inv X pins σ H s) (k : Same F H) {v : V} {d : PyData} (h : Rq F v d) {u : Value} (r : RelV v u) (nd : d.hasDict = false ∨ hasL d = false) : ∃ as, Reads s.heap u d as ∧ (d.hasDict = true → sysModules ∉ as) := by
  rcases nd with nd | nd
  · obtain ⟨as, q⟩ := h.reads I k r
    exact ⟨as, q, fun z => by rw [nd] at z; cases z⟩
  · obtain ⟨as, q, n⟩ := h.readsN I k nd r
    exact ⟨as, q, fun _ => n⟩
end
/-- repr(x), x data in F -/
def rReprQ : List V → Hp → VK → Prop := fun xs H Q => ∃ (F : Hp) (v : V) (d : PyData), Same F H ∧ xs = [v] ∧ Rq F v d ∧ OkR d ∧ Q (.str d.shown) H
theorem call_reprQ {X : Cx} (hg : X.A.guards = some []) (hu : X.A.units + 65 < cLine) : CallR X (.builtin "repr") rReprQ := by
  intro pins s σ H xs us Q I r h
  obtain ⟨F, v, d, k, rfl, hr, ⟨hs, hd, nd, hz⟩, q⟩ := h
  cases r with
  | cons r1 rr =>
    cases rr
    rename_i u
    have fin : ∀ {t : Tok} {s' : Shared}, Inv X pins σ H s' → EP X pins σ Q (.str d.shown t) s' := fun {t s'} J => ⟨.str d.shown, H, J, ⟨t, rfl⟩, q⟩
    obtain ⟨as, rd, nm⟩ := reads_top I k hr r1 nd
    cases hr with
    | non =>
      cases r1
      exact PySem.P.repr_of_none (by simpa [PyData.shown] using fin (I.tok _))
    | bl b =>
      cases r1
      exact PySem.P.repr_of_bool (by simpa [PyData.shown] using fin (I.tok _))
    | int i =>
      obtain ⟨t, rfl⟩ := r1
      refine PySem.P.repr_of_int (by simpa [PyData.showable] using hs) (by simpa [PyData.shown] using fin (I.tok _))
    | str x =>
      obtain ⟨t, rfl⟩ := r1
      refine PySem.P.repr_of_str (by simpa [PyData.shown] using fin (I.tok _)) (by simpa [PyData.shown] using hz)
    | lst e hh =>
      cases r1
      exact repr_of_reads' rd hs nm hg (by omega) (fun _ _ e => e) (fun h' u tk hk => fin (I.kept hk)) hz
    | tup e hh =>
      cases r1
      exact repr_of_reads' rd hs nm hg (by omega) (fun _ _ e => e) (fun h' u tk hk => fin (I.kept hk)) hz
    | dct e hk hh =>
      cases r1
      exact repr_of_reads' rd hs nm hg (by omega) (fun _ _ e => e) (fun h' u tk hk => fin (I.kept hk)) hz
section
variable {X : Cx} {c : Cc} {W : WX}
def RB (c : Cc) (r : List V → Hp → VK → Prop) (pr : PB) : Prop := ∀ (H0 F0 : Hp) (env : Ev) (F : Hp) (σ : St) (H : Hp) (vs : List V) (ss : List Sl) (R : Sl → Prop) (Q : VK), Rel c H0 F0 env F σ H → RelSs F vs ss → pr ss R → Fin c H0 F0 env F σ R Q → r vs H Q
theorem rd_B {r : List V → Hp → VK → Prop} {pr : PB} {ta : TA} {pa : PTA} (hr : RB c r pr) (ha : RdA c W ta pa) : Rd c W (tCB r ta) (pB pr pa) := by
  intro H0 F0 env F σ H R E Q J L hp fin
  refine ha _ _ _ _ _ _ _ _ _ J L hp fun vs ss F1 H1 J1 k1 r1 h1 => ?_
  exact hr _ _ _ _ _ _ _ _ _ _ J1 r1 h1 fun v s F2 H2 J2 k2 r2 q => fin v s F2 H2 J2 (same_trans k1 k2) r2 q
theorem pu_callB {id : String} {r : List V → Hp → VK → Prop} {pr : PB} {x : Str} {p pos : Pos} {e : Expr} {es : List Expr} {pa : PTA} (hc : CallR X (.builtin id) r) (hr : RB c r pr) (hm : X.mg x = none) (hv : bootBuiltins x = some (.builtin id)) (ha : PuA X c W (e :: es) pa) (hg : Gl X x := by rfl) (hn : x ≠ "__name__" := by decide) (hdb : (x == ("__debug__" : Str)) = false := by decide)
    (he : starEach (e :: es) X.env = (false, eval e X.env) :: starEach es X.env := by rfl) (hpl : (backTo pos (starEach es X.env)).any (·.1) = false := by rfl) : PuE X c W (.Call (.Name x p) (e :: es) [] pos) (pB pr pa) := by
  obtain ⟨ta, ha, ra⟩ := ha
  exact ⟨_, pe_callB hc hg hm hv ha hn hdb he hpl, rd_B hr ra⟩
theorem pu_callTy {id : String} {r : List V → Hp → VK → Prop} {pr : PB} {x : Str} {p pos : Pos} {e : Expr} {es : List Expr} {pa : PTA} (hc : CallR X (.type id) r) (hr : RB c r pr) (hm : X.mg x = none) (hv : bootBuiltins x = some (.type id)) (ha : PuA X c W (e :: es) pa) (hg : Gl X x := by rfl) (hn : x ≠ "__name__" := by decide) (hdb : (x == ("__debug__" : Str)) = false := by decide)
    (he : starEach (e :: es) X.env = (false, eval e X.env) :: starEach es X.env := by rfl) (hpl : (backTo pos (starEach es X.env)).any (·.1) = false := by rfl) : PuE X c W (.Call (.Name x p) (e :: es) [] pos) (pB pr pa) := by
  obtain ⟨ta, ha, ra⟩ := ha
  exact ⟨_, pe_callTy hc hg hm hv ha hn hdb he hpl, rd_B hr ra⟩
theorem pu_callF {id : String} {r : List V → Hp → VK → Prop} {pr : PB} {x : Str} {p pos : Pos} {e : Expr} {es : List Expr} {pa : PTA} (hc : CallR X (.builtin id) r) (hr : RB c r pr) (hm : X.mg x = some (.builtin id)) (ha : PuA X c W (e :: es) pa) (hg : Gl X x := by rfl) (hdb : (x == ("__debug__" : Str)) = false := by decide)
    (he : starEach (e :: es) X.env = (false, eval e X.env) :: starEach es X.env := by rfl) (hpl : (backTo pos (starEach es X.env)).any (·.1) = false := by rfl) : PuE X c W (.Call (.Name x p) (e :: es) [] pos) (pB pr pa) := by
  obtain ⟨ta, ha, ra⟩ := ha
  exact ⟨_, pe_callBfun hc hg hm ha hdb he hpl, rd_B hr ra⟩
theorem rs1 {F : Hp} {vs : List V} {s : Sl} (r : RelSs F vs [s]) : ∃ v, vs = [v] ∧ RelS F v s := by
  cases r with
  | cons a b => cases b; exact ⟨_, rfl, a⟩
theorem rs2 {F : Hp} {vs : List V} {s t : Sl} (r : RelSs F vs [s, t]) : ∃ v w, vs = [v, w] ∧ RelS F v s ∧ RelS F w t := by
  cases r with
  | cons a b =>
    obtain ⟨w, rfl, r2⟩ := rs1 b
    exact ⟨_, _, rfl, a, r2⟩
/-- the shape that a built-in asks -/
theorem bInt_d {ss : List Sl} {R : Sl → Prop} (h : bInt ss R) : (∃ i, ss = [.d (.int i)] ∧ R (.d (.int i))) ∨ ∃ b, ss = [.d (.bool b)] ∧ R (.d (.int (if b = true then 1 else 0))) := by
  unfold bInt at h
  split at h
  · exact .inl ⟨_, rfl, h⟩
  · exact .inr ⟨_, rfl, h⟩
  · exact h.elim
theorem rb_int : RB c rInt bInt := by
  intro H0 F0 env F σ H vs ss R Q J r h fin
  rcases bInt_d h with ⟨i, rfl, q⟩ | ⟨b, rfl, q⟩
  · obtain ⟨v, rfl, rv⟩ := rs1 r
    cases rv
    exact .inl ⟨i, rfl, fin _ (.d _) F H J (same_refl F) (Rq.int i) q⟩
  · obtain ⟨v, rfl, rv⟩ := rs1 r
    cases rv
    exact .inr ⟨b, rfl, fin _ (.d _) F H J (same_refl F) (Rq.int _) q⟩
def rAbs : List V → Hp → VK → Prop := fun xs H Q => ∃ i, xs = [.int i] ∧ Q (.int (if i < 0 then -i else i)) H
theorem c_abs : CallR X (.builtin "abs") rAbs := call_abs
theorem rb_abs : RB c rAbs bAbs := by
  intro H0 F0 env F σ H vs ss R Q J r h fin
  unfold bAbs at h
  split at h
  · rename_i i
    obtain ⟨v, rfl, rv⟩ := rs1 r
    cases rv
    refine ⟨i, rfl, fin _ (.d _) F H J (same_refl F) (?_ : Rq F _ _) h⟩
    rw [show (if i < 0 then -i else i) = ((i.natAbs : Nat) : Int) by split <;> omega]
    exact Rq.int _
  · exact h.elim
theorem rb_gcd : RB c rGcd bGcd := by
  intro H0 F0 env F σ H vs ss R Q J r h fin
  unfold bGcd at h
  split at h
  · rename_i i j
    obtain ⟨v, w, rfl, rv, rw⟩ := rs2 r
    cases rv
    cases rw
    exact ⟨i, j, rfl, fin _ (.d _) F H J (same_refl F) (Rq.int _) h⟩
  · exact h.elim
theorem rb_len {K : PySem.W.Frag} : RB c (rLenK K) bLen := by
  intro H0 F0 env F σ H vs ss R Q J r h fin
  unfold bLen at h
  split at h
  · obtain ⟨v, rfl, rv⟩ := rs1 r
    cases rv with
    | tup e rr => exact ⟨_, _, rfl, .inr (sqT (J.b.sub _ _ e)), fin _ (.d _) F H J (same_refl F) (Rq.int _) (by rw [rr.len]; exact h)⟩
  · obtain ⟨v, rfl, rv⟩ := rs1 r
    cases rv with
    | lst e rr => exact ⟨_, _, rfl, .inl (sqL (J.b.sub _ _ e)), fin _ (.d _) F H J (same_refl F) (Rq.int _) (by rw [rr.len]; exact h)⟩
  · exact h.elim
theorem rb_list {K : PySem.W.Frag} : RB c (rListK K) bList := by
  intro H0 F0 env F σ H vs ss R Q J r h fin
  unfold bList at h
  split at h
  · obtain ⟨v, rfl, rv⟩ := rs1 r
    cases rv with
    | @tup a xs ds e rr =>
      refine ⟨_, _, rfl, .inr (sqT (J.b.sub _ _ e)), fun p hn => ?_⟩
      have k2 : Same F (upd F p (.lst xs)) := same_upd (J.b.fnone hn)
      exact fin (.ref p) (.d _) _ _ (J.alloc hn _) k2 (Rq.lst upd_same (rr.same k2)) h
  · obtain ⟨v, rfl, rv⟩ := rs1 r
    cases rv with
    | @lst a xs ds e rr =>
      refine ⟨_, _, rfl, .inl (sqL (J.b.sub _ _ e)), fun p hn => ?_⟩
      have k2 : Same F (upd F p (.lst xs)) := same_upd (J.b.fnone hn)
      exact fin (.ref p) (.d _) _ _ (J.alloc hn _) k2 (Rq.lst upd_same (rr.same k2)) h
  · exact h.elim
def rTupK (K : PySem.W.Frag) : List V → Hp → VK → Prop := fun xs H Q => ∃ p ys, xs = [.ref p] ∧ ((SqL K H p ys ∧ ∀ l, H l = none → Q (.ref l) (upd H l (.tup ys))) ∨ (SqT K H p ys ∧ Q (.ref p) H))
theorem c_tuple : CallR X (.type "tuple") (rTupK X.K) := call_tuple_of
theorem rb_tuple {K : PySem.W.Frag} : RB c (rTupK K) bTuple := by
  intro H0 F0 env F σ H vs ss R Q J r h fin
  unfold bTuple at h
  split at h
  · obtain ⟨v, rfl, rv⟩ := rs1 r
    cases rv with
    | @tup a xs ds e rr => exact ⟨_, _, rfl, .inr ⟨sqT (J.b.sub _ _ e), fin (.ref a) (.d _) F H J (same_refl F) (Rq.tup e rr) h⟩⟩
  · obtain ⟨v, rfl, rv⟩ := rs1 r
    cases rv with
    | @lst a xs ds e rr =>
      refine ⟨_, _, rfl, .inl ⟨sqL (J.b.sub _ _ e), fun p hn => ?_⟩⟩
      have k2 : Same F (upd F p (.tup xs)) := same_upd (J.b.fnone hn)
      exact fin (.ref p) (.d _) _ _ (J.alloc hn _) k2 (Rq.tup upd_same (rr.same k2)) h
  · exact h.elim
theorem rb_repr : RB c rReprQ bRepr := by
  intro H0 F0 env F σ H vs ss R Q J r h fin
  unfold bRepr at h
  split at h
  · obtain ⟨v, rfl, rv⟩ := rs1 r
    exact ⟨F, v, _, J.b.sub, rfl, rv, h.1, fin _ (.d _) F H J (same_refl F) (Rq.str _) h.2⟩
  · exact h.elim
/-- all(l), l of bools -/
def boolsOf : List PyData → Option (List Bool)
  | [] => some []
  | .bool b :: l => (boolsOf l).map (b :: ·)
  | _ :: _ => none
def bAll : PB := fun ss R => match ss with
  | [.d (.list ds)] => ∃ bs, boolsOf ds = some bs ∧ R (.d (.bool (bs.all id)))
  | _ => False
theorem boolsOf_v {F : Hp} : ∀ {vs : List V} {ds : List PyData} {bs : List Bool}, RqAll F vs ds → boolsOf ds = some bs → vs = bs.map V.bl
  | _, _, bs, .nil, h => by cases h; rfl
  | _, _, bs, .cons a b, h => by
    cases a <;> simp [boolsOf] at h
    obtain ⟨l, h1, h2⟩ := h
    subst h2
    rw [boolsOf_v b h1]
    rfl
theorem rb_all {K : PySem.W.Frag} : RB c (rAll K) bAll := by
  intro H0 F0 env F σ H vs ss R Q J r h fin
  unfold bAll at h
  split at h
  · obtain ⟨v, rfl, rv⟩ := rs1 r
    obtain ⟨bs, e1, q⟩ := h
    cases rv with
    | @lst a xs ds e rr =>
      have ee := boolsOf_v rr e1
      subst ee
      exact ⟨a, bs, rfl, sqL (J.b.sub _ _ e), fin _ (.d _) F H J (same_refl F) (Rq.bl _) q⟩
  · exact h.elim

/-! ### isinstance -/
theorem rq_ty {F H : Hp} {K : PySem.W.Frag} (k : Same F H) {v : V} {d : PyData} (h : Rq F v d) : TyX K H v (.type (tyN d)) := by
  cases h with
  | non => exact .base .non
  | bl b => exact .base (.bl b)
  | int i => exact .base (.int i)
  | str x => exact .base (.str x)
  | lst e _ => exact .base (.lst (k _ _ e))
  | tup e _ => exact .base (.tup (k _ _ e))
  | dct e _ _ => exact .base (.dK (k _ _ e))
def tyNames : List String := ["NoneType", "bool", "int", "str", "list", "tuple", "dict"]
theorem tyN_mem (d : PyData) : tyN d ∈ tyNames := by cases d <;> simp [tyN, tyNames]
/-- the answers of isinstance for the class t -/
def IsiTab (t : String) : Prop := ∀ n ∈ tyNames, kitB n t = some (n == t || (t == "int" && n == "bool"))
theorem isi_int : IsiTab "int" := by unfold IsiTab; decide +kernel
theorem isi_bool : IsiTab "bool" := by unfold IsiTab; decide +kernel
theorem isi_str : IsiTab "str" := by unfold IsiTab; decide +kernel
theorem isi_tuple : IsiTab "tuple" := by unfold IsiTab; decide +kernel
theorem isi_list : IsiTab "list" := by unfold IsiTab; decide +kernel
theorem isi_dict : IsiTab "dict" := by unfold IsiTab; decide +kernel
theorem IsiTab.at {t : String} (h : IsiTab t) {K : PySem.W.Frag} (d : PyData) : PySem.W.kitOne K (.type (tyN d)) (.type t) = some (isTy t d) := kit_ty (h _ (tyN_mem d))
def uIsi (t : String) : Sl → (Sl → Prop) → Prop := fun x R => match x with
  | .d x => R (.d (.bool (isTy t x)))
  | _ => False
def uIsi2 (t u : String) : Sl → (Sl → Prop) → Prop := fun x R => match x with
  | .d x => R (.d (.bool (isTy t x || isTy u x)))
  | _ => False
theorem pu_isi {t : String} {e : Expr} {p q pos : Pos} {x : Str} {pa : PTE} (hT : IsiTab t) (hm : X.mg "isinstance" = none) (hm2 : X.mg x = none) (hv : bootBuiltins x = some (.type t)) (ha : PuE X c W e pa) (hg : Gl X "isinstance" := by rfl) (hg2 : Gl X x := by rfl) (hn : x ≠ "__name__" := by decide) (hdb : (x == ("__debug__" : Str)) = false := by decide)
    (h1 : starEach [e, .Name x q] X.env = (false, eval e X.env) :: starEach [.Name x q] X.env := by rfl) (h2 : starEach [Expr.Name x q] X.env = (false, eval (.Name x q) X.env) :: starEach [] X.env := by rfl) (hpl : (backTo pos (starEach [Expr.Name x q] X.env)).any (·.1) = false := by rfl) :
    PuE X c W (.Call (.Name "isinstance" p) [e, .Name x q] [] pos) (pUn (uIsi t) pa) := by
  obtain ⟨ta, ha, ra⟩ := ha
  refine ⟨_, pe_callB call_isi hg hm (by decide +kernel) (pa_cons ha (pa_cons (pe_bltn (v := .ty t) hg2 hm2 hv rfl hn hdb) pa_nil h2) h1) (by decide) (by decide) h1 hpl, fun H0 F0 env F σ H R E Q J L hp fin => ?_⟩
  refine ra _ _ _ _ _ _ _ _ _ J L hp fun v s F1 H1 J1 k1 r1 q1 => ?_
  cases s with
  | d x => exact ⟨v, .ty t, _, _, _, rfl, .ty t, rq_ty J1.b.sub r1, hT.at x, fin _ (.d _) F1 H1 J1 k1 (Rq.bl _) q1⟩
  | _ => exact q1.elim
theorem pu_isi2 {t u : String} {e : Expr} {p q q2 q3 pos : Pos} {k : Nat} {x y : Str} {pa : PTE} (hT : IsiTab t) (hU : IsiTab u) (hm : X.mg "isinstance" = none) (hm2 : X.mg x = none) (hv : bootBuiltins x = some (.type t)) (hm3 : X.mg y = none) (hv3 : bootBuiltins y = some (.type u)) (ha : PuE X c W e pa)
    (hg : Gl X "isinstance" := by rfl) (hg2 : Gl X x := by rfl) (hg3 : Gl X y := by rfl) (hn : x ≠ "__name__" := by decide) (hn3 : y ≠ "__name__" := by decide) (hdb : (x == ("__debug__" : Str)) = false := by decide) (hdb3 : (y == ("__debug__" : Str)) = false := by decide)
    (h1 : starEach [e, .Tuple [.Name x q, .Name y q2] k q3] X.env = (false, eval e X.env) :: starEach [.Tuple [.Name x q, .Name y q2] k q3] X.env := by rfl) (hpl : (backTo pos (starEach [Expr.Tuple [.Name x q, .Name y q2] k q3] X.env)).any (·.1) = false := by rfl)
    (h2 : starEach [Expr.Tuple [.Name x q, .Name y q2] k q3] X.env = (false, eval (Expr.Tuple [.Name x q, .Name y q2] k q3) X.env) :: starEach [] X.env := by rfl) (h3 : starEach [Expr.Name x q, .Name y q2] X.env = (false, eval (.Name x q) X.env) :: starEach [.Name y q2] X.env := by rfl)
    (h4 : starEach [Expr.Name y q2] X.env = (false, eval (.Name y q2) X.env) :: starEach [] X.env := by rfl) :
    PuE X c W (.Call (.Name "isinstance" p) [e, .Tuple [.Name x q, .Name y q2] k q3] [] pos) (pUn (uIsi2 t u) pa) := by
  obtain ⟨ta, ha, ra⟩ := ha
  refine ⟨_, pe_callB call_isiT hg hm (by decide +kernel) (pa_cons ha (pa_cons (pe_tup (pa_cons (pe_bltn (v := .ty t) hg2 hm2 hv rfl hn hdb) (pa_cons (pe_bltn (v := .ty u) hg3 hm3 hv3 rfl hn3 hdb3) pa_nil h4) h3)) pa_nil h2) h1) (by decide) (by decide) h1 hpl, fun H0 F0 env F σ H R E Q J L hp fin => ?_⟩
  refine ra _ _ _ _ _ _ _ _ _ J L hp fun v s F1 H1 J1 k1 r1 q1 => ?_
  cases s with
  | d x =>
    refine ⟨by show 2 ≤ sizeLine; decide, fun p hn => ?_⟩
    have k2 : Same F1 (upd F1 p (.tup [.ty t, .ty u])) := same_upd (J1.b.fnone hn)
    refine ⟨v, p, [.ty t, .ty u], .type (tyN x), [.type t, .type u], _, rfl, upd_same, .cons (.ty t) (.cons (.ty u) .nil), rq_ty (J1.alloc hn _).b.sub (r1.same k2), ?_, fin _ (.d (.bool (isTy t x || isTy u x))) _ _ (J1.alloc hn _) (same_trans k1 k2) (Rq.bl _) q1⟩
    refine kitAny_cons (hT.at x) (fun e1 => ?_) (fun e1 => by rw [e1]; rfl)
    rw [e1]
    refine kitAny_cons (hU.at x) (fun e2 => ?_) (fun e2 => by rw [e2]; rfl)
    rw [e2]
    exact kitAny_nil
  | _ => exact q1.elim
end
end Px
namespace Px
open PySem PySem.Spec PyProof.Rows L2 Lx
/-! ### defs and their calls -/
def lift (c : Cc) (n : Nat) (sp : PSp) : Sp := fun vs H Q E => ∃ (F : Hp) (ss : List Sl) (R : Sl → Prop) (EX : Addr → FD → Prop), Bas c H F F H ∧ RelSs F vs ss ∧ ss.length = n ∧ sp ss R EX ∧
  (∀ (v : V) (s : Sl) (F' H' : Hp), Bas c H F F' H' → RelS F' v s → R s → Q v H') ∧ (∀ (C : Addr) (d : Option Addr) (ds : FD) (F' H' : Hp), Bas c H F F' H' → ExcD F' d ds → EX C ds → E (.ref C) d H')
def startP (N : List Str) (ss : List Sl) : Ev := ss.map some ++ List.replicate (N.length - ss.length) none
def pdOf (R : Sl → Prop) (EX : Addr → FD → Prop) : PD := ⟨fun _ => R (.d .none), R, fun _ => False, fun _ => False, fun _ => EX⟩
def WF (E : XK) : WX := fun cls d _ H' => E cls d H'
theorem RelSs.noown {F : Hp} : ∀ {vs : List V} {ss : List Sl}, RelSs F vs ss → ∀ (i : Nat) (xs : List PyData), ss[i]? ≠ some (.own xs)
  | _, _, .nil, i, xs => by simp
  | _, _, .cons a b, 0, xs => fun h => by
    simp at h
    subst h
    exact a
  | _, _, .cons a b, i + 1, xs => fun h => b.noown i xs (by simpa using h)
theorem RelSs.get {F : Hp} : ∀ {vs : List V} {ss : List Sl} {i : Nat} {s : Sl}, RelSs F vs ss → ss[i]? = some s → ∃ v, vs[i]? = some v ∧ RelS F v s
  | _, _, i, s, .nil, h => by simp at h
  | _, _, 0, s, .cons a b, h => by
    simp at h
    subst h
    exact ⟨_, rfl, a⟩
  | _, _, i + 1, s, .cons a b, h => by
    obtain ⟨v, e, r⟩ := b.get (i := i) (s := s) (by simpa using h)
    exact ⟨v, by simpa using e, r⟩
section
variable {P : Program} {w : World} {K : PySem.W.Frag} {mg : Str → Option Value} {base : Heap} {x : Str} {st : Stmt} {N ps : List Str} {k : Nat} {sp : PSp} {c : Cc}
theorem rel_start {H F : Hp} {vs : List V} {ss : List Sl} (B : Bas c H F F H) (r : RelSs F vs ss) (N : List Str) : Rel c H F (startP N ss) F (L2.start N vs) H := by
  have own : ∀ (i : Nat) (xs : List PyData), (startP N ss)[i]? ≠ some (some (.own xs)) := fun i xs h => by
    unfold startP at h
    by_cases hi : i < ss.length
    · rw [List.getElem?_append_left (by simpa using hi), List.getElem?_map] at h
      cases e : ss[i]? with
      | none => rw [e] at h; cases h
      | some s =>
        rw [e] at h
        have h' : s = .own xs := Option.some.inj (Option.some.inj h)
        exact r.noown i xs (by rw [e, h'])
    · rw [List.getElem?_append_right (by simpa using Nat.le_of_not_lt hi)] at h
      have := List.mem_of_getElem? h
      rw [List.mem_replicate] at this
      cases this.2
  refine ⟨B, ?_, fun i ov s e1 e2 => ?_, fun i j q xs ys e1 _ _ _ => absurd e1 (own i xs)⟩
  · unfold L2.start startP
    simp [r.len]
  · cases s with
    | none => exact True.intro
    | some s =>
      unfold startP at e2
      by_cases hi : i < ss.length
      · rw [List.getElem?_append_left (by simpa using hi), List.getElem?_map] at e2
        cases e : ss[i]? with
        | none => rw [e] at e2; cases e2
        | some s' =>
          rw [e] at e2
          have h' : s' = s := Option.some.inj (Option.some.inj e2)
          subst h'
          obtain ⟨v, e3, rv⟩ := r.get e
          unfold L2.start at e1
          rw [List.getElem?_append_left (by rw [List.length_map, r.len]; exact hi), List.getElem?_map, e3] at e1
          cases e1
          cases s' with
          | d x => exact ⟨v, rfl, rv⟩
          | raw u => exact congrArg some rv
          | exc p C ds => exact ⟨congrArg some rv.1, rv.2⟩
          | obj C ds => exact ⟨rv.choose, congrArg some rv.choose_spec.1, rv.choose_spec.2⟩
          | slf x C ds => exact rv.elim
          | ownT x => exact rv.elim
          | tab x => exact ⟨rv.choose, congrArg some rv.choose_spec.1, rv.choose_spec.2⟩
          | own xs => exact rv.elim
      · rw [List.getElem?_append_right (by simpa using Nat.le_of_not_lt hi)] at e2
        have := List.mem_of_getElem? e2
        rw [List.mem_replicate] at this
        cases this.2
/-- a def by its pure reading -/
theorem keepP (F : Has K mg x st) (b : BindsBy x st ps) (S : FnScope N ps (defScope st))
    (hbody : ∀ (f : Addr) (cdv : Value) (A : Around) (outer : List Env) (s : Shared) (H : Hp) (E : XK), Room k (A.deeper (envOfC x (defScope st) s.heap.objs.size f cdv)) →
      (A.deeper (envOfC x (defScope st) s.heap.objs.size f cdv)).guards = some [] →
      ∃ pt, PuSs (cxOf (L2.CX P w) P w K mg base N x (defScope st) f cdv A outer s H E) c (WF E) (defBody st) pt ∧ ∀ ss R EX, ss.length = ps.length → sp ss R EX → pt (pdOf R EX) (startP N ss)) :
    Keeps P w K mg base (L2.CX P w) (k + 1) x ps (lift c ps.length sp) := by
  refine keepX F b S (fun vs H Q E h => ?_) fun f cdv A outer s H vs Q E hr hg h => ?_
  · obtain ⟨F, ss, R, EX, _, rs, hl, _⟩ := h
    rw [rs.len, hl]
  · obtain ⟨F, ss, R, EX, B, rs, hl, hp, hq, he⟩ := h
    obtain ⟨pt, ⟨t, ht, hrd⟩, hpure⟩ := hbody f cdv A outer s H E hr hg
    refine ⟨t, ht, hrd H F (startP N ss) F (L2.start N vs) H _ (pdOf R EX) (rel_start B rs N) ⟨?_, ?_, ?_, ?_, ?_⟩ (hpure ss R EX hl hp)⟩
    · exact fun env' F' σ' H' J _ q => hq .non (.d .none) F' H' J.b Rq.non q
    · exact fun v s F' H' B' rv q => hq v s F' H' B' rv q
    · exact fun env' F' σ' H' J _ q => q.elim
    · exact fun env' F' σ' H' J _ q => q.elim
    · exact fun env' F' σ' H' C d ds J x q => he C d ds F' H' J.b x q
end
section
variable {X : Cx} {c : Cc} {W : WX}
def pCalln (n : Nat) (sp : PSp) (a : PTA) : PTE := fun env R E => a env (fun ss => ss.length = n ∧ sp ss R (E env)) E
theorem rd_call {n : Nat} {sp : PSp} {ta : TA} {pa : PTA} (ha : RdA c W ta pa) : Rd c W (tCallS (lift c n sp) (WE W) ta) (pCalln n sp pa) := by
  intro H0 F0 env F σ H R E Q J L hp fin
  refine ha _ _ _ _ _ _ _ _ _ J L hp fun vs ss F1 H1 J1 k1 r1 h1 => ?_
  refine ⟨F1, ss, R, E env, J1.b.here, r1, h1.1, h1.2, fun v s F' H' B rv q => ?_, fun C d ds F' H' B x q => ?_⟩
  · exact fin v s F' H' (J1.after B) (same_trans k1 B.fF) rv q
  · exact L env F' σ H' C d ds (J1.after B) x q
theorem pu_call {j k : Nat} {ps : List Str} {sp : PSp} {x : Str} {q pos : Pos} {e : Expr} {es : List Expr} {pa : PTA} (D : Keeps X.prog X.w X.K X.mg X.base (L2.CX X.prog X.w) j x ps (lift c ps.length sp)) (hr : Room k X.A) (hg : X.A.guards = some []) (tk : Takes X W) (ha : PuA X c W (e :: es) pa)
    (hjk : j ≤ k := by decide) (hgl : Gl X x := by rfl) (hdb : (x == ("__debug__" : Str)) = false := by decide) (he : starEach (e :: es) X.env = (false, eval e X.env) :: starEach es X.env := by rfl)
    (hpl : (backTo pos (starEach es X.env)).any (·.1) = false := by rfl) : PuE X c W (.Call (.Name x q) (e :: es) [] pos) (pCalln ps.length sp pa) := by
  obtain ⟨ta, ha, ra⟩ := ha
  exact ⟨_, pcX D hr hg tk ha hjk hgl hdb he hpl, rd_call ra⟩

/-! ### statements -/
theorem pus_nil : PuSs X c W [] psNext := ⟨_, pss_nil, fun H0 F0 env F σ H D P J L h => L.nx env F σ H J (same_refl F) h⟩
theorem Lk.with {H0 F0 F F' : Hp} {D : Ends} {P : PD} (L : Lk c W H0 F0 F D P) (k : Same F F') : Lk c W H0 F0 F' D P :=
  ⟨fun e G s H' J s' q => L.nx e G s H' J (same_trans k s') q, L.rt, fun e G s H' J s' q => L.bk e G s H' J (same_trans k s') q, fun e G s H' J s' q => L.ct e G s H' J (same_trans k s') q, L.ex⟩
theorem pus_cons {st : Stmt} {rest : List Stmt} {a b : PTS} (h1 : PuS X c W st a) (h2 : PuSs X c W rest b) : PuSs X c W (st :: rest) (psSeq a b) := by
  obtain ⟨t, h1, r1⟩ := h1
  obtain ⟨u, h2, r2⟩ := h2
  refine ⟨_, pss_cons h1 h2, fun H0 F0 env F σ H D P J L h => ?_⟩
  show t { D with nx := u D } σ H
  refine r1 _ _ _ _ _ _ _ { P with nx := b P } J ⟨fun env' F' σ' H' J' k q => ?_, L.rt, L.bk, L.ct, L.ex⟩ h
  exact r2 _ _ _ _ _ _ _ P J' (L.with k) q
theorem pus_one {st : Stmt} {a : PTS} (h1 : PuS X c W st a) : PuSs X c W [st] a := by
  obtain ⟨t, h1, r1⟩ := h1
  exact ⟨_, pss_one h1, r1⟩
theorem pus_set {i : Nat} {x : Str} {e : Expr} {pos pos' : Pos} {pa : PTE} (hN : X.N.Nodup) (ha : PuE X c W e pa) (hi : X.N[i]? = some x := by rfl) (hx : Loc X.env.scope x := by first | exact .inl rfl | exact .inr rfl) (hs : swapsWith e (some (.Name x pos')) pos.line X.env = pure false := by rfl) (hf : X.fn x = true ∨ X.env.scope.names.lookup x = some .local := by first | exact .inl rfl | exact .inr rfl | assumption) :
    PuS X c W (.Assign [.Name x pos'] e pos) (psSet i pa) := by
  obtain ⟨ta, ha, ra⟩ := ha
  refine ⟨_, ps_set hN hi hx ha hs hf, fun H0 F0 env F σ H D P J L h => ?_⟩
  refine ra _ _ _ _ _ _ _ _ _ J L.ex h fun v s F1 H1 J1 k1 r1 h1 => ?_
  exact L.nx _ F1 _ H1 (J1.set i r1) k1 h1
theorem pus_par {i j : Nat} {x y : Str} {a b : Expr} {pa : PTA} {px py pt pos : Pos} {kt k2 pt2} (hc : X.calm = true) (hN : X.N.Nodup) (ha : PuA X c W [a, b] pa) (hi : X.N[i]? = some x := by rfl) (hj : X.N[j]? = some y := by rfl) (hij : i ≠ j := by decide)
    (hx : X.env.scope.names.lookup x = some .local := by rfl) (hy : X.env.scope.names.lookup y = some .local := by rfl)
    (hw : swappedStores [.Tuple [.Name x px, .Name y py] kt pt] (.Tuple [a, b] k2 pt2) X.env = pure (some [x, y]) := by rfl)
    (hs : swapsWithSole [.Tuple [.Name x px, .Name y py] kt pt] (.Tuple [a, b] k2 pt2) pos.line X.env = pure false := by rfl) :
    PuS X c W (.Assign [.Tuple [.Name x px, .Name y py] kt pt] (.Tuple [a, b] k2 pt2) pos) (psPar i j pa) := by
  obtain ⟨ta, ha, ra⟩ := ha
  refine ⟨_, ps_par hc hN hi hj hij hx hy ha hw hs, fun H0 F0 env F σ H D P J L h => ?_⟩
  refine ra _ _ _ _ _ _ _ _ _ J L.ex h fun vs ss F1 H1 J1 k1 r1 h1 => ?_
  split at h1
  · obtain ⟨v, w, rfl, rv, rw⟩ := rs2 r1
    exact ⟨v, w, rfl, L.nx _ F1 _ H1 ((J1.set i rv).set j rw) k1 h1⟩
  · exact h1.elim
theorem pus_if {t : Expr} {a b : List Stmt} {pos : Pos} {pt : PTT} {pa pb : PTS} (hc : PuT X c W t pt) (ha : PuSs X c W a pa) (hb : PuSs X c W b pb) : PuS X c W (.If t a b pos) (psIf pt pa pb) := by
  obtain ⟨tc, hc, rc⟩ := hc
  obtain ⟨ta, ha, ra⟩ := ha
  obtain ⟨tb, hb, rb⟩ := hb
  refine ⟨_, ps_if hc ha hb, fun H0 F0 env F σ H D P J L h => ?_⟩
  refine rc _ _ _ _ _ _ _ _ _ J L.ex h fun x F1 H1 J1 k1 h1 => ?_
  cases x with
  | true => exact ra _ _ _ _ _ _ _ P J1 (L.with k1) (h1.1 rfl)
  | false => exact rb _ _ _ _ _ _ _ P J1 (L.with k1) (h1.2 rfl)
theorem pus_ret {e : Expr} {pos : Pos} {pa : PTE} (ha : PuE X c W e pa) : PuS X c W (.Return (some e) pos) (psRet pa) := by
  obtain ⟨ta, ha, ra⟩ := ha
  refine ⟨_, ps_ret ha, fun H0 F0 env F σ H D P J L h => ?_⟩
  exact ra _ _ _ _ _ _ _ _ _ J L.ex h fun v s F1 H1 J1 k1 r1 h1 => L.rt v s F1 H1 J1.b r1 h1
theorem pus_expr {e : Expr} {pos : Pos} {pa : PTE} (ha : PuE X c W e pa) (hs : swapsWith e none pos.line X.env = pure false := by rfl) : PuS X c W (.Expr e pos) (psDrop pa) := by
  obtain ⟨ta, ha, ra⟩ := ha
  refine ⟨_, ps_expr ha hs, fun H0 F0 env F σ H D P J L h => ?_⟩
  exact ra _ _ _ _ _ _ _ _ _ J L.ex h fun v s F1 H1 J1 k1 r1 h1 => L.nx env F1 σ H1 J1 k1 h1
theorem pus_cont {pos : Pos} : PuS X c W (.Continue pos) psCont := ⟨_, ps_continue, fun H0 F0 env F σ H D P J L h => L.ct env F σ H J (same_refl F) h⟩

/-! ### targets -/
abbrev PTG := Sl → Ev → (Ev → Prop) → Prop
abbrev PTGs := List PyData → Ev → (Ev → Prop) → Prop
/-- the target's reading; is: the slots that it may write -/
def RdG (c : Cc) (g : TG) (pg : PTG) (is : List Nat) : Prop := ∀ (H0 F0 : Hp) (env : Ev) (F : Hp) (σ : St) (H : Hp) (v : V) (s : Sl) (N : Ev → Prop) (Q : St → Hp → Prop), Rel c H0 F0 env F σ H → RelS F v s → pg s env N →
  (∀ (env' : Ev) (σ' : St), Rel c H0 F0 env' F σ' H → σ'.length = σ.length → (∀ j, j ∉ is → σ'[j]? = σ[j]?) → N env' → Q σ' H) → g v σ H Q
def RdGs (c : Cc) (g : TGs) (pg : PTGs) (is : List Nat) : Prop := ∀ (H0 F0 : Hp) (env : Ev) (F : Hp) (σ : St) (H : Hp) (vs : List V) (ds : List PyData) (N : Ev → Prop) (Q : St → Hp → Prop), Rel c H0 F0 env F σ H → RqAll F vs ds → pg ds env N →
  (∀ (env' : Ev) (σ' : St), Rel c H0 F0 env' F σ' H → σ'.length = σ.length → (∀ j, j ∉ is → σ'[j]? = σ[j]?) → N env' → Q σ' H) → g vs σ H Q
def PuG (X : Cx) (c : Cc) (tg : Expr) (pg : PTG) (is : List Nat) : Prop := ∃ g, PG X tg g ∧ RdG c g pg is
def PuGs (X : Cx) (c : Cc) (tgs : List Expr) (pg : PTGs) (is : List Nat) : Prop := ∃ g, PGs X tgs g ∧ RdGs c g pg is
def pgName (i : Nat) : PTG := fun s env N => N (env.set i (some s))
def pgNil : PTGs := fun ds env N => ds = [] ∧ N env
def pgCons (g : PTG) (gs : PTGs) : PTGs := fun ds env N => match ds with
  | d :: l => g (.d d) env fun env' => gs l env' N
  | [] => False
def pgTup (n : Nat) (gs : PTGs) : PTG := fun s env N => match s with
  | .d (.tuple ds) => ds.length = n ∧ gs ds env N
  | _ => False
theorem pug_name {i : Nat} {x : Str} {pos : Pos} (hN : X.N.Nodup) (hi : X.N[i]? = some x := by rfl) (hx : Loc X.env.scope x := by first | exact .inl rfl | exact .inr rfl) (hf : X.fn x = true ∨ X.env.scope.names.lookup x = some .local := by first | exact .inl rfl | exact .inr rfl | assumption) : PuG X c (.Name x pos) (pgName i) [i] := by
  refine ⟨_, pg_name hN hi hx hf, fun H0 F0 env F σ H v s N Q J r h k => ?_⟩
  exact k _ _ (J.set i r) (by rw [List.length_set]) (fun j hj => List.getElem?_set_ne fun z => hj (by rw [z]; exact List.mem_singleton_self _)) h
theorem pugs_nil : PuGs X c [] pgNil [] := ⟨_, pgs_nil, fun H0 F0 env F σ H vs ds N Q J r h k => by
  obtain ⟨e, h⟩ := h
  subst e
  cases r
  exact ⟨rfl, k env σ J rfl (fun _ _ => rfl) h⟩⟩
theorem pugs_cons {e : Expr} {es : List Expr} {pg : PTG} {pgs : PTGs} {is js : List Nat} (h1 : PuG X c e pg is) (h2 : PuGs X c es pgs js) (hs : (assignEach (e :: es) X.env).map (·.2) = assign e X.env :: (assignEach es X.env).map (·.2) := by rfl) :
    PuGs X c (e :: es) (pgCons pg pgs) (is ++ js) := by
  obtain ⟨g, h1, r1⟩ := h1
  obtain ⟨gs, h2, r2⟩ := h2
  refine ⟨_, pgs_cons h1 h2 hs, fun H0 F0 env F σ H vs ds N Q J r h k => ?_⟩
  cases r with
  | nil => exact h.elim
  | cons a b =>
    refine ⟨_, _, rfl, r1 _ _ _ _ _ _ _ (.d _) _ _ J a h fun env1 σ1 J1 l1 o1 h1 => ?_⟩
    refine r2 _ _ _ _ _ _ _ _ _ _ J1 b h1 fun env2 σ2 J2 l2 o2 h2 => ?_
    refine k env2 σ2 J2 (l2.trans l1) (fun j hj => ?_) h2
    rw [List.mem_append, not_or] at hj
    rw [o2 j hj.2, o1 j hj.1]
theorem pug_tup {es : List Expr} {k : Nat} {pos : Pos} {pgs : PTGs} {is : List Nat} {n : Nat} (hc : X.calm = true) (h : PuGs X c es pgs is) (hn : (assignEach es X.env).length = n := by rfl) (hst : (assignEach es X.env).findIdx? (·.1) = none := by rfl) : PuG X c (.Tuple es k pos) (pgTup n pgs) is := by
  obtain ⟨g, h, r⟩ := h
  refine ⟨_, pg_tup hc h hn hst, fun H0 F0 env F σ H v s N Q J rv hp k => ?_⟩
  unfold pgTup at hp
  split at hp
  · cases rv with
    | tup e rr => exact ⟨_, _, rfl, sqT (J.b.sub _ _ e), by rw [rr.len]; exact hp.1, r _ _ _ _ _ _ _ _ _ _ J rr hp.2 k⟩
  · exact hp.elim
def psAsg (a : PTE) (g : PTG) : PTS := fun P env => a env (fun s => g s env P.nx) P.ex
theorem pus_asg {tg e : Expr} {pos : Pos} {pa : PTE} {pg : PTG} {is : List Nat} (ha : PuE X c W e pa) (hg : PuG X c tg pg is) (hs : swapsWithSole [tg] e pos.line X.env = pure false := by rfl) (hw : swappedStores [tg] e X.env = pure none := by rfl)
    (h1 : (assignEach [tg] X.env).map (·.2) = [assign tg X.env] := by rfl) : PuS X c W (.Assign [tg] e pos) (psAsg pa pg) := by
  obtain ⟨ta, ha, ra⟩ := ha
  obtain ⟨g, hg, rg⟩ := hg
  refine ⟨_, ps_asg ha hg hs hw h1, fun H0 F0 env F σ H D P J L h => ?_⟩
  refine ra _ _ _ _ _ _ _ _ _ J L.ex h fun v s F1 H1 J1 k1 r1 h1 => ?_
  exact rg _ _ _ _ _ _ _ _ _ _ J1 r1 h1 fun env' σ' J' _ _ q => L.nx env' F1 σ' H1 J' k1 q

/-! ### loops -/
abbrev PTI := Ev → (List PyData → Prop) → XP → Prop
/-- the iterator gives these items, whatever else comes to the heap -/
structure Walk (c : Cc) (J : It) (F : Hp) (ds : List PyData) : Prop where
  stop : ∀ (H0 F0 : Hp) (env : Ev) (F' : Hp) (σ : St) (H : Hp), Rel c H0 F0 env F' σ H → Same F F' → J.stop ds.length H
  go : ∀ (H0 F0 : Hp) (env : Ev) (F' : Hp) (σ : St) (H : Hp) (i : Nat) (d : PyData), Rel c H0 F0 env F' σ H → Same F F' → ds[i]? = some d → J.go i H ∧ ∀ (x : V) (H3 : Hp), J.yld i H x H3 → ∃ F3, Rel c H0 F0 env F3 σ H3 ∧ Same F' F3 ∧ Rq F3 x d
def RdI (c : Cc) (W : WX) (wi : TI) (pi : PTI) : Prop := ∀ (H0 F0 : Hp) (env : Ev) (F : Hp) (σ : St) (H : Hp) (R : List PyData → Prop) (E : XP) (Q : It → Hp → Prop), Rel c H0 F0 env F σ H → LinkX c H0 F0 W E → pi env R E →
  (∀ (J : It) (F' H' : Hp) (ds : List PyData), Rel c H0 F0 env F' σ H' → Same F F' → Walk c J F' ds → R ds → Q J H') → wi σ H Q
def PuI (X : Cx) (c : Cc) (W : WX) (tg iter : Expr) (pi : PTI) : Prop := ∃ wi, PI X tg iter wi ∧ RdI c W wi pi
def pForL (g : PTG) (body : PTS) : List PyData → PD → Ev → Prop
  | [], P, env => P.nx env
  | d :: l, P, env => g (.d d) env fun env' => body { P with nx := pForL g body l P, ct := pForL g body l P, bk := P.nx } env'
def psFor (it : PTI) (g : PTG) (body : PTS) : PTS := fun P env => it env (fun ds => pForL g body ds P env) P.ex
theorem pus_for {tg iter : Expr} {body : List Stmt} {pos : Pos} {pi : PTI} {pg : PTG} {is : List Nat} {pb : PTS} (hp : PassesOwn (model X.prog X.w) X.A X.env X.xe) (hc : X.calm = true) (hi : PuI X c W tg iter pi) (hg : PuG X c tg pg is) (hb : PuSs X c W body pb)
    (hs : ∀ x, foldedSetIterable iter X.env x = pure x := by intro _; rfl) : PuS X c W (.For tg iter body [] pos) (psFor pi pg pb) := by
  obtain ⟨wi, hi, ri⟩ := hi
  obtain ⟨g, hg, rg⟩ := hg
  obtain ⟨tb, hb, rb⟩ := hb
  refine ⟨_, ps_for hp hc hi hg hb hs, fun H0 F0 env F σ H D P J L h => ?_⟩
  refine ri _ _ _ _ _ _ _ _ _ J L.ex h fun I F1 H1 ds J1 k1 wk h1 => ?_
  refine ⟨fun i m σ H => i + m = ds.length ∧ ∃ env' F', Rel c H0 F0 env' F' σ H ∧ Same F1 F' ∧ pForL pg pb (ds.drop i) P env', ⟨ds.length, by omega, env, F1, J1, same_refl F1, by simpa using h1⟩, ?_⟩
  rintro i m σ2 H2 ⟨hm, env2, F2, J2, k2, h2⟩
  cases m with
  | zero =>
    have hi : i = ds.length := by omega
    subst hi
    rw [List.drop_length] at h2
    exact .inl ⟨wk.stop _ _ _ _ _ _ J2 k2, L.nx env2 F2 σ2 H2 J2 (same_trans k1 k2) h2⟩
  | succ m =>
    have hi : i < ds.length := by omega
    have ed : ds.drop i = ds[i] :: ds.drop (i + 1) := List.drop_eq_getElem_cons hi
    rw [ed] at h2
    obtain ⟨go, yl⟩ := wk.go _ _ _ _ _ _ i ds[i] J2 k2 (List.getElem?_eq_getElem hi)
    refine .inr ⟨go, fun σ' H' => ∃ env' F', Rel c H0 F0 env' F' σ' H' ∧ Same F1 F' ∧ pForL pg pb (ds.drop (i + 1)) P env', fun σ' H' ⟨e', G', a, b, d⟩ => ⟨m, by omega, by omega, e', G', a, b, d⟩, fun x H3 hy => ?_⟩
    obtain ⟨F3, J3, k3, r3⟩ := yl x H3 hy
    refine rg _ _ _ _ _ _ _ (.d ds[i]) _ _ J3 r3 h2 fun env4 σ4 J4 _ _ h4 => ?_
    refine rb _ _ _ _ _ _ _ { P with nx := pForL pg pb (ds.drop (i + 1)) P, ct := pForL pg pb (ds.drop (i + 1)) P, bk := P.nx } J4 ⟨?_, L.rt, ?_, ?_, L.ex⟩ h4
    · exact fun e G s h J' k' q => ⟨e, G, J', same_trans k2 (same_trans k3 k'), q⟩
    · exact fun e G s h J' k' q => L.nx e G s h J' (same_trans k1 (same_trans k2 (same_trans k3 k'))) q
    · exact fun e G s h J' k' q => ⟨e, G, J', same_trans k2 (same_trans k3 k'), q⟩
def psWhile (t : PTT) (body : PTS) : PTS := fun P env => ∃ I : Nat → Ev → Prop, (∃ m, I m env) ∧ ∀ m env, I m env → t env (fun b => (b = true → body { P with nx := fun e => ∃ m', m' < m ∧ I m' e, ct := fun e => ∃ m', m' < m ∧ I m' e, bk := P.nx } env) ∧ (b = false → P.nx env)) P.ex
theorem pus_while {t : Expr} {body : List Stmt} {pos : Pos} {pt : PTT} {pb : PTS} (hp : PassesOwn (model X.prog X.w) X.A X.env X.xe) (hc : PuT X c W t pt) (hb : PuSs X c W body pb) : PuS X c W (.While t body [] pos) (psWhile pt pb) := by
  obtain ⟨tc, hc, rc⟩ := hc
  obtain ⟨tb, hb, rb⟩ := hb
  refine ⟨_, ps_while hp hc hb, fun H0 F0 env F σ H D P J L h => ?_⟩
  obtain ⟨I, ⟨m0, i0⟩, step⟩ := h
  refine ⟨fun m σ H => ∃ env' F', Rel c H0 F0 env' F' σ H ∧ Same F F' ∧ I m env', ⟨m0, env, F, J, same_refl F, i0⟩, ?_⟩
  rintro m σ2 H2 ⟨env2, F2, J2, k2, i2⟩
  refine rc _ _ _ _ _ _ _ _ _ J2 L.ex (step m env2 i2) fun b F3 H3 J3 k3 h3 => ?_
  cases b with
  | true =>
    refine ⟨fun σ' H' => ∃ env' F', Rel c H0 F0 env' F' σ' H' ∧ Same F F' ∧ ∃ m', m' < m ∧ I m' env', fun σ' H' ⟨e', G', a, b, m', lt, i'⟩ => ⟨m', lt, e', G', a, b, i'⟩, ?_⟩
    refine rb _ _ _ _ _ _ _ { P with nx := fun e => ∃ m', m' < m ∧ I m' e, ct := fun e => ∃ m', m' < m ∧ I m' e, bk := P.nx } J3 ⟨?_, L.rt, ?_, ?_, L.ex⟩ (h3.1 rfl)
    · exact fun e G s h J' k' q => ⟨e, G, J', same_trans k2 (same_trans k3 k'), q⟩
    · exact fun e G s h J' k' q => L.nx e G s h J' (same_trans k2 (same_trans k3 k')) q
    · exact fun e G s h J' k' q => ⟨e, G, J', same_trans k2 (same_trans k3 k'), q⟩
  | false => exact L.nx env2 F3 σ2 H3 J3 (same_trans k2 k3) (h3.2 rfl)
end
end Px
namespace Px
open PySem PySem.Spec PyProof.Rows L2 Lx
/-! ### iterators -/
section
variable {X : Cx} {c : Cc} {W : WX}
def rangeD (lo : Int) (n : Nat) : List PyData := (List.range n).map fun i => .int (lo + (i : Nat))
theorem rangeD_len (lo : Int) (n : Nat) : (rangeD lo n).length = n := by simp [rangeD]
theorem rangeD_at {lo : Int} {n i : Nat} {d : PyData} (h : (rangeD lo n)[i]? = some d) : i < n ∧ d = .int (lo + (i : Nat)) := by
  have hi : i < n := by
    have := (List.getElem?_eq_some_iff.mp h).1
    rwa [rangeD_len] at this
  refine ⟨hi, ?_⟩
  unfold rangeD at h
  rw [List.getElem?_map, List.getElem?_range hi] at h
  exact (Option.some.inj h).symm
theorem walk_range {F : Hp} {lo : Int} {n : Nat} : Walk c (Itr lo n) F (rangeD lo n) where
  stop := fun H0 F0 env F' σ H J k => by
    show n ≤ (rangeD lo n).length
    rw [rangeD_len]
    exact Nat.le_refl _
  go := fun H0 F0 env F' σ H i d J k h => by
    obtain ⟨h1, h2⟩ := rangeD_at h
    refine ⟨h1, fun x H3 y => ?_⟩
    obtain ⟨y1, y2⟩ := y
    subst y1 y2 h2
    exact ⟨F', J, same_refl _, Rq.int _⟩
def iR1 (a : PTA) : PTI := fun env R E => a env (fun ss => match ss with
  | [.d (.int j)] => -(2 ^ 62) ≤ j ∧ j < 2 ^ 62 ∧ R (rangeD 0 j.toNat)
  | _ => False) E
def iR2 (a : PTA) : PTI := fun env R E => a env (fun ss => match ss with
  | [.d (.int i), .d (.int j)] => (-(2 ^ 62) ≤ i ∧ i < 2 ^ 62 ∧ -(2 ^ 62) ≤ j ∧ j < 2 ^ 62) ∧ R (rangeD i (j - i).toNat)
  | _ => False) E
theorem pui_range1 {tg a : Expr} {p pos : Pos} {pa : PTA} (hm : X.mg "range" = none) (ha : PuA X c W [a] pa) (hg : Gl X "range" := by rfl) (hs : starEach [a] X.env = [(false, eval a X.env)] := by rfl) : PuI X c W tg (.Call (.Name "range" p) [a] [] pos) (iR1 pa) := by
  obtain ⟨ta, ha, ra⟩ := ha
  refine ⟨_, pi_range1 hg hm ha hs, fun H0 F0 env F σ H R E Q J L hp fin => ra _ _ _ _ _ _ _ _ _ J L hp fun vs ss F1 H1 J1 k1 r1 h1 => ?_⟩
  split at h1
  · obtain ⟨v, rfl, rv⟩ := rs1 r1
    cases rv
    exact ⟨_, rfl, h1.1, h1.2.1, fin _ F1 H1 _ J1 k1 walk_range h1.2.2⟩
  · exact h1.elim
theorem pui_range2 {tg a b : Expr} {p pos : Pos} {pa : PTA} (hm : X.mg "range" = none) (ha : PuA X c W [a, b] pa) (hg : Gl X "range" := by rfl) (hs : starEach [a, b] X.env = [(false, eval a X.env), (false, eval b X.env)] := by rfl) (hs2 : starEach [b] X.env = [(false, eval b X.env)] := by rfl) :
    PuI X c W tg (.Call (.Name "range" p) [a, b] [] pos) (iR2 pa) := by
  obtain ⟨ta, ha, ra⟩ := ha
  refine ⟨_, pi_range2 hg hm ha hs hs2, fun H0 F0 env F σ H R E Q J L hp fin => ra _ _ _ _ _ _ _ _ _ J L hp fun vs ss F1 H1 J1 k1 r1 h1 => ?_⟩
  split at h1
  · obtain ⟨v, w, rfl, rv, rw⟩ := rs2 r1
    cases rv
    cases rw
    exact ⟨_, _, rfl, h1.1, fin _ F1 H1 _ J1 k1 walk_range h1.2⟩
  · exact h1.elim
/-- a list or a tuple -/
def iSeq (K : PySem.W.Frag) (tl : TE) : TI := fun σ H R => tl σ H fun x H1 => ∃ a, x = .ref a ∧ (((∃ xs, SqL K H1 a xs) ∧ R (Itl K a) H1) ∨ ((∃ xs, SqT K H1 a xs) ∧ R (Itt K a) H1))
theorem pi_seq {tg l : Expr} {tl : TE} (hl : PE X l tl) : PI X tg l (iSeq X.K tl) := by
  refine ⟨fun pins s σ H R I h => ?_⟩
  refine thn (hl.run pins s σ H _ I h) fun v s1 ⟨x, H1, I1, r1, q1⟩ => ?_
  obtain ⟨a, e, q1⟩ := q1
  subst e
  cases r1
  rcases q1 with ⟨⟨xs, hq⟩, q⟩ | ⟨⟨xs, hq⟩, q⟩
  · obtain ⟨its, rv, p, hz⟩ := I1.list hq
    refine wpAny_pyIter_list p.isList ?_
    refine ⟨s1.heap.objs.size, [s1.heap.objs.size], _, _, H1, rfl, I1.kept (t' := s1.toks) fun b o e => Heap.get?_push_of_some _ e, turn_list a _, ⟨_, Heap.get?_push_size _ rfl, rfl, rfl⟩, fun b hb => ?_, q⟩
    have e : b = s1.heap.objs.size := by simpa using hb
    subst e
    exact I1.fpOk (Nat.le_refl _) (I1.hok.fresh (Nat.le_refl _))
  · obtain ⟨its, rv, p, hz⟩ := I1.tuple hq
    refine wpAny_pyIter_tuple (show s1.heap.IsTuple a its.toArray from p) ?_
    refine ⟨s1.heap.objs.size, [s1.heap.objs.size], _, _, H1, rfl, I1.kept (t' := s1.toks) fun b o e => Heap.get?_push_of_some _ e, turn_tuple a _, ⟨_, Heap.get?_push_size _ rfl, rfl, rfl⟩, fun b hb => ?_, q⟩
    have e : b = s1.heap.objs.size := by simpa using hb
    subst e
    exact I1.fpOk (Nat.le_refl _) (I1.hok.fresh (Nat.le_refl _))
theorem walk_l {K : PySem.W.Frag} {F : Hp} {a : Addr} {xs : List V} {ds : List PyData} (e : F a = some (.lst xs)) (r : RqAll F xs ds) : Walk c (Itl K a) F ds where
  stop := fun H0 F0 env F' σ H J k => ⟨xs, sqL (J.b.sub _ _ (k _ _ e)), by rw [r.len]; exact Nat.le_refl _⟩
  go := fun H0 F0 env F' σ H i d J k h => by
    obtain ⟨v, e1, rv⟩ := r.get h
    have q : SqL K H a xs := sqL (J.b.sub _ _ (k _ _ e))
    refine ⟨⟨xs, v, q, e1⟩, fun x H3 y => ?_⟩
    obtain ⟨y1, y2⟩ := y
    subst y1
    have := y2 xs q
    rw [e1] at this
    cases this
    exact ⟨F', J, same_refl _, rv.same k⟩
theorem walk_t {K : PySem.W.Frag} {F : Hp} {a : Addr} {xs : List V} {ds : List PyData} (e : F a = some (.tup xs)) (r : RqAll F xs ds) : Walk c (Itt K a) F ds where
  stop := fun H0 F0 env F' σ H J k => ⟨xs, sqT (J.b.sub _ _ (k _ _ e)), by rw [r.len]; exact Nat.le_refl _⟩
  go := fun H0 F0 env F' σ H i d J k h => by
    obtain ⟨v, e1, rv⟩ := r.get h
    have q : SqT K H a xs := sqT (J.b.sub _ _ (k _ _ e))
    refine ⟨⟨xs, v, q, e1⟩, fun x H3 y => ?_⟩
    obtain ⟨y1, y2⟩ := y
    subst y1
    have := y2 xs q
    rw [e1] at this
    cases this
    exact ⟨F', J, same_refl _, rv.same k⟩
def iS (a : PTE) : PTI := fun env R E => a env (fun s => match s with
  | .d (.list ds) => R ds
  | .d (.tuple ds) => R ds
  | _ => False) E
theorem pui_seq {tg l : Expr} {pa : PTE} (ha : PuE X c W l pa) : PuI X c W tg l (iS pa) := by
  obtain ⟨ta, ha, ra⟩ := ha
  refine ⟨_, pi_seq ha, fun H0 F0 env F σ H R E Q J L hp fin => ra _ _ _ _ _ _ _ _ _ J L hp fun v s F1 H1 J1 k1 r1 h1 => ?_⟩
  split at h1
  · cases r1 with
    | lst e rr => exact ⟨_, rfl, .inl ⟨⟨_, sqL (J1.b.sub _ _ e)⟩, fin _ F1 H1 _ J1 k1 (walk_l e rr) h1⟩⟩
  · cases r1 with
    | tup e rr => exact ⟨_, rfl, .inr ⟨⟨_, sqT (J1.b.sub _ _ e)⟩, fin _ F1 H1 _ J1 k1 (walk_t e rr) h1⟩⟩
  · exact h1.elim
def zipD (xs ys : List PyData) : List PyData := List.zipWith (fun x y => .tuple [x, y]) xs ys
theorem zipD_at {xs ys : List PyData} {i : Nat} {d : PyData} (h : (zipD xs ys)[i]? = some d) : ∃ x y, xs[i]? = some x ∧ ys[i]? = some y ∧ d = .tuple [x, y] := by
  unfold zipD at h
  rw [List.getElem?_zipWith] at h
  cases e1 : xs[i]? with
  | none => rw [e1] at h; cases h
  | some x =>
    cases e2 : ys[i]? with
    | none => rw [e1, e2] at h; cases h
    | some y =>
      rw [e1, e2] at h
      exact ⟨x, y, rfl, rfl, (Option.some.inj h).symm⟩
theorem zipD_end {xs ys : List PyData} : xs.length ≤ (zipD xs ys).length ∨ ys.length ≤ (zipD xs ys).length := by
  unfold zipD
  rw [List.length_zipWith]
  omega
theorem walk_zl {K : PySem.W.Frag} {F : Hp} {a b : Addr} {xs ys : List V} {ds es : List PyData} (ea : F a = some (.lst xs)) (ra : RqAll F xs ds) (eb : F b = some (.lst ys)) (rb : RqAll F ys es) : Walk c (Itz K a b) F (zipD ds es) where
  stop := fun H0 F0 env F' σ H J k => ⟨xs, ys, sqL (J.b.sub _ _ (k _ _ ea)), sqL (J.b.sub _ _ (k _ _ eb)), by rw [ra.len, rb.len]; exact zipD_end⟩
  go := fun H0 F0 env F' σ H i d J k h => by
    obtain ⟨x, y, h1, h2, rfl⟩ := zipD_at h
    obtain ⟨v, e1, rv⟩ := ra.get h1
    obtain ⟨w, e2, rw⟩ := rb.get h2
    have qa : SqL K H a xs := sqL (J.b.sub _ _ (k _ _ ea))
    have qb : SqL K H b ys := sqL (J.b.sub _ _ (k _ _ eb))
    refine ⟨⟨xs, ys, v, w, qa, qb, e1, e2⟩, fun z H3 hy => ?_⟩
    obtain ⟨T, v', w', rfl, hT, rfl, f1, f2⟩ := hy
    have g1 := f1 xs qa
    have g2 := f2 ys qb
    rw [e1] at g1
    rw [e2] at g2
    cases g1
    cases g2
    have k2 : Same F' (upd F' T (.tup [v, w])) := same_upd (J.b.fnone hT)
    exact ⟨_, J.alloc hT _, k2, Rq.tup upd_same (.cons ((rv.same k).same k2) (.cons ((rw.same k).same k2) .nil))⟩
theorem walk_zt {K : PySem.W.Frag} {F : Hp} {a b : Addr} {xs ys : List V} {ds es : List PyData} (ea : F a = some (.tup xs)) (ra : RqAll F xs ds) (eb : F b = some (.tup ys)) (rb : RqAll F ys es) : Walk c (RZ.ItzT K a b) F (zipD ds es) where
  stop := fun H0 F0 env F' σ H J k => ⟨xs, ys, sqT (J.b.sub _ _ (k _ _ ea)), sqT (J.b.sub _ _ (k _ _ eb)), by rw [ra.len, rb.len]; exact zipD_end⟩
  go := fun H0 F0 env F' σ H i d J k h => by
    obtain ⟨x, y, h1, h2, rfl⟩ := zipD_at h
    obtain ⟨v, e1, rv⟩ := ra.get h1
    obtain ⟨w, e2, rw⟩ := rb.get h2
    have qa : SqT K H a xs := sqT (J.b.sub _ _ (k _ _ ea))
    have qb : SqT K H b ys := sqT (J.b.sub _ _ (k _ _ eb))
    refine ⟨⟨xs, ys, v, w, qa, qb, e1, e2⟩, fun z H3 hy => ?_⟩
    obtain ⟨T, v', w', rfl, hT, rfl, f1, f2⟩ := hy
    have g1 := f1 xs qa
    have g2 := f2 ys qb
    rw [e1] at g1
    rw [e2] at g2
    cases g1
    cases g2
    have k2 : Same F' (upd F' T (.tup [v, w])) := same_upd (J.b.fnone hT)
    exact ⟨_, J.alloc hT _, k2, Rq.tup upd_same (.cons ((rv.same k).same k2) (.cons ((rw.same k).same k2) .nil))⟩
def iZip (a : PTA) : PTI := fun env R E => a env (fun ss => match ss with
  | [.d (.list ds), .d (.list es)] => R (zipD ds es)
  | [.d (.tuple ds), .d (.tuple es)] => R (zipD ds es)
  | _ => False) E
theorem pui_zip {e e2 : Expr} {pa : PTA} {p pos tpos : Pos} {elts : List Expr} {kk : Nat} (hm : X.mg "zip" = none) (ha : PuA X c W [e, e2] pa) (hg : Gl X "zip" := by rfl)
    (hs : starEach [e, e2] X.env = (false, eval e X.env) :: starEach [e2] X.env := by rfl) (hpl : (backTo pos (starEach [e2] X.env)).any (·.1) = false := by rfl) :
    PuI X c W (.Tuple elts kk tpos) (.Call (.Name "zip" p) [e, e2] [] pos) (iZip pa) := by
  obtain ⟨ta, ha, ra⟩ := ha
  refine ⟨_, RZ.pi_zipA hg hm ha hs hpl, fun H0 F0 env F σ H R E Q J L hp fin => ra _ _ _ _ _ _ _ _ _ J L hp fun vs ss F1 H1 J1 k1 r1 h1 => ?_⟩
  split at h1
  · obtain ⟨v, w, rfl, rv, rw⟩ := rs2 r1
    cases rv with
    | lst ea ra =>
      cases rw with
      | lst eb rb => exact ⟨_, _, _, _, rfl, .inl ⟨sqL (J1.b.sub _ _ ea), sqL (J1.b.sub _ _ eb), fin _ F1 H1 _ J1 k1 (walk_zl ea ra eb rb) h1⟩⟩
  · obtain ⟨v, w, rfl, rv, rw⟩ := rs2 r1
    cases rv with
    | tup ea ra =>
      cases rw with
      | tup eb rb => exact ⟨_, _, _, _, rfl, .inr ⟨sqT (J1.b.sub _ _ ea), sqT (J1.b.sub _ _ eb), fin _ F1 H1 _ J1 k1 (walk_zt ea ra eb rb) h1⟩⟩
  · exact h1.elim

/-! ### slices of tuples -/
def sIxD (n d : Nat) (o : Option Int) : Nat := HT.sIx n d o
def cutD (ds : List PyData) (lo hi : Option Int) : List PyData := (ds.drop (HT.sIx ds.length 0 lo)).take (HT.sIx ds.length ds.length hi - HT.sIx ds.length 0 lo)
theorem cut_rel {F : Hp} {xs : List V} {ds : List PyData} (r : RqAll F xs ds) (lo hi : Option Int) : RqAll F (cutV xs lo hi) (cutD ds lo hi) := by
  unfold cutV cutD
  rw [r.len]
  exact (r.drop _).take _
theorem cut_whole {ds : List PyData} {lo hi : Option Int} (h : HT.sIx ds.length 0 lo = 0 ∧ HT.sIx ds.length ds.length hi = ds.length) : cutD ds lo hi = ds := by
  unfold cutD
  rw [h.1, h.2]
  simp
abbrev PTO := Ev → (Option Int → Prop) → XP → Prop
def RdO (c : Cc) (W : WX) (t : TO) (po : PTO) : Prop := ∀ (H0 F0 : Hp) (env : Ev) (F : Hp) (σ : St) (H : Hp) (R : Option Int → Prop) (E : XP) (Q : Option Int → Hp → Prop), Rel c H0 F0 env F σ H → LinkX c H0 F0 W E → po env R E → (∀ (o : Option Int) (F' H' : Hp), Rel c H0 F0 env F' σ H' → Same F F' → R o → Q o H') → t σ H Q
def PuO (X : Cx) (c : Cc) (W : WX) (e : Option Expr) (po : PTO) : Prop := ∃ t, PO X e t ∧ RdO c W t po
def pNo : PTO := fun _ R _ => R none
def pSome (a : PTE) : PTO := fun env R E => a env (fun s => match s with
  | .d (.int i) => R (some i)
  | _ => False) E
theorem puo_none : PuO X c W none pNo := ⟨_, po_none, fun H0 F0 env F σ H R E Q J L hp fin => fin none F H J (same_refl F) hp⟩
theorem puo_some {e : Expr} {pa : PTE} (ha : PuE X c W e pa) : PuO X c W (some e) (pSome pa) := by
  obtain ⟨ta, ha, ra⟩ := ha
  refine ⟨_, po_some ha, fun H0 F0 env F σ H R E Q J L hp fin => ra _ _ _ _ _ _ _ _ _ J L hp fun v s F1 H1 J1 k1 r1 h1 => ?_⟩
  split at h1
  · cases r1
    exact ⟨_, rfl, fin _ F1 H1 J1 k1 h1⟩
  · exact h1.elim
def pSl (a : PTE) (lo hi : PTO) : PTE := fun env R E => a env (fun s => lo env (fun l => hi env (fun h => match s with
  | .d (.tuple ds) => R (.d (.tuple (cutD ds l h)))
  | _ => False) E) E) E
theorem pu_slice {e : Expr} {lo hi : Option Expr} {pos p2 : Pos} {pa : PTE} {pl ph : PTO} (ha : PuE X c W e pa) (hl : PuO X c W lo pl) (hh : PuO X c W hi ph) : PuE X c W (.Subscript e (.Slice lo hi none p2) pos) (pSl pa pl ph) := by
  obtain ⟨ta, ha, ra⟩ := ha
  obtain ⟨tl, hl, rl⟩ := hl
  obtain ⟨th, hh, rh⟩ := hh
  refine ⟨_, pe_slice sl_tupA ha hl hh, fun H0 F0 env F σ H R E Q J L hp fin => ra _ _ _ _ _ _ _ _ _ J L hp fun v s F1 H1 J1 k1 r1 h1 => ?_⟩
  refine rl _ _ _ _ _ _ _ _ _ J1 L h1 fun l F2 H2 J2 k2 h2 => ?_
  refine rh _ _ _ _ _ _ _ _ _ J2 L h2 fun h F3 H3 J3 k3 h3 => ?_
  have k13 := same_trans k1 (same_trans k2 k3)
  split at h3
  · have r3 := RelS.same (same_trans k2 k3) r1
    cases r3 with
    | @tup a xs ds ea rr =>
      refine ⟨a, xs, rfl, sqT (J3.b.sub _ _ ea), fun hw => ?_, fun hw p hn => ?_⟩
      · rw [rr.len] at hw
        refine fin _ (.d _) F3 H3 J3 k13 (Rq.tup ea rr) ?_
        rw [cut_whole hw] at h3
        exact h3
      · have k4 : Same F3 (upd F3 p (.tup (cutV xs l h))) := same_upd (J3.b.fnone hn)
        exact fin (.ref p) (.d _) _ _ (J3.alloc hn _) (same_trans k13 k4) (Rq.tup upd_same ((cut_rel rr l h).same k4)) h3
  · exact h3.elim
end
end Px
namespace Px
open PySem PySem.Spec PyProof.Rows L2 Lx
/-! ### comprehensions -/
/-- one reading for a whole family of contexts -/
theorem unifE {ι : Type} {X : ι → Cx} {c : Cc} {W : WX} {e : Expr} {pt : PTE} (h : ∀ i, PuE (X i) c W e pt) : ∃ t, (∀ i, PE (X i) e t) ∧ Rd c W t pt :=
  ⟨fun σ H Q => ∀ i, (h i).choose σ H Q, fun i => ⟨fun pins s σ H Q I q => (h i).choose_spec.1.run pins s σ H Q I (q i)⟩, fun H0 F0 env F σ H R E Q J L hp fin i => (h i).choose_spec.2 H0 F0 env F σ H R E Q J L hp fin⟩
theorem unifT {ι : Type} {X : ι → Cx} {c : Cc} {W : WX} {e : Expr} {pt : PTT} (h : ∀ i, PuT (X i) c W e pt) : ∃ t, (∀ i, PT (X i) e t) ∧ RdT c W t pt :=
  ⟨fun σ H Q => ∀ i, (h i).choose σ H Q, fun i => ⟨fun pins s σ H Q I q => (h i).choose_spec.1.run pins s σ H Q I (q i)⟩, fun H0 F0 env F σ H R E Q J L hp fin i => (h i).choose_spec.2 H0 F0 env F σ H R E Q J L hp fin⟩
theorem unifG {ι : Type} {X : ι → Cx} {c : Cc} {e : Expr} {pg : PTG} {is : List Nat} (h : ∀ i, PuG (X i) c e pg is) : ∃ g, (∀ i, PG (X i) e g) ∧ RdG c g pg is :=
  ⟨fun v σ H Q => ∀ i, (h i).choose v σ H Q, fun i => ⟨fun pins s σ H v u Q I r q => (h i).choose_spec.1.run pins s σ H v u Q I r (q i)⟩, fun H0 F0 env F σ H v s N Q J r hp k i => (h i).choose_spec.2 H0 F0 env F σ H v s N Q J r hp k⟩
def wipeE (env : Ev) : List Nat → Ev
  | [] => env
  | v :: vs => (wipeE env vs).set v none
def noOwn1 : Option Sl → Option Sl
  | some (.own _) => none
  | some (.slf _ _ _) => none
  | some (.ownT _) => none
  | s => s
def noOwn (env : Ev) : Ev := env.map noOwn1
def WNo : WX := fun _ _ _ _ => False
def ENo : XP := fun _ _ _ => False
theorem link_no {c : Cc} {H0 F0 : Hp} {W : WX} : LinkX c H0 F0 W ENo := fun _ _ _ _ _ _ _ _ _ h => h.elim
section
variable {c : Cc} {H0 F0 F H : Hp} {env : Ev} {σ : St} {q : Addr}
/-- the state as a step's entry: one's own lists out of sight -/
theorem Rel.inner (R : Rel c H0 F0 env F σ H) : Rel c H F (noOwn env) F σ H := by
  have no : ∀ (i : Nat) (xs : List PyData), (noOwn env)[i]? ≠ some (some (.own xs)) := fun i xs h => by
    unfold noOwn at h
    rw [List.getElem?_map] at h
    cases e : env[i]? with
    | none => rw [e] at h; cases h
    | some s =>
      rw [e] at h
      have h' : noOwn1 s = some (.own xs) := Option.some.inj h
      cases s with
      | none => cases h'
      | some s => cases s <;> simp [noOwn1] at h'
  refine ⟨R.b.here, by unfold noOwn; rw [List.length_map]; exact R.len, fun i ov s e1 e2 => ?_, fun i j q xs ys e1 _ _ _ => absurd e1 (no i xs)⟩
  cases s with
  | none => exact True.intro
  | some s =>
    unfold noOwn at e2
    rw [List.getElem?_map] at e2
    cases e : env[i]? with
    | none => rw [e] at e2; cases e2
    | some s' =>
      rw [e] at e2
      have h' : noOwn1 s' = some s := Option.some.inj e2
      cases s' with
      | none => cases h'
      | some s' =>
        have r := R.sl i ov _ e1 e
        cases s' with
        | own xs => cases h'
        | d x => cases h'; exact r
        | raw v => cases h'; exact r
        | exc p C ds => cases h'; exact r
        | obj C ds => cases h'; exact r
        | slf x C ds => cases h'
        | ownT x => cases h'
        | tab x => cases h'; exact r
theorem Rel.wipe (R : Rel c H0 F0 env F σ H) : ∀ vs : List Nat, Rel c H0 F0 (wipeE env vs) F (L2.wipe σ vs) H
  | [] => R
  | v :: vs => (R.wipe vs).any v none
/-- an object of one's own that no slot shows -/
theorem Rel.wrAt (R : Rel c H0 F0 env F σ H) {ys zs : List V} (h : H q = some (.lst ys)) (hF : F q = none) (h0 : Nw H0 q) (hD : ∀ (i : Nat) (xs : List PyData), env[i]? = some (some (.own xs)) → σ[i]? ≠ some (some (.ref q))) : Rel c H0 F0 env F σ (upd H q (.lst zs)) := by
  refine ⟨R.b.wr h hF h0, R.len, fun i ov s e1 e2 => ?_, R.sep⟩
  have r := R.sl i ov s e1 e2
  cases s with
  | none => exact True.intro
  | some s =>
    cases s with
    | d x => exact r
    | raw v => exact r
    | exc p C ds => exact r
    | obj C ds => exact r
    | slf x C ds =>
      obtain ⟨dx, fs, e, a1, a2, a3, a4⟩ := r
      have ne : x ≠ q := fun z => by rw [z, h] at a3; cases a3
      exact ⟨dx, fs, e, a1, a2, by rw [upd_ne ne]; exact a3, a4⟩
    | tab kvs => exact r
    | ownT kvs =>
      obtain ⟨p, us, e, a1, a2, a3, a4⟩ := r
      have ne : p ≠ q := fun z => by rw [z, h] at a3; cases a3
      exact ⟨p, us, e, a1, a2, by rw [upd_ne ne]; exact a3, a4⟩
    | own xs =>
      obtain ⟨p, us, e, a1, a2, a3, a4⟩ := r
      have ne : p ≠ q := fun z => hD i xs e2 (by rw [e1, e, z])
      exact ⟨p, us, e, a1, a2, by rw [upd_ne ne]; exact a3, a4⟩
theorem Rel.freezeAt (R : Rel c H0 F0 env F σ H) {ys : List V} (h : H q = some (.lst ys)) (hF : F q = none) (h0 : Nw H0 q) (hD : ∀ (i : Nat) (xs : List PyData), env[i]? = some (some (.own xs)) → σ[i]? ≠ some (some (.ref q))) : Rel c H0 F0 env (upd F q (.lst ys)) σ H := by
  have k : Same F (upd F q (.lst ys)) := same_upd hF
  refine ⟨R.b.freeze h hF h0, R.len, fun i ov s e1 e2 => ?_, R.sep⟩
  have r := R.sl i ov s e1 e2
  cases s with
  | none => exact True.intro
  | some s =>
    cases s with
    | d x => obtain ⟨v, e, rv⟩ := r; exact ⟨v, e, rv.same k⟩
    | raw v => exact r
    | exc p C ds => exact ⟨r.1, r.2.same k⟩
    | obj C ds => exact ⟨r.choose, r.choose_spec.1, r.choose_spec.2.same k⟩
    | slf x C ds =>
      obtain ⟨dx, fs, e, a1, a2, a3, a4, a5⟩ := r
      have ne : x ≠ q := fun z => by rw [z, h] at a3; cases a3
      exact ⟨dx, fs, e, by rw [upd_ne ne]; exact a1, a2, a3, a4, a5.same k⟩
    | tab kvs => exact ⟨r.choose, r.choose_spec.1, r.choose_spec.2.same k⟩
    | ownT kvs =>
      obtain ⟨p, us, e, a1, a2, a3, a4, a5⟩ := r
      have ne : p ≠ q := fun z => by rw [z, h] at a3; cases a3
      exact ⟨p, us, e, by rw [upd_ne ne]; exact a1, a2, a3, a4, a5.same k⟩
    | own xs =>
      obtain ⟨p, us, e, a1, a2, a3, a4⟩ := r
      have ne : p ≠ q := fun z => hD i xs e2 (by rw [e1, e, z])
      exact ⟨p, us, e, by rw [upd_ne ne]; exact a1, a2, a3, a4.same k⟩
theorem own_ne (R : Rel c H0 F0 env F σ H) (h : H q = none) : ∀ (i : Nat) (xs : List PyData), env[i]? = some (some (.own xs)) → σ[i]? ≠ some (some (.ref q)) := fun i xs e1 e2 => by
  obtain ⟨p, us, e, a1, a2, a3, a4⟩ := R.sl i _ _ e2 e1
  cases e
  rw [h] at a3
  cases a3
end
def pLcL (g : PTG) (tt : PTT) (pe : PTE) (envI : Ev) : List PyData → List PyData → (List PyData → Prop) → Prop
  | [], acc, K => K acc
  | d :: l, acc, K => g (.d d) envI fun env1 => tt env1 (fun b => (b = true → pe env1 (fun s => match s with
      | .d x => acc.length ≤ 1000000 ∧ pLcL g tt pe envI l (acc ++ [x]) K
      | _ => False) ENo) ∧ (b = false → pLcL g tt pe envI l acc K)) ENo
def pYes : PTT := fun _ R _ => R true
def pLc (it : PTI) (g : PTG) (tt : PTT) (pe : PTE) (vs : List Nat) : PTE := fun env R E => it env (fun ds => pLcL g tt pe (wipeE (noOwn env) vs) ds [] fun es => R (.d (.list es))) E
theorem wipe_eq {σ σ' : St} : ∀ {vs : List Nat}, σ'.length = σ.length → (∀ j, j ∉ vs → σ'[j]? = (L2.wipe σ vs)[j]?) → L2.wipe σ' vs = L2.wipe σ vs := by
  intro vs hl h
  apply List.ext_getElem?
  intro j
  by_cases hj : j ∈ vs
  · have z : ∀ (τ : St) (ws : List Nat), j ∈ ws → (L2.wipe τ ws)[j]? = if j < τ.length then some none else none := by
      intro τ ws
      induction ws with
      | nil => intro h; cases h
      | cons w ws ih =>
        intro hm
        unfold L2.wipe
        by_cases hw : w = j
        · subst hw
          by_cases hl : w < τ.length
          · rw [List.getElem?_set_self (by rw [L2.wipe_length]; exact hl), if_pos hl]
          · rw [if_neg hl, List.getElem?_eq_none]
            rw [List.length_set, L2.wipe_length]
            omega
        · rw [List.getElem?_set_ne hw]
          exact ih ((List.mem_cons.mp hm).resolve_left fun z => hw z.symm)
    rw [z σ' vs hj, z σ vs hj, hl]
  · rw [wipe_out hj, h j hj]
section
variable {X : Cx} {c : Cc} {W : WX}
theorem rd_lc {wi : TI} {pi : PTI} {g : TG} {pg : PTG} {is : List Nat} {tt : TT} {pt : PTT} {te : TE} {pe : PTE} {vs : List Nat} (ri : RdI c W wi pi) (rg : RdG c g pg is) (hsub : ∀ i ∈ is, i ∈ vs) (rt : RdT c WNo tt pt) (re : Rd c WNo te pe) : Rd c W (tLc wi g tt te vs) (pLc pi pg pt pe vs) := by
  intro H0 F0 env F σ H R E Q J L hp fin
  refine ri _ _ _ _ _ _ _ _ _ J L hp fun I F1 H1 ds J1 k1 wk h1 => ?_
  intro D hD
  have hown := own_ne J1 hD
  have J2 := J1.new hD (.lst [])
  have h0 : Nw H0 D := J1.b.h0 hD
  have fD : F1 D = none := J1.b.fnone hD
  refine ⟨fun i m H => i + m = ds.length ∧ ∃ (F' : Hp) (acc : List V) (ad : List PyData), Rel c H0 F0 env F' σ H ∧ Same F1 F' ∧ F' D = none ∧ H D = some (.lst acc) ∧ RqAll F' acc ad ∧ pLcL pg pt pe (wipeE (noOwn env) vs) (ds.drop i) ad fun es => R (.d (.list es)),
    ⟨ds.length, by omega, F1, [], [], J2, same_refl F1, fD, upd_same, .nil, by simpa using h1⟩, ?_⟩
  rintro i m H2 ⟨hm, F2, acc, ad, J3, k2, fD2, hD2, ra, h2⟩
  cases m with
  | zero =>
    have hi : i = ds.length := by omega
    subst hi
    rw [List.drop_length] at h2
    refine .inl ⟨wk.stop _ _ _ _ _ _ J3 k2, ?_⟩
    have k3 : Same F2 (upd F2 D (.lst acc)) := same_upd fD2
    exact fin (.ref D) (.d (.list ad)) _ H2 (J3.freezeAt hD2 fD2 h0 hown) (same_trans k1 (same_trans k2 k3)) (Rq.lst upd_same (ra.same k3)) h2
  | succ m =>
    have hi : i < ds.length := by omega
    have ed : ds.drop i = ds[i] :: ds.drop (i + 1) := List.drop_eq_getElem_cons hi
    rw [ed] at h2
    obtain ⟨go, yl⟩ := wk.go _ _ _ _ _ _ i ds[i] J3 k2 (List.getElem?_eq_getElem hi)
    refine .inr ⟨go, fun H' => ∃ (F' : Hp) (acc : List V) (ad : List PyData), Rel c H0 F0 env F' σ H' ∧ Same F1 F' ∧ F' D = none ∧ H' D = some (.lst acc) ∧ RqAll F' acc ad ∧ pLcL pg pt pe (wipeE (noOwn env) vs) (ds.drop (i + 1)) ad fun es => R (.d (.list es)),
      fun H' ⟨a1, a2, a3, a4⟩ => ⟨m, by omega, by omega, a1, a2, a3, a4⟩, fun x H3 hy => ?_⟩
    -- the item may be a new pair: seen from the heap ahead of it
    have JI := (J3.inner).wipe vs
    obtain ⟨F3, J4, k3, r3⟩ := (wk.go _ _ _ _ _ _ i ds[i] JI k2 (List.getElem?_eq_getElem hi)).2 x H3 hy
    refine rg _ _ _ _ _ _ _ (.d ds[i]) _ _ J4 r3 h2 fun env4 σ4 J5 l4 o4 h4 => ?_
    refine ⟨wipe_eq (by rw [l4, L2.wipe_length]) fun j hj => o4 j fun z => hj (hsub j z), ?_⟩
    refine rt _ _ _ _ _ _ _ _ _ J5 link_no h4 fun b F5 H5 J6 k5 h5 => ?_
    have nD : ∀ {G H' : Hp} {e : Ev} {τ : St}, Rel c H2 F2 e G τ H' → H' D = some (.lst acc) ∧ G D = none := fun {G H' e τ} J' => by
      refine ⟨J'.b.fr D _ (J3.b.noutL hD2) (fun ps z => by cases z) hD2, ?_⟩
      cases e' : G D with
      | none => rfl
      | some o =>
        rcases J'.b.fN D (by rw [e']; simp) with z | z
        · exact absurd fD2 z
        · rcases z _ hD2 with ⟨ps, z⟩ | ⟨ps, z⟩ <;> cases z
    cases b with
    | false =>
      show ∃ F', _
      have B := J6.b
      have k6 : Same F2 F5 := B.fF
      exact ⟨F5, acc, ad, J3.after B, same_trans k2 k6, (nD J6).2, (nD J6).1, ra.same k6, h5.2 rfl⟩
    | true =>
      show te σ4 H5 _
      refine re _ _ _ _ _ _ _ _ _ J6 link_no (h5.1 rfl) fun v s F7 H7 J7 k7 r7 h7 => ?_
      have B := J7.b
      have k6 : Same F2 F7 := B.fF
      split at h7
      · have J8 := (J3.after B).wrAt (zs := acc ++ [v]) (nD J7).1 (nD J7).2 h0 hown
        refine ⟨acc, (nD J7).1, ?_, F7, acc ++ [v], _, J8, same_trans k2 k6, (nD J7).2, upd_same, (ra.same k6).app (.cons r7 .nil), h7.2⟩
        rw [ra.len]
        exact Nat.lt_of_le_of_lt h7.1 (by decide)
      · exact h7.elim
structure CI where
  s : Shared
  H : Hp
  C : Addr
  cl : List (Str × Addr)
  fp : List Addr
def CI.blk (X : Cx) (scope : Scope) (i : CI) : Cx := X.blk i.s i.H scope (compEnvC scope i.cl i.C X.env) i.fp
theorem pu_lc {elt tg iter : Expr} {scope : Scope} {own : List (Str × Nat)} {pos : Pos} {pi : PTI} {pg : PTG} {is : List Nat} {pe : PTE} (hc : X.calm = true) (hN : X.N.Nodup) (hi : PuI X c W tg iter pi) (ok : BlkOk X.N X.env.scope scope own) (hg : ∀ i : CI, PuG (i.blk X scope) c tg pg is)
    (he : ∀ i : CI, PuE (i.blk X scope) c WNo elt pe) (hsub : ∀ i ∈ is, i ∈ own.map (·.2) := by decide) (hs : ∀ x, foldedSetIterable iter X.env x = pure x := by intro _; rfl) : PuE X c W (.ListComp elt [⟨tg, iter, [], 0⟩] scope pos) (pLc pi pg pYes pe (own.map (·.2))) := by
  obtain ⟨wi, hi, ri⟩ := hi
  obtain ⟨g, hg, rg⟩ := unifG hg
  obtain ⟨te, he, re⟩ := unifE he
  exact ⟨_, pe_lc hc hN hi ok (fun s H C cl fp => hg ⟨s, H, C, cl, fp⟩) (fun _ _ _ _ _ => pts_nil) (fun s H C cl fp => he ⟨s, H, C, cl, fp⟩) hs,
    rd_lc ri rg hsub (fun H0 F0 env F σ H R E Q J L hp fin => fin true F H J (same_refl F) hp) re⟩
theorem pu_lcI {elt tg iter cond : Expr} {scope : Scope} {own : List (Str × Nat)} {pos : Pos} {pi : PTI} {pg : PTG} {is : List Nat} {pt : PTT} {pe : PTE} (hc : X.calm = true) (hN : X.N.Nodup) (hi : PuI X c W tg iter pi) (ok : BlkOk X.N X.env.scope scope own) (hg : ∀ i : CI, PuG (i.blk X scope) c tg pg is)
    (ht : ∀ i : CI, PuT (i.blk X scope) c WNo cond pt) (he : ∀ i : CI, PuE (i.blk X scope) c WNo elt pe) (hsub : ∀ i ∈ is, i ∈ own.map (·.2) := by decide) (hs : ∀ x, foldedSetIterable iter X.env x = pure x := by intro _; rfl) : PuE X c W (.ListComp elt [⟨tg, iter, [cond], 0⟩] scope pos) (pLc pi pg pt pe (own.map (·.2))) := by
  obtain ⟨wi, hi, ri⟩ := hi
  obtain ⟨g, hg, rg⟩ := unifG hg
  obtain ⟨tt, ht, rt⟩ := unifT ht
  obtain ⟨te, he, re⟩ := unifE he
  exact ⟨_, pe_lc hc hN hi ok (fun s H C cl fp => hg ⟨s, H, C, cl, fp⟩) (fun s H C cl fp => pts_one (ht ⟨s, H, C, cl, fp⟩)) (fun s H C cl fp => he ⟨s, H, C, cl, fp⟩) hs, rd_lc ri rg hsub rt re⟩

/-! ### raising -/
theorem RqAll.reverse {F : Hp} : ∀ {vs : List V} {ds : List PyData}, RqAll F vs ds → RqAll F vs.reverse ds.reverse
  | _, _, .nil => .nil
  | _, _, .cons a b => by
    rw [List.reverse_cons, List.reverse_cons]
    exact b.reverse.app (.cons a .nil)
def psRaise (C : Addr) (fns : List Str) (a : PTA) : PTS := fun P env => a env (fun ss => ss.length = fns.length ∧ allD ss fun ds => P.ex env C (fns.zip ds).reverse) P.ex
theorem pus_raise {x : Str} {C : Addr} {fns : List Str} {e : Expr} {es : List Expr} {pa : PTA} {p pos pos2 : Pos} {k : Nat} (B : XcI X.K X.mg x C fns) (hr : Room k X.A) (tk : Takes X W) (ha : PuA X c W (e :: es) pa) (h3 : fns.length ≤ 3 := by decide) (hk : 2 ≤ k := by decide) (hc : X.calm = true := by rfl) (hg : Gl X x := by rfl) (hdb : (x == ("__debug__" : Str)) = false := by decide)
    (he : starEach (e :: es) X.env = (false, eval e X.env) :: starEach es X.env := by rfl) (hpl : (backTo pos (starEach es X.env)).any (·.1) = false := by rfl) :
    PuS X c W (.Raise (some (.Call (.Name x p) (e :: es) [] pos)) none pos2) (psRaise C fns pa) := by
  obtain ⟨ta, ha, ra⟩ := ha
  refine ⟨_, ps_rf B hr tk ha hk hc hg hdb he hpl, fun H0 F0 env F σ H D P J L h => ?_⟩
  refine rr_rf (ra _ _ _ _ _ _ _ _ _ J L.ex h fun vs ss F1 H1 J1 k1 r1 h1 => ?_)
  obtain ⟨hl, h2⟩ := h1
  obtain ⟨ds, rd, q⟩ := allD_d r1 h2
  have hvl : vs.length = fns.length := by rw [r1.len, hl]
  have hdl : ds.length = fns.length := by rw [← rd.len, hvl]
  refine leafI_of hvl h3 fun d hd => ?_
  have k2 : Same F1 (upd F1 d (.xd (fns.zip vs).reverse)) := same_upd (J1.b.fnone hd)
  refine L.ex env _ σ _ C (some d) (fns.zip ds).reverse (J1.alloc hd _) (.inr ⟨d, _, rfl, upd_same, ?_, ?_⟩) q
  · rw [List.map_reverse, List.map_reverse, List.map_fst_zip (by omega), List.map_fst_zip (by omega)]
  · rw [List.map_reverse, List.map_reverse, List.map_snd_zip (by omega), List.map_snd_zip (by omega)]
    exact (rd.same k2).reverse
end
end Px
namespace Px
open PySem PySem.Spec PyProof.Rows L2 Lx
def Kp (P : Program) (w : World) (K : PySem.W.Frag) (mg : Str → Option Value) (base : Heap) (c : Cc) (k : Nat) (x : Str) (ps : List Str) (sp : PSp) : Prop := Keeps P w K mg base (L2.CX P w) k x ps (lift c ps.length sp)
theorem hu64 {A : Around} {k : Nat} (hr : Room k A) : A.units + 64 < cLine := by have := hr.un; omega
theorem hu65 {A : Around} {k : Nat} (hr : Room k A) : A.units + 65 < cLine := by have := hr.un; omega
theorem takesF {P : Program} {w : World} {K : PySem.W.Frag} {mg : Str → Option Value} {base : Heap} {N : List Str} {x : Str} {sc : Scope} {f : Addr} {cdv : Value} {A : Around} {outer : List Env} {s : Shared} {H : Hp} {E : XK} :
    Takes (cxOf (L2.CX P w) P w K mg base N x sc f cdv A outer s H E) (WF E) := takes_of rfl rfl rfl rfl
theorem passF {P : Program} {w : World} {K : PySem.W.Frag} {mg : Str → Option Value} {base : Heap} {N : List Str} {x : Str} {sc : Scope} {f : Addr} {cdv : Value} {A : Around} {outer : List Env} {s : Shared} {H : Hp} {E : XK} :
    PassesOwn (model (cxOf (L2.CX P w) P w K mg base N x sc f cdv A outer s H E).prog (cxOf (L2.CX P w) P w K mg base N x sc f cdv A outer s H E).w) (cxOf (L2.CX P w) P w K mg base N x sc f cdv A outer s H E).A (cxOf (L2.CX P w) P w K mg base N x sc f cdv A outer s H E).env (cxOf (L2.CX P w) P w K mg base N x sc f cdv A outer s H E).xe := passes_of (K := fun e s'' => L2.CX P w outer H s E e s'') rfl
/-! ### defs that ask nothing of the guards (they may be called within a lambda) -/
structure KpO (P : Program) (w : World) (K : PySem.W.Frag) (mg : Str → Option Value) (base : Heap) (c : Cc) (k : Nat) (x : Str) (ps : List Str) (sp : PSp) : Prop where
  ex : ∃ f fd, FnOk P w K mg base (L2.CX P w) k f fd ps (lift c ps.length sp) ∧ mg x = some (.ref f) ∧ PySem.W.keepIn K (.ref f) = true ∧ Binds K fd ps []
section
variable {P : Program} {w : World} {K : PySem.W.Frag} {mg : Str → Option Value} {base : Heap} {x : Str} {st : Stmt} {N ps : List Str} {k : Nat} {sp : PSp} {c : Cc}
theorem KpO.g (D : KpO P w K mg base c k x ps sp) : Kp P w K mg base c k x ps sp := by
  obtain ⟨f, fd, F, r⟩ := D.ex
  exact ⟨f, fd, FnG.of F, r⟩
theorem keepO (F : Has K mg x st) (b : BindsBy x st ps) (S : FnScope N ps (defScope st))
    (hbody : ∀ (f : Addr) (cdv : Value) (A : Around) (outer : List Env) (s : Shared) (H : Hp) (E : XK), Room k (A.deeper (envOfC x (defScope st) s.heap.objs.size f cdv)) →
      ∃ pt, PuSs (cxOf (L2.CX P w) P w K mg base N x (defScope st) f cdv A outer s H E) c (WF E) (defBody st) pt ∧ ∀ ss R EX, ss.length = ps.length → sp ss R EX → pt (pdOf R EX) (startP N ss)) :
    KpO P w K mg base c (k + 1) x ps sp := by
  obtain ⟨f, fd, F, hm⟩ := F
  refine ⟨f, fd, F.okX S (fun vs H Q E h => ?_) (fun cdv A outer s H vs Q E hr h => ?_), hm, F.kp, F.binds b⟩
  · obtain ⟨F, ss, R, EX, _, rs, hl, _⟩ := h
    rw [rs.len, hl]
  · obtain ⟨G, ss, R, EX, B, rs, hl, hp, hq, he⟩ := h
    obtain ⟨pt, ⟨t, ht, hrd⟩, hpure⟩ := hbody f cdv A outer s H E hr
    refine ⟨t, ht, hrd H G (startP N ss) G (L2.start N vs) H _ (pdOf R EX) (rel_start B rs N) ⟨?_, ?_, ?_, ?_, ?_⟩ (hpure ss R EX hl hp)⟩
    · exact fun env' F' σ' H' J _ q => hq .non (.d .none) F' H' J.b Rq.non q
    · exact fun v s F' H' B' rv q => hq v s F' H' B' rv q
    · exact fun env' F' σ' H' J _ q => q.elim
    · exact fun env' F' σ' H' J _ q => q.elim
    · exact fun env' F' σ' H' C d ds J x q => he C d ds F' H' J.b x q
end
section
variable {X : Cx} {c : Cc} {W : WX}
theorem pu_callO {j k : Nat} {ps : List Str} {sp : PSp} {x : Str} {q pos : Pos} {e : Expr} {es : List Expr} {pa : PTA} (D : KpO X.prog X.w X.K X.mg X.base c j x ps sp) (hr : Room k X.A) (tk : Takes X W) (ha : PuA X c W (e :: es) pa)
    (hjk : j ≤ k := by decide) (hgl : Gl X x := by rfl) (hdb : (x == ("__debug__" : Str)) = false := by decide) (he : starEach (e :: es) X.env = (false, eval e X.env) :: starEach es X.env := by rfl)
    (hpl : (backTo pos (starEach es X.env)).any (·.1) = false := by rfl) : PuE X c W (.Call (.Name x q) (e :: es) [] pos) (pCalln ps.length sp pa) := by
  obtain ⟨ta, ha, ra⟩ := ha
  obtain ⟨f, fd, F, hm, hk, hb⟩ := D.ex
  exact ⟨_, pe_callS F (hr.mono hjk) hgl hm hk hb (fun σ => passAt tk σ) ha hdb he hpl, rd_call ra⟩
end
end Px
namespace Px
open PySem PySem.Spec PyProof.Rows L2 Lx
instance {n : Nat} {i : Int} : Decidable (Bn n i) := inferInstanceAs (Decidable (i.natAbs < 2 ^ n))
/-! ### loops by an invariant -/
theorem pForL_ind {g : PTG} {body : PTS} {ds : List PyData} {P : PD} {env : Ev} (I : Nat → Ev → Prop) (h0 : I 0 env)
    (hs : ∀ (i : Nat) (d : PyData) (env : Ev) (N : Ev → Prop), ds[i]? = some d → I i env → (∀ env', I (i + 1) env' → N env') → g (.d d) env fun env' => body { P with nx := N, ct := N, bk := P.nx } env')
    (he : ∀ env, I ds.length env → P.nx env) : pForL g body ds P env := by
  have go : ∀ (l : List PyData) (i : Nat) (env : Ev), i ≤ ds.length → ds.drop i = l → I i env → pForL g body l P env := by
    intro l
    induction l with
    | nil =>
      intro i env hle hd hi
      have hl : ds.length ≤ i := List.drop_eq_nil_iff.mp hd
      have e : i = ds.length := by omega
      subst e
      exact he env hi
    | cons d l ih =>
      intro i env hle hd hi
      have e : ds[i]? = some d := by
        have := congrArg (fun l => l[0]?) hd
        simpa using this
      have hd' : ds.drop (i + 1) = l := by
        have := congrArg List.tail hd
        simpa using this
      have hlt := (List.getElem?_eq_some_iff.mp e).1
      exact hs i d env _ e hi fun env' hi' => ih (i + 1) env' hlt hd' hi'
  exact go ds 0 env (Nat.zero_le _) rfl h0
theorem pLcL_ind {g : PTG} {tt : PTT} {pe : PTE} {envI : Ev} {ds : List PyData} {K : List PyData → Prop} (I : Nat → List PyData → Prop) (h0 : I 0 [])
    (hs : ∀ (i : Nat) (d : PyData) (acc : List PyData) (N : List PyData → Prop), ds[i]? = some d → I i acc → (∀ acc', I (i + 1) acc' → N acc') → g (.d d) envI fun env1 => tt env1 (fun b => (b = true → pe env1 (fun s => match s with
      | .d x => acc.length ≤ 1000000 ∧ N (acc ++ [x])
      | _ => False) ENo) ∧ (b = false → N acc)) ENo)
    (he : ∀ acc, I ds.length acc → K acc) : pLcL g tt pe envI ds [] K := by
  have go : ∀ (l : List PyData) (i : Nat) (acc : List PyData), i ≤ ds.length → ds.drop i = l → I i acc → pLcL g tt pe envI l acc K := by
    intro l
    induction l with
    | nil =>
      intro i acc hle hd hi
      have hl : ds.length ≤ i := List.drop_eq_nil_iff.mp hd
      have e : i = ds.length := by omega
      subst e
      exact he acc hi
    | cons d l ih =>
      intro i acc hle hd hi
      have e : ds[i]? = some d := by
        have := congrArg (fun l => l[0]?) hd
        simpa using this
      have hd' : ds.drop (i + 1) = l := by
        have := congrArg List.tail hd
        simpa using this
      have hlt := (List.getElem?_eq_some_iff.mp e).1
      exact hs i d acc _ e hi fun acc' hi' => ih (i + 1) acc' hlt hd' hi'
  exact go ds 0 [] (Nat.zero_le _) rfl h0
/-! ### l == [] -/
def rEqE (K : PySem.W.Frag) : R2 := fun x y H Q => ∃ a b xs, x = .ref a ∧ y = .ref b ∧ SqL K H a xs ∧ SqL K H b [] ∧ Q (.bl xs.isEmpty) H
theorem op_eqE {X : Cx} (hu : X.A.units + 64 < cLine) : OpR X (compareOp .Eq) (rEqE X.K) := by
  intro pins s σ H x y v u Q I rx ry h
  obtain ⟨a, b, xs, rfl, rfl, ha, hb, q⟩ := h
  cases xs with
  | nil => exact op_eqD hu pins s σ H _ _ v u Q I rx ry ⟨.list [], .list [], .lst ha .nil, .lst hb .nil, rfl, rfl, by simpa [PyData.eqv, PyData.eqvAll] using q⟩
  | cons z zs =>
    cases rx
    cases ry
    obtain ⟨us, r1, p1, _⟩ := I.list ha
    obtain ⟨ws, r2, p2, _⟩ := I.list hb
    have l1 := r1.length
    have l2 := r2.length
    have hn : us.toArray.size ≠ ws.toArray.size := by
      rw [List.size_toArray, List.size_toArray, ← l1, ← l2]
      simp
    have hR := SeqAt.RcAt.lists_lengths (A := X.A) p1.isList p2.isList (by simpa using hn) (by omega)
    exact hR _ _ _ _ ⟨.bl false, H, I, rfl, by simpa using q⟩
def oEqE : POp := fun x y R => match x, y with
  | .d (.list l), .d (.list []) => R (.d (.bool l.isEmpty))
  | _, _ => False
theorem ro_eqE {c : Cc} {K : PySem.W.Frag} : ROp c (rEqE K) oEqE := by
  intro H0 F0 env F σ H x y sx sy R Q J rx ry hp fin
  unfold oEqE at hp
  split at hp
  · cases rx with
    | lst ea ra =>
      cases ry with
      | lst eb rb =>
        cases rb
        exact ⟨_, _, _, rfl, rfl, sqL (J.b.sub _ _ ea), sqL (J.b.sub _ _ eb), fin _ (.d (.bool _)) F H J (same_refl F) (rs_bl (by cases ra <;> rfl)) hp⟩
  · exact hp.elim
/-! ### displays of constants, as a whole -/
section
variable {X : Cx} {c : Cc} {W : WX}
def pKd (ds : List PyData) : PTA := fun _ R _ => R (ds.map Sl.d)
theorem pa_nilK : PuA X c W [] (pKd []) := pa_nil'
theorem pa_consK {a : Expr} {as : List Expr} {d : PyData} {ds : List PyData} (ha : PuE X c W a (pC (.d d))) (hs : PuA X c W as (pKd ds)) (he : starEach (a :: as) X.env = (false, eval a X.env) :: starEach as X.env := by rfl) : PuA X c W (a :: as) (pKd (d :: ds)) := pa_cons' ha hs he
theorem allD_map : ∀ (ds : List PyData) (R : List PyData → Prop), R ds → allD (ds.map Sl.d) R
  | [], R, h => h
  | d :: ds, R, h => allD_map ds (fun xs => R (d :: xs)) h
theorem PuE.imp {e : Expr} {p q : PTE} (h : PuE X c W e p) (k : ∀ env R E, q env R E → p env R E) : PuE X c W e q := by
  obtain ⟨t, h, r⟩ := h
  exact ⟨t, h, fun H0 F0 env F σ H R E Q J L hp fin => r H0 F0 env F σ H R E Q J L (k _ _ _ hp) fin⟩
theorem pu_tupK {es : List Expr} {k : Nat} {pos : Pos} {ds : List PyData} (ha : PuA X c W es (pKd ds)) (hl : ds.length ≤ 1000 := by decide) : PuE X c W (.Tuple es k pos) (pC (.d (.tuple ds))) :=
  (pu_tup ha).imp fun env R E q => allD_map ds _ ⟨hl, q⟩
theorem pu_lstK {es : List Expr} {pos : Pos} {ds : List PyData} (ha : PuA X c W es (pKd ds)) (hl : ds.length ≤ 1000 := by decide) : PuE X c W (.List es pos) (pC (.d (.list ds))) :=
  (pu_lst ha).imp fun env R E q => allD_map ds _ ⟨hl, q⟩
theorem pu_negK {a : Expr} {pos : Pos} {i : Int} (ha : PuE X c W a (pC (.d (.int i)))) : PuE X c W (.UnaryOp .USub a pos) (pC (.d (.int (-i)))) := pu_neg ha
theorem pu_dispK {pos : Pos} : PuE X c W (.Dict [] [] pos) (pC (.d (.dict []))) := pu_disp0
end
end Px
namespace Px
open PySem PySem.Spec PyProof.Rows L2 Lx
def seqD : PyData → Option (List PyData)
  | .list l => some l
  | .tuple l => some l
  | _ => none
end Px
namespace Px
open PySem PySem.Spec PyProof.Rows L2 Lx
/-! ### zip over any two sources -/
section
variable {prog : Program} {w : World} {A : Around} {E : Value → Shared → Prop}
/-- an iterator at its place: it gives the k-th of xs, or it is at the end -/
structure Src (prog : Program) (w : World) (it l : Addr) (xs : Array Value) (S : Nat → Heap → Prop) : Prop where
  item : ∀ (A : Around) (E : Value → Shared → Prop) (s : Shared) (k : Nat) (x : Value) (Q : Value → Shared → Prop), S k s.heap → xs[k]? = some x →
    (∀ g, S (k + 1) g → Heap.SameBut it s.heap g → Q x { s with heap := g }) → wpAny (model prog w) A (Builtin.SmallTypes.nextOf (.ref it)) Q E s
  done : ∀ (A : Around) (E : Value → Shared → Prop) (s : Shared) (k : Nat) (Q : Value → Shared → Prop), A.handled = none → S k s.heap → xs[k]? = none →
    (∀ g e, Heap.ExtBut it s.heap g → (∃ o, g.get? e = some o ∧ o.cls = .type "StopIteration") → E (.ref e) { s with heap := g }) → wpAny (model prog w) A (Builtin.SmallTypes.nextOf (.ref it)) Q E s
  keep : ∀ (k : Nat) (h g : Heap), S k h → (∀ o, h.get? it = some o → g.get? it = some o) → (∀ o, h.get? l = some o → g.get? l = some o) → S k g
theorem src_list {it l : Addr} (xs : Array Value) (ne : l ≠ it) : Src prog w it l xs fun k h => h.IsListIter it l k ∧ h.IsList l xs where
  item := fun A E s k x Q h hx hQ => wpAny_nextOf_list_item h.1 h.2 hx fun g a b => hQ g ⟨a, h.2.extBut b.extBut ne⟩ b
  done := fun A E s k Q hh h hx hE => wpAny_nextOf_list_end hh h.1 h.2 hx hE
  keep := fun k h g hS h1 h2 => ⟨hS.1.at h1, by
    obtain ⟨o, e, r⟩ := hS.2
    exact ⟨o, h2 o e, r⟩⟩
theorem src_tuple {it l : Addr} (xs : Array Value) (ne : l ≠ it) : Src prog w it l xs fun k h => h.IsTupleIter it l k ∧ h.IsTuple l xs where
  item := fun A E s k x Q h hx hQ => RZ.nextOf_tuple_item h.1 h.2 hx fun g a b => hQ g ⟨a, h.2.extBut b.extBut ne⟩ b
  done := fun A E s k Q hh h hx hE => RZ.nextOf_tuple_end hh h.1 h.2 hx hE
  keep := fun k h g hS h1 h2 => ⟨hS.1.at h1, by
    obtain ⟨o, e, r⟩ := hS.2
    exact ⟨o, h2 o e, r⟩⟩
variable {s : Shared} {zz ti tu j1 j2 m1 m2 : Addr} {k1 k2 : Nat} {xs ys : Array Value} {x y a b : Value} {S1 S2 : Nat → Heap → Prop}
theorem Src.but {it l : Addr} {xs : Array Value} {S : Nat → Heap → Prop} (A : Src prog w it l xs S) {k : Nat} {h g : Heap} {c : Addr} (hS : S k h) (hb : Heap.SameBut c h g) (n1 : it ≠ c) (n2 : l ≠ c) : S k g :=
  A.keep k h g hS (fun o e => hb.extBut _ _ n1 e) fun o e => hb.extBut _ _ n2 e
theorem zu_item (D : ZipApart zz ti tu j1 j2 m1 m2) (gz : IsZip s.heap zz ti tu .none) (gi : IsPair s.heap ti (.ref j1) (.ref j2)) (gu : IsPair s.heap tu a b) (A1 : Src prog w j1 m1 xs S1) (A2 : Src prog w j2 m2 ys S2) (p1 : S1 k1 s.heap) (p2 : S2 k2 s.heap) (hx : xs[k1]? = some x) (hy : ys[k2]? = some y)
    {Q : Value → Shared → Prop} (fin : ∀ g, IsZip g zz ti tu (rawInt s.heap.objs.size) → IsPair g tu x y → S1 (k1 + 1) g → S2 (k2 + 1) g → IsPair g s.heap.objs.size x y → g.objs.size = s.heap.objs.size + 1 →
      (∀ d o, d ≠ zz → d ≠ tu → d ≠ j1 → d ≠ j2 → s.heap.get? d = some o → g.get? d = some o) → Q (.ref s.heap.objs.size) { s with heap := g }) :
    wpAny (model prog w) A (Builtin.«zip.__next__» ⟨[.ref zz], []⟩) (fun r s' => ∃ v, r = .done (.ret v) ∧ Q v s') E s := by
  show wpAny _ A (field (.ref zz) 2 >>= _) _ _ s
  refine wpAny_bind (wpAny_field gz rfl (x := .bool false) rfl ?_)
  show wpAny _ A (field (.ref zz) 3 >>= _) _ _ s
  refine wpAny_bind (wpAny_field gz rfl (x := .ref ti) rfl (wpAny_bind (wpAny_seqItems gi rfl ?_)))
  show wpAny _ A (Builtin.SmallTypes.ownedTupleIsFree (.ref zz) >>= _) _ _ s
  refine wpAny_bind ?_
  rw [Builtin.SmallTypes.ownedTupleIsFree]
  refine wpAny_bind (wpAny_field gz rfl (x := .none) rfl (wpAny_pure ?_))
  rw [if_pos rfl]
  refine wpAny_bind (wpAny_rule (wpAny_bind (wpAny_field gz rfl (x := .ref tu) rfl ?_)))
  refine wpAny_bind (wpAny_setField_rec gz (by simp) fun g1 gz1 b1 => ?_)
  replace gz1 : IsZip g1 zz ti tu .ellipsis := gz1
  refine wpAny_bind ?_
  simp only [List.zipIdx_cons, List.zipIdx_nil, List.forIn_cons, List.forIn_nil]
  -- the first
  refine wpAny_bind (wpAny_bind (wpAny_onRaise ?_))
  show wpAny _ _ (Builtin.SmallTypes.nextOf (.ref j1) >>= _) _ _ _
  refine wpAny_bind (A1.item _ _ _ _ _ _ (A1.but p1 b1 D.i1z D.l1z) hx fun g2 q1 b2 => wpAny_pure ?_)
  have gu2 : IsPair g2 tu a b := b2.extBut _ _ D.TOi1 (b1.extBut _ _ D.TOz gu)
  refine wpAny_bind (wpAny_seqItems gu2 rfl (wpAny_bind (wpAny_updateSeq_pair gu2 fun g3 gu3 b3 => ?_)))
  replace gu3 : IsPair g3 tu x b := gu3
  refine wpAny_bind (wpAny_letGo (wpAny_pure ?_))
  -- the second
  refine wpAny_bind (wpAny_bind (wpAny_onRaise ?_))
  show wpAny _ _ (Builtin.SmallTypes.nextOf (.ref j2) >>= _) _ _ _
  refine wpAny_bind (A2.item _ _ _ _ _ _ (A2.but (A2.but (A2.but p2 b1 D.i2z D.l2z) b2 D.i12.symm D.l2i1) b3 D.TOi2.symm D.l2TO) hy fun g4 q2 b4 => wpAny_pure ?_)
  have gu4 : IsPair g4 tu x b := b4.extBut _ _ D.TOi2 gu3
  refine wpAny_bind (wpAny_seqItems gu4 rfl (wpAny_bind (wpAny_updateSeq_pair gu4 fun g5 gu5 b5 => ?_)))
  replace gu5 : IsPair g5 tu x y := gu5
  refine wpAny_bind (wpAny_letGo (wpAny_pure (wpAny_pure ?_)))
  refine wpAny_bind (wpAny_seqItems gu5 rfl (wpAny_bind (wpAny_newTuple ?_)))
  have sz : g5.objs.size = s.heap.objs.size := by rw [b5.1, b4.1, b3.1, b2.1, b1.1]
  have gz5 : IsZip g5 zz ti tu .ellipsis := b5.extBut _ _ D.TOz.symm (b4.extBut _ _ D.i2z.symm (b3.extBut _ _ D.TOz.symm (b2.extBut _ _ D.i1z.symm gz1)))
  have old : ∀ d o, d ≠ zz → d ≠ tu → d ≠ j1 → d ≠ j2 → s.heap.get? d = some o → g5.get? d = some o := fun d o n1 n2 n3 n4 e =>
    b5.extBut _ _ n2 (b4.extBut _ _ n4 (b3.extBut _ _ n2 (b2.extBut _ _ n3 (b1.extBut _ _ n1 e))))
  have w1 : S1 (k1 + 1) g5 := A1.but (A1.but (A1.but q1 b3 D.TOi1.symm D.l1TO) b4 D.i12 D.l1i2) b5 D.TOi1.symm D.l1TO
  have w2 : S2 (k2 + 1) g5 := A2.but q2 b5 D.TOi2.symm D.l2TO
  have lz : zz < g5.objs.size := Heap.lt_size gz5
  show wpAny _ _ (Builtin.SmallTypes.ownedTupleHandOut (.ref zz) (.ref g5.objs.size) >>= _) _ _ _
  refine wpAny_bind ?_
  rw [Builtin.SmallTypes.ownedTupleHandOut]
  have gz6 : IsZip (g5.push { cls := .type "tuple", data := .seq #[x, y] }) zz ti tu .ellipsis := Heap.get?_push_of_some _ gz5
  refine wpAny_bind (wpAny_setField_rec gz6 (by simp) fun g7 gz7 b7 => ?_)
  replace gz7 : IsZip g7 zz ti tu (rawInt g5.objs.size) := gz7
  refine wpAny_setField_rec gz7 (by simp) fun g8 gz8 b8 => ?_
  replace gz8 : IsZip g8 zz ti tu (rawInt g5.objs.size) := gz8
  have on : ∀ d o, d ≠ zz → g5.get? d = some o → g8.get? d = some o := fun d o n e => b8.extBut _ _ n (b7.extBut _ _ n (Heap.get?_push_of_some _ e))
  have gt : IsPair g8 g5.objs.size x y := b8.extBut _ _ (Nat.ne_of_gt lz) (b7.extBut _ _ (Nat.ne_of_gt lz) (Heap.get?_push_size _ rfl))
  have sz8 : g8.objs.size = g5.objs.size + 1 := by rw [b8.1, b7.1, Heap.size_push]
  rw [sz] at gz8 gt sz8
  refine wpAny_pure ⟨_, rfl, ?_⟩
  show Q (.ref g5.objs.size) _
  rw [sz]
  exact fin g8 gz8 (on _ _ D.TOz gu5) (A1.keep _ _ _ w1 (fun o => on _ o D.i1z) fun o => on _ o D.l1z) (A2.keep _ _ _ w2 (fun o => on _ o D.i2z) fun o => on _ o D.l2z) gt sz8 fun d o n1 n2 n3 n4 e => on d o n1 (old d o n1 n2 n3 n4 e)
theorem zu_end (hh : A.handled = none) (D : ZipApart zz ti tu j1 j2 m1 m2) (gz : IsZip s.heap zz ti tu .none) (gi : IsPair s.heap ti (.ref j1) (.ref j2)) (gu : IsPair s.heap tu a b) (A1 : Src prog w j1 m1 xs S1) (A2 : Src prog w j2 m2 ys S2) (p1 : S1 k1 s.heap) (p2 : S2 k2 s.heap) (he : xs[k1]? = none ∨ ys[k2]? = none)
    {Q : PySem.Fin → Shared → Prop} (out : ∀ g e, (∀ d o, d ≠ zz → d ≠ tu → d ≠ j1 → d ≠ j2 → s.heap.get? d = some o → g.get? d = some o) → (∃ o, g.get? e = some o ∧ o.cls = .type "StopIteration") → E (.ref e) { s with heap := g }) :
    wpAny (model prog w) A (Builtin.«zip.__next__» ⟨[.ref zz], []⟩) Q E s := by
  show wpAny _ A (field (.ref zz) 2 >>= _) _ _ s
  refine wpAny_bind (wpAny_field gz rfl (x := .bool false) rfl ?_)
  show wpAny _ A (field (.ref zz) 3 >>= _) _ _ s
  refine wpAny_bind (wpAny_field gz rfl (x := .ref ti) rfl (wpAny_bind (wpAny_seqItems gi rfl ?_)))
  show wpAny _ A (Builtin.SmallTypes.ownedTupleIsFree (.ref zz) >>= _) _ _ s
  refine wpAny_bind ?_
  rw [Builtin.SmallTypes.ownedTupleIsFree]
  refine wpAny_bind (wpAny_field gz rfl (x := .none) rfl (wpAny_pure ?_))
  rw [if_pos rfl]
  refine wpAny_bind (wpAny_rule (wpAny_bind (wpAny_field gz rfl (x := .ref tu) rfl ?_)))
  refine wpAny_bind (wpAny_setField_rec gz (by simp) fun g1 gz1 b1 => ?_)
  replace gz1 : IsZip g1 zz ti tu .ellipsis := gz1
  refine wpAny_bind ?_
  simp only [List.zipIdx_cons, List.zipIdx_nil, List.forIn_cons, List.forIn_nil]
  refine wpAny_bind (wpAny_bind (wpAny_onRaise ?_))
  show wpAny _ _ (Builtin.SmallTypes.nextOf (.ref j1) >>= _) _ _ _
  cases hx : xs[k1]? with
  | none =>
    refine wpAny_bind (A1.done _ _ _ _ _ hh (A1.but p1 b1 D.i1z D.l1z) hx fun g2 e b2 se => ?_)
    obtain ⟨oe, e1, e2⟩ := se
    have gz2 : IsZip g2 zz ti tu .ellipsis := b2 _ _ D.i1z.symm gz1
    have ne : e ≠ zz := fun z => by rw [z, gz2] at e1; cases e1; simp at e2
    exact wpAny_setField_rec gz2 (by simp) fun g3 _ b3 => out g3 e (fun d o n1 _ n3 _ q => b3.extBut _ _ n1 (b2 _ _ n3 (b1.extBut _ _ n1 q))) ⟨oe, b3.extBut _ _ ne e1, e2⟩
  | some x =>
    have hy : ys[k2]? = none := he.resolve_left (by rw [hx]; simp)
    refine wpAny_bind (A1.item _ _ _ _ _ _ (A1.but p1 b1 D.i1z D.l1z) hx fun g2 q1 b2 => wpAny_pure ?_)
    have gu2 : IsPair g2 tu a b := b2.extBut _ _ D.TOi1 (b1.extBut _ _ D.TOz gu)
    refine wpAny_bind (wpAny_seqItems gu2 rfl (wpAny_bind (wpAny_updateSeq_pair gu2 fun g3 gu3 b3 => ?_)))
    refine wpAny_bind (wpAny_letGo (wpAny_pure ?_))
    refine wpAny_bind (wpAny_bind (wpAny_onRaise ?_))
    show wpAny _ _ (Builtin.SmallTypes.nextOf (.ref j2) >>= _) _ _ _
    refine wpAny_bind (A2.done _ _ _ _ _ hh (A2.but (A2.but (A2.but p2 b1 D.i2z D.l2z) b2 D.i12.symm D.l2i1) b3 D.TOi2.symm D.l2TO) hy fun g4 e b4 se => ?_)
    obtain ⟨oe, e1, e2⟩ := se
    have gz4 : IsZip g4 zz ti tu .ellipsis := b4 _ _ D.i2z.symm (b3.extBut _ _ D.TOz.symm (b2.extBut _ _ D.i1z.symm gz1))
    have ne : e ≠ zz := fun z => by rw [z, gz4] at e1; cases e1; simp at e2
    exact wpAny_setField_rec gz4 (by simp) fun g5 _ b5 => out g5 e (fun d o n1 n2 n3 n4 q => b5.extBut _ _ n1 (b4 _ _ n4 (b3.extBut _ _ n2 (b2.extBut _ _ n3 (b1.extBut _ _ n1 q))))) ⟨oe, b5.extBut _ _ ne e1, e2⟩
theorem zu_next (D : ZipApart zz ti tu j1 j2 m1 m2) (gz : IsZip s.heap zz ti tu .none) (gi : IsPair s.heap ti (.ref j1) (.ref j2)) (gu : IsPair s.heap tu a b) (A1 : Src prog w j1 m1 xs S1) (A2 : Src prog w j2 m2 ys S2) (p1 : S1 k1 s.heap) (p2 : S2 k2 s.heap) (hx : xs[k1]? = some x) (hy : ys[k2]? = some y)
    {Q : Option Value → Shared → Prop} (fin : ∀ g, IsZip g zz ti tu (rawInt s.heap.objs.size) → IsPair g tu x y → S1 (k1 + 1) g → S2 (k2 + 1) g → IsPair g s.heap.objs.size x y → g.objs.size = s.heap.objs.size + 1 →
      (∀ d o, d ≠ zz → d ≠ tu → d ≠ j1 → d ≠ j2 → s.heap.get? d = some o → g.get? d = some o) → Q (some (.ref s.heap.objs.size)) { s with heap := g }) : wpAny (model prog w) A (pyNext (.ref zz)) Q E s := by
  have tz : s.TypeIs (.ref zz) "zip" := ⟨_, gz, rfl⟩
  rw [pyNext]
  refine wpAny_bind (wpAny_attempt (wpAny_callSpecial?_slot (name := Str.ofString "__next__") tz F.slot_zip_next (wpAny_call_entry F.slot_zip_next tz F.entry_zip_next ?_ (F.args_zip_next_1 _))))
  exact zu_item D gz gi gu A1 A2 p1 p2 hx hy fun g r1 r2 r3 r4 r5 r6 r7 => wpAny_pure (fin g r1 r2 r3 r4 r5 r6 r7)
theorem zu_stop (hh : A.handled = none) (D : ZipApart zz ti tu j1 j2 m1 m2) (gz : IsZip s.heap zz ti tu .none) (gi : IsPair s.heap ti (.ref j1) (.ref j2)) (gu : IsPair s.heap tu a b) (A1 : Src prog w j1 m1 xs S1) (A2 : Src prog w j2 m2 ys S2) (p1 : S1 k1 s.heap) (p2 : S2 k2 s.heap) (he : xs[k1]? = none ∨ ys[k2]? = none)
    {Q : Option Value → Shared → Prop} (out : ∀ g, (∀ d o, d ≠ zz → d ≠ tu → d ≠ j1 → d ≠ j2 → s.heap.get? d = some o → g.get? d = some o) → Q none { s with heap := g }) : wpAny (model prog w) A (pyNext (.ref zz)) Q E s := by
  have tz : s.TypeIs (.ref zz) "zip" := ⟨_, gz, rfl⟩
  rw [pyNext]
  refine wpAny_bind (wpAny_attempt (wpAny_callSpecial?_slot (name := Str.ofString "__next__") tz F.slot_zip_next (wpAny_call_entry F.slot_zip_next tz F.entry_zip_next ?_ (F.args_zip_next_1 _))))
  refine zu_end (A := A.in1) (show A.in1.handled = none from hh) D gz gi gu A1 A2 p1 p2 he fun g e r1 r2 => ?_
  obtain ⟨o, e1, e2⟩ := r2
  exact wpAny_bind (wpAny_isInstance (T := "StopIteration") (b := true) ⟨o, e1, e2⟩ isSubtype_stop (wpAny_pure (out g r1)))
end
/-- a list and a tuple side by side -/
def ItzLT (K : PySem.W.Frag) (a b : Addr) : It :=
  ⟨fun i H => ∃ (us vs : List V) (u v : V), SqL K H a us ∧ SqT K H b vs ∧ us[i]? = some u ∧ vs[i]? = some v,
    fun i H r H' => ∃ T u v, r = .ref T ∧ H T = none ∧ H' = upd H T (.tup [u, v]) ∧ (∀ us, SqL K H a us → us[i]? = some u) ∧ ∀ vs, SqT K H b vs → vs[i]? = some v,
    fun i H => ∃ us vs : List V, SqL K H a us ∧ SqT K H b vs ∧ (us.length ≤ i ∨ vs.length ≤ i)⟩
abbrev zFive (n : Nat) : List Addr := [n + 4, n + 2, n + 3, n, n + 1]
theorem turn_zipLT {P : Program} {w : World} {K : PySem.W.Frag} {elts : List Expr} {kk : Nat} {tpos : Pos} {a b : Addr} {n : Nat} (ha : a < n) (hb : b < n) :
    Turn P w K (.Tuple elts kk tpos) (ItzLT K a b) (zFive n) (n + 4) (fun i h => IsZip h (n + 4) (n + 2) (n + 3) .none ∧ IsPair h (n + 2) (.ref n) (.ref (n + 1)) ∧ (∃ x y, IsPair h (n + 3) x y) ∧ h.IsListIter n a i ∧ h.IsTupleIter (n + 1) b i) where
  mem := List.mem_cons_self
  obj := fun i h st d hd => by
    obtain ⟨q1, q2, ⟨x, y, q3⟩, ⟨o1, e1, _, f1⟩, ⟨o2, e2, _, f2⟩⟩ := st
    simp only [List.mem_cons, List.not_mem_nil, or_false] at hd
    rcases hd with rfl | rfl | rfl | rfl | rfl
    · exact ⟨_, q1, fun v z => nomatch z⟩
    · exact ⟨_, q2, fun v z => nomatch z⟩
    · exact ⟨_, q3, fun v z => nomatch z⟩
    · exact ⟨o1, e1, fun v z => by rw [f1] at z; cases z⟩
    · exact ⟨o2, e2, fun v z => by rw [f2] at z; cases z⟩
  keep := fun i h g st k => by
    obtain ⟨q1, q2, ⟨x, y, q3⟩, q4, q5⟩ := st
    exact ⟨k _ (by simp) _ q1, k _ (by simp) _ q2, ⟨x, y, k _ (by simp) _ q3⟩, q4.at fun o e => k _ (by simp) o e, q5.at fun o e => k _ (by simp) o e⟩
  item := by
    intro X hP hw hK hc i pins s σ H E I hf st hg
    subst hP hw hK
    obtain ⟨q1, q2, ⟨x0, y0, q3⟩, q4, q5⟩ := st
    obtain ⟨us, vs, u, v, su, sv, eu, ev⟩ := hg
    obtain ⟨its, ru, pu, _⟩ := I.list su
    obtain ⟨jts, rv, pv, _⟩ := I.tuple sv
    obtain ⟨cu, hcu, rcu⟩ := ru.get eu
    obtain ⟨cv, hcv, rcv⟩ := rv.get ev
    have D := PySem.W.ktu_apart n a b ha hb
    have small : ∀ d ∈ zFive n, d < s.heap.objs.size := fun d hd => by
      simp only [List.mem_cons, List.not_mem_nil, or_false] at hd
      rcases hd with rfl | rfl | rfl | rfl | rfl
      · exact Heap.lt_size q1
      · exact Heap.lt_size q2
      · exact Heap.lt_size q3
      · obtain ⟨_, e, _⟩ := q4; exact Heap.lt_size e
      · obtain ⟨_, e, _⟩ := q5; exact Heap.lt_size e
    refine zu_next D q1 q2 q3 (src_list its.toArray D.l1i1) (src_tuple jts.toArray D.l2i2) ⟨q4, pu.isList⟩ ⟨q5, pv⟩ (x := cu) (y := cv) (by simpa using hcu) (by simpa using hcv) fun g gz gu g1 g2 gp gs gk => ?_
    refine ⟨_, rfl, wpAny_letOwnedTupleGo_zip (s := { s with heap := g }) gz fun g' gz' sb => ?_⟩
    have big : ∀ d ∈ zFive n, s.heap.objs.size ≠ d := fun d hd => Nat.ne_of_gt (small d hd)
    have gp' : g'.get? s.heap.objs.size = some { cls := .type "tuple", data := .seq #[cu, cv] } := (sb.2 _ (big _ (by simp))).trans gp
    have new : ObjOk X.prog X.w (upd H s.heap.objs.size (.tup [u, v])) g' s.heap.objs.size (.tup [u, v]) := ⟨by show 2 ≤ sizeLine; decide, [cu, cv], .cons rcu (.cons rcv .nil), ⟨_, gp', rfl, _, rfl⟩⟩
    have J := I.turnedNew (t' := s.toks) (ch := zFive n) (fun d o hd q => (sb.2 d fun z => hd (by simp [z])).trans (gk d o (fun z => hd (by simp [z])) (fun z => hd (by simp [z])) (fun z => hd (by simp [z])) (fun z => hd (by simp [z])) q)) hf (Nat.le_refl _) new
    refine ⟨.ref s.heap.objs.size, _, J, rfl, ⟨_, u, v, rfl, I.hok.fresh (Nat.le_refl _), rfl, fun l hl => by rw [I.list_inj hl su]; exact eu, fun l hl => by rw [I.tuple_inj hl sv]; exact ev⟩, ⟨gz', ?_, ⟨cu, cv, ?_⟩, ?_, ?_⟩, fun d hd => ?_⟩
    · exact (sb.2 _ D.TIz).trans (gk _ _ D.TIz D.TITO D.TIi1 D.TIi2 q2)
    · exact (sb.2 _ D.TOz).trans gu
    · exact g1.1.at fun o q => (sb.2 _ D.i1z).trans q
    · exact g2.1.at fun o q => (sb.2 _ D.i2z).trans q
    · rw [upd_ne fun z => big d hd z.symm]
      exact (hf d hd).1
  done := by
    intro X hP hw hK hc i pins s σ H E I hf st hg
    subst hP hw hK
    obtain ⟨q1, q2, ⟨x0, y0, q3⟩, q4, q5⟩ := st
    obtain ⟨us, vs, su, sv, hend⟩ := hg
    obtain ⟨its, ru, pu, _⟩ := I.list su
    obtain ⟨jts, rv, pv, _⟩ := I.tuple sv
    have l1 := ru.length
    have l2 := rv.length
    have D := PySem.W.ktu_apart n a b ha hb
    have he : its.toArray[i]? = none ∨ jts.toArray[i]? = none := hend.imp (fun q => by simp; omega) fun q => by simp; omega
    exact zu_stop (I.ok.hd hc) D q1 q2 q3 (src_list its.toArray D.l1i1) (src_tuple jts.toArray D.l2i2) ⟨q4, pu.isList⟩ ⟨q5, pv⟩ he fun g gk => ⟨rfl, I.turnedL (t' := s.toks) (ch := zFive n) (fun d o hd q => gk d o (fun z => hd (by simp [z])) (fun z => hd (by simp [z])) (fun z => hd (by simp [z])) (fun z => hd (by simp [z])) q) hf⟩
  self := fun A i s Q E st h => wpAny_pyIter_zip st.1 h
/-! ### zip(l, t) made -/
abbrev zs1 (h : Heap) (a : Addr) : Heap := h.push { cls := .type "list_iterator", data := .fields #[.ref a, .int 0 0] }
abbrev zs2 (h : Heap) (a b : Addr) : Heap := (zs1 h a).push { cls := .type "tuple_iterator", data := .fields #[.ref b, .int 0 0] }
abbrev zs3 (h : Heap) (a b : Addr) : Heap := (zs2 h a b).push { cls := .type "tuple", data := .seq #[.ref h.objs.size, .ref (zs1 h a).objs.size] }
abbrev zs4 (h : Heap) (a b : Addr) : Heap := (zs3 h a b).push { cls := .type "tuple", data := .seq #[.none, .none] }
abbrev zs5 (h : Heap) (a b : Addr) : Heap := (zs4 h a b).push { cls := .type "zip", data := .fields #[.none, .bool false, .bool false, .ref (zs2 h a b).objs.size, .ref (zs3 h a b).objs.size] }
theorem zs_meets (a b : Addr) (us vs : Array Value) : Meets (Builtin.«zip.__new__» ⟨[.type "zip", .ref a, .ref b], []⟩) (fun _ R s => s.heap.IsList a us ∧ s.heap.IsTuple b vs ∧ R (.ok (.ret (.ref (zs4 s.heap a b).objs.size))) { s with heap := zs5 s.heap a b }) :=
  .of_wp fun prog w A R s h => by
    obtain ⟨hp, g, d, tk, os⟩ := s
    obtain ⟨pa, pb, h⟩ := h
    have hsub := sub_zip
    have la : Heap.IsList (Shared.heap ⟨hp, g, d, tk, os⟩) a us := pa
    have tb : Heap.IsTuple (Shared.heap ⟨hp.push { cls := .type "list_iterator", data := .fields #[.ref a, .int 0 0] }, g, d, tk, os⟩) b vs := Heap.IsTuple.push pb _
    wp_walk using wpAny_pyIter_list la, wpAny_pyIter_tuple tb
    exact ⟨_, rfl, h⟩
theorem zs_call {prog : Program} {w : World} {A : Around} {E : Value → Shared → Prop} {s : Shared} {a b : Addr} {us vs : Array Value} {Q : Value → Shared → Prop} (pa : s.heap.IsList a us) (pb : s.heap.IsTuple b vs) {n : Nat} (hn : s.heap.objs.size = n)
    (fin : ∀ g, IsZip g (n + 4) (n + 2) (n + 3) .none → IsPair g (n + 2) (.ref n) (.ref (n + 1)) → IsPair g (n + 3) .none .none → g.IsListIter n a 0 → g.IsTupleIter (n + 1) b 0 → (∀ d o, s.heap.get? d = some o → g.get? d = some o) → Q (.ref (n + 4)) { s with heap := g }) :
    wpAny (model prog w) A (call (.type "zip") [.ref a, .ref b]) Q E s := by
  have e1 : (zs1 s.heap a).objs.size = n + 1 := by rw [Heap.size_push, hn]
  have e2 : (zs2 s.heap a b).objs.size = n + 2 := by rw [Heap.size_push, e1]
  have e3 : (zs3 s.heap a b).objs.size = n + 3 := by rw [Heap.size_push, e2]
  have e4 : (zs4 s.heap a b).objs.size = n + 4 := by rw [Heap.size_push, e3]
  have up : ∀ (h : Heap) (o : Obj) (d : Addr) (u : Obj), h.get? d = some u → (h.push o).get? d = some u := fun h o d u q => Heap.get?_push_of_some _ q
  have r5 : (zs5 s.heap a b).get? (zs4 s.heap a b).objs.size = some _ := Heap.get?_push_size _ rfl
  have r4 : (zs5 s.heap a b).get? (zs3 s.heap a b).objs.size = some _ := up _ _ _ _ (Heap.get?_push_size _ rfl)
  have r3 : (zs5 s.heap a b).get? (zs2 s.heap a b).objs.size = some _ := up _ _ _ _ (up _ _ _ _ (Heap.get?_push_size _ rfl))
  have r2 : (zs5 s.heap a b).get? (zs1 s.heap a).objs.size = some _ := up _ _ _ _ (up _ _ _ _ (up _ _ _ _ (Heap.get?_push_size _ rfl)))
  have r1 : (zs5 s.heap a b).get? s.heap.objs.size = some _ := up _ _ _ _ (up _ _ _ _ (up _ _ _ _ (up _ _ _ _ (Heap.get?_push_size _ rfl))))
  rw [e4, e3, e2] at r5
  rw [e3] at r4
  rw [e2, e1, hn] at r3
  rw [e1] at r2
  rw [hn] at r1
  refine callType_new F.called_zip (by decide) (F.typeCall_zip_2 _ _) (F.newCall_zip_2 _ _) (fun obj => F.args_object_init_3 obj _ _) F.entry_zip_new (zs_meets a b us vs) ⟨pa, pb, ?_⟩
  show _ ∧ _
  rw [e4]
  exact ⟨⟨_, r5, rfl⟩, fin _ r5 r3 r4 ⟨_, r1, rfl, rfl⟩ ⟨_, r2, rfl, rfl⟩ fun d o q => up _ _ _ _ (up _ _ _ _ (up _ _ _ _ (up _ _ _ _ (up _ _ _ _ q))))⟩
def iLT (K : PySem.W.Frag) (ta : TA) : TI := fun σ H R => ta σ H fun ws H1 => ∃ a b us vs, ws = [.ref a, .ref b] ∧ SqL K H1 a us ∧ SqT K H1 b vs ∧ R (ItzLT K a b) H1
section
variable {X : Cx} {c : Cc} {W : WX} {e e2 : Expr} {p pos tpos : Pos} {elts : List Expr} {kk : Nat}
/-- zip of any two that are lists or tuples (a tuple and a list: not yet) -/
def iZ2 (K : PySem.W.Frag) (ta : TA) : TI := fun σ H R => ta σ H fun ws H1 => ∃ a b us vs, ws = [.ref a, .ref b] ∧ ((SqL K H1 a us ∧ SqL K H1 b vs ∧ R (Itz K a b) H1) ∨ (SqT K H1 a us ∧ SqT K H1 b vs ∧ R (RZ.ItzT K a b) H1) ∨ (SqL K H1 a us ∧ SqT K H1 b vs ∧ R (ItzLT K a b) H1))
theorem pi_z2 {ta : TA} (hg : Gl X "zip") (hm : X.mg "zip" = none) (ha : PA X [e, e2] ta)
    (hs : starEach [e, e2] X.env = (false, eval e X.env) :: starEach [e2] X.env := by rfl) (hpl : (backTo pos (starEach [e2] X.env)).any (·.1) = false := by rfl) : PI X (.Tuple elts kk tpos) (.Call (.Name "zip" p) [e, e2] [] pos) (iZ2 X.K ta) := by
  refine ⟨fun pins s σ H R I h => ?_⟩
  refine Call_ (ld_blt I hg hm PyProof.Rows.boot_zip (PyProof.Rows.callWith_type1 (thn (ha.run pos pins s σ H _ I h) fun cs s1 ⟨ws, H1, I1, r1, q1⟩ => ?_) hs hpl))
  obtain ⟨a, b, us, vs, ew, q1⟩ := q1
  subst ew
  obtain ⟨u1, u2, rfl, ra, rb⟩ := vals2 r1
  cases ra
  cases rb
  have fresh : ∀ d ∈ zFive s1.heap.objs.size, FpOk X pins H1 d := fun d hd => by
    have hle : s1.heap.objs.size ≤ d := by
      simp only [List.mem_cons, List.not_mem_nil, or_false] at hd
      rcases hd with rfl | rfl | rfl | rfl | rfl
      · exact Nat.le_add_right _ 4
      · exact Nat.le_add_right _ 2
      · exact Nat.le_add_right _ 3
      · exact Nat.le_refl _
      · exact Nat.le_add_right _ 1
    exact I1.fpOk hle (I1.hok.fresh hle)
  rcases q1 with ⟨sa, sb, q⟩ | ⟨sa, sb, q⟩ | ⟨sa, sb, q⟩
  · obtain ⟨its, _, pa, _⟩ := I1.list sa
    obtain ⟨jts, _, pb, _⟩ := I1.list sb
    refine call_zip_2 pa.isList pb.isList fun g gz gi gu g1 g2 _ gk => wpAny_pyIter_zip gz ?_
    exact ⟨s1.heap.objs.size + 4, zFive s1.heap.objs.size, _, _, H1, rfl, I1.kept (t' := s1.toks) gk, turn_zip (PySem.W.ktu_apart s1.heap.objs.size a b pa.lt pb.lt), ⟨gz, gi, ⟨_, _, gu⟩, g1, g2⟩, fresh, q⟩
  · obtain ⟨its, _, pa, _⟩ := I1.tuple sa
    obtain ⟨jts, _, pb, _⟩ := I1.tuple sb
    refine RZ.call_zipT (show s1.heap.IsTuple a its.toArray from pa) (show s1.heap.IsTuple b jts.toArray from pb) fun g gz gi gu g1 g2 _ gk => wpAny_pyIter_zip gz ?_
    exact ⟨s1.heap.objs.size + 4, zFive s1.heap.objs.size, _, _, H1, rfl, I1.kept (t' := s1.toks) gk, RZ.turn_zipT (PySem.W.ktu_apart s1.heap.objs.size a b pa.lt pb.lt), ⟨gz, gi, ⟨_, _, gu⟩, g1, g2⟩, fresh, q⟩
  · obtain ⟨its, _, pa, _⟩ := I1.list sa
    obtain ⟨jts, _, pb, _⟩ := I1.tuple sb
    refine zs_call pa.isList (show s1.heap.IsTuple b jts.toArray from pb) rfl fun g gz gi gu g1 g2 gk => wpAny_pyIter_zip gz ?_
    exact ⟨s1.heap.objs.size + 4, zFive s1.heap.objs.size, _, _, H1, rfl, I1.kept (t' := s1.toks) gk, turn_zipLT pa.lt pb.lt, ⟨gz, gi, ⟨_, _, gu⟩, g1, g2⟩, fresh, q⟩
theorem walk_zlt {K : PySem.W.Frag} {F : Hp} {a b : Addr} {xs ys : List V} {ds es : List PyData} (ea : F a = some (.lst xs)) (ra : RqAll F xs ds) (eb : F b = some (.tup ys)) (rb : RqAll F ys es) : Walk c (ItzLT K a b) F (zipD ds es) where
  stop := fun H0 F0 env F' σ H J k => ⟨xs, ys, sqL (J.b.sub _ _ (k _ _ ea)), sqT (J.b.sub _ _ (k _ _ eb)), by rw [ra.len, rb.len]; exact zipD_end⟩
  go := fun H0 F0 env F' σ H i d J k h => by
    obtain ⟨x, y, h1, h2, rfl⟩ := zipD_at h
    obtain ⟨v, e1, rv⟩ := ra.get h1
    obtain ⟨w, e2, rw⟩ := rb.get h2
    have qa : SqL K H a xs := sqL (J.b.sub _ _ (k _ _ ea))
    have qb : SqT K H b ys := sqT (J.b.sub _ _ (k _ _ eb))
    refine ⟨⟨xs, ys, v, w, qa, qb, e1, e2⟩, fun z H3 hy => ?_⟩
    obtain ⟨T, v', w', rfl, hT, rfl, f1, f2⟩ := hy
    have g1 := f1 xs qa
    have g2 := f2 ys qb
    rw [e1] at g1
    rw [e2] at g2
    cases g1
    cases g2
    have k2 : Same F' (upd F' T (.tup [v, w])) := same_upd (J.b.fnone hT)
    exact ⟨_, J.alloc hT _, k2, Rq.tup upd_same (.cons ((rv.same k).same k2) (.cons ((rw.same k).same k2) .nil))⟩
def iZipU (a : PTA) : PTI := fun env R E => a env (fun ss => match ss with
  | [.d (.list ds), .d (.list es)] => R (zipD ds es)
  | [.d (.tuple ds), .d (.tuple es)] => R (zipD ds es)
  | [.d (.list ds), .d (.tuple es)] => R (zipD ds es)
  | _ => False) E
theorem pui_zipU {pa : PTA} (hm : X.mg "zip" = none) (ha : PuA X c W [e, e2] pa) (hg : Gl X "zip" := by rfl)
    (hs : starEach [e, e2] X.env = (false, eval e X.env) :: starEach [e2] X.env := by rfl) (hpl : (backTo pos (starEach [e2] X.env)).any (·.1) = false := by rfl) :
    PuI X c W (.Tuple elts kk tpos) (.Call (.Name "zip" p) [e, e2] [] pos) (iZipU pa) := by
  obtain ⟨ta, ha, ra⟩ := ha
  refine ⟨_, pi_z2 hg hm ha hs hpl, fun H0 F0 env F σ H R E Q J L hp fin => ra _ _ _ _ _ _ _ _ _ J L hp fun vs ss F1 H1 J1 k1 r1 h1 => ?_⟩
  split at h1
  · obtain ⟨v, w, rfl, rv, rw⟩ := rs2 r1
    cases rv with
    | lst ea ra =>
      cases rw with
      | lst eb rb => exact ⟨_, _, _, _, rfl, .inl ⟨sqL (J1.b.sub _ _ ea), sqL (J1.b.sub _ _ eb), fin _ F1 H1 _ J1 k1 (walk_zl ea ra eb rb) h1⟩⟩
  · obtain ⟨v, w, rfl, rv, rw⟩ := rs2 r1
    cases rv with
    | tup ea ra =>
      cases rw with
      | tup eb rb => exact ⟨_, _, _, _, rfl, .inr (.inl ⟨sqT (J1.b.sub _ _ ea), sqT (J1.b.sub _ _ eb), fin _ F1 H1 _ J1 k1 (walk_zt ea ra eb rb) h1⟩)⟩
  · obtain ⟨v, w, rfl, rv, rw⟩ := rs2 r1
    cases rv with
    | lst ea ra =>
      cases rw with
      | tup eb rb => exact ⟨_, _, _, _, rfl, .inr (.inr ⟨sqL (J1.b.sub _ _ ea), sqT (J1.b.sub _ _ eb), fin _ F1 H1 _ J1 k1 (walk_zlt ea ra eb rb) h1⟩)⟩
  · exact h1.elim
end
end Px
namespace Px
open PySem PySem.Spec PyProof.Rows L2 Lx
/-! ### lists of one's own -/
section
variable {c : Cc} {H0 F0 F H : Hp} {env : Ev} {σ : St} {q : Addr}
theorem Rel.own (R : Rel c H0 F0 env F σ H) {ys : List V} {ds : List PyData} (i : Nat) (hF : F q = none) (h0 : Nw H0 q) (h : H q = some (.lst ys)) (r : RqAll F ys ds) (ne : ∀ (j : Nat) (xs : List PyData), j ≠ i → env[j]? = some (some (.own xs)) → σ[j]? ≠ some (some (.ref q))) :
    Rel c H0 F0 (env.set i (some (.own ds))) F (σ.set i (some (.ref q))) H := by
  refine ⟨R.b, by rw [List.length_set, List.length_set]; exact R.len, fun j ov s' e1 e2 => ?_, fun j k p xs zs e1 e2 e3 e4 => ?_⟩
  · by_cases hij : i = j
    · subst hij
      have h1 : i < σ.length := by
        have := (List.getElem?_eq_some_iff.mp e1).1
        simpa using this
      rw [List.getElem?_set_self h1] at e1
      rw [List.getElem?_set_self (by rw [← R.len]; exact h1)] at e2
      cases e1
      cases e2
      exact ⟨q, ys, rfl, hF, h0, h, r⟩
    · rw [List.getElem?_set_ne hij] at e1 e2
      exact R.sl j ov s' e1 e2
  · by_cases hj : i = j
    · by_cases hk : i = k
      · exact hj.symm.trans hk
      · subst hj
        have h1 : i < σ.length := by
          have := (List.getElem?_eq_some_iff.mp e3).1
          simpa using this
        rw [List.getElem?_set_self h1] at e3
        cases e3
        rw [List.getElem?_set_ne hk] at e2 e4
        exact absurd e4 (ne k zs (Ne.symm hk) e2)
    · by_cases hk : i = k
      · subst hk
        have h1 : i < σ.length := by
          have := (List.getElem?_eq_some_iff.mp e4).1
          simpa using this
        rw [List.getElem?_set_self h1] at e4
        cases e4
        rw [List.getElem?_set_ne hj] at e1 e3
        exact absurd e3 (ne j xs (Ne.symm hj) e1)
      · rw [List.getElem?_set_ne hj] at e1 e3
        rw [List.getElem?_set_ne hk] at e2 e4
        exact R.sep j k p xs zs e1 e2 e3 e4
/-- one's own list is shown: it is data from now on -/
theorem Rel.show (R : Rel c H0 F0 env F σ H) {i : Nat} {ds : List PyData} (h : nth env i = some (.own ds)) : ∃ F', Rel c H0 F0 (env.set i (some (.d (.list ds)))) F' σ H ∧ Same F F' := by
  obtain ⟨ov, e1, q, ys, e2, hF, h0, hq, r⟩ := R.get (nth_eq _ _ h)
  subst e2
  have k : Same F (upd F q (.lst ys)) := same_upd hF
  have ne : ∀ (j : Nat) (xs : List PyData), j ≠ i → env[j]? = some (some (.own xs)) → σ[j]? ≠ some (some (.ref q)) := fun j xs hj e z => hj (R.sep j i q xs ds e (nth_eq _ _ h) z e1)
  refine ⟨upd F q (.lst ys), ⟨R.b.freeze hq hF h0, by rw [List.length_set]; exact R.len, fun j ov s' e3 e4 => ?_, fun j l p xs zs e3 e4 e5 e6 => ?_⟩, k⟩
  · by_cases hij : i = j
    · subst hij
      have h1 : i < env.length := by
        have := (List.getElem?_eq_some_iff.mp e4).1
        simpa using this
      rw [List.getElem?_set_self h1] at e4
      cases e4
      rw [e1] at e3
      cases e3
      exact ⟨.ref q, rfl, Rq.lst upd_same (r.same k)⟩
    · rw [List.getElem?_set_ne hij] at e4
      have r2 := R.sl j ov s' e3 e4
      cases s' with
      | none => exact True.intro
      | some s' =>
        cases s' with
        | d x => obtain ⟨v, e, rv⟩ := r2; exact ⟨v, e, rv.same k⟩
        | raw v => exact r2
        | exc p C fs => exact ⟨r2.1, r2.2.same k⟩
        | obj C fs => exact ⟨r2.choose, r2.choose_spec.1, r2.choose_spec.2.same k⟩
        | slf x C fs =>
          obtain ⟨dx, gs, e, a1, a2, a3, a4, a5⟩ := r2
          have np : x ≠ q := fun z => by rw [z, hq] at a3; cases a3
          exact ⟨dx, gs, e, by rw [upd_ne np]; exact a1, a2, a3, a4, a5.same k⟩
        | tab kvs => exact ⟨r2.choose, r2.choose_spec.1, r2.choose_spec.2.same k⟩
        | ownT kvs =>
          obtain ⟨p, us, e, a1, a2, a3, a4, a5⟩ := r2
          have np : p ≠ q := fun z => by rw [z, hq] at a3; cases a3
          exact ⟨p, us, e, by rw [upd_ne np]; exact a1, a2, a3, a4, a5.same k⟩
        | own xs =>
          obtain ⟨p, us, e, a1, a2, a3, a4⟩ := r2
          have np : p ≠ q := fun z => ne j xs (Ne.symm hij) e4 (by rw [e3, e, z])
          exact ⟨p, us, e, by rw [upd_ne np]; exact a1, a2, a3, a4.same k⟩
  · have n1 : i ≠ j := fun z => by
      subst z
      rw [List.getElem?_set_self (by have := (List.getElem?_eq_some_iff.mp e3).1; simpa using this)] at e3
      cases e3
    have n2 : i ≠ l := fun z => by
      subst z
      rw [List.getElem?_set_self (by have := (List.getElem?_eq_some_iff.mp e4).1; simpa using this)] at e4
      cases e4
    rw [List.getElem?_set_ne n1] at e3
    rw [List.getElem?_set_ne n2] at e4
    exact R.sep j l p xs zs e3 e4 e5 e6
end
section
variable {X : Cx} {c : Cc} {W : WX}
/-- x = [..], x one's own from now on -/
def psOwn (i : Nat) (a : PTA) : PTS := fun P env => a env (fun ss => allD ss fun ds => ds.length ≤ 1000 ∧ P.nx (env.set i (some (.own ds)))) P.ex
theorem pus_own {i : Nat} {x : Str} {es : List Expr} {p pos pos' : Pos} {pa : PTA} (hN : X.N.Nodup) (ha : PuA X c W es pa) (hi : X.N[i]? = some x := by rfl) (hx : Loc X.env.scope x := by first | exact .inl rfl | exact .inr rfl) (hs : swapsWith (.List es p) (some (.Name x pos')) pos.line X.env = pure false := by rfl)
    (hf : X.fn x = true ∨ X.env.scope.names.lookup x = some .local := by first | exact .inl rfl | exact .inr rfl | assumption) : PuS X c W (.Assign [.Name x pos'] (.List es p) pos) (psOwn i pa) := by
  obtain ⟨ta, ha, ra⟩ := ha
  refine ⟨_, ps_set hN hi hx (pe_lst ha) hs hf, fun H0 F0 env F σ H D P J L h => ?_⟩
  refine ra _ _ _ _ _ _ _ _ _ J L.ex h fun vs ss F1 H1 J1 k1 r1 h1 => ?_
  obtain ⟨ds, r2, hl, q⟩ := allD_d r1 h1
  refine ⟨by rw [r2.len]; exact Nat.le_trans hl (by decide), fun p hp => ?_⟩
  have J2 := J1.new hp (.lst vs)
  exact L.nx _ F1 _ _ (J2.own i (J1.b.fnone hp) (J1.b.h0 hp) upd_same r2 fun j xs _ e1 e2 => own_ne J1 hp j xs e1 e2) k1 q
/-- x.append(e), x one's own -/
def psApp (i : Nat) (a : PTE) : PTS := fun P env => match nth env i with
  | some (.own ds) => a env (fun s => match s with
    | .d y => ds.length ≤ 1000000 ∧ P.nx (env.set i (some (.own (ds ++ [y]))))
    | _ => False) P.ex
  | _ => False
theorem pus_app {i : Nat} {x : Str} {e : Expr} {p apos cpos pos : Pos} {pa : PTE} (ha : PuE X c W e pa) (hN : X.N[i]? = some x := by rfl) (hv : Vis X.env.scope x := by first | exact Or.inl rfl | exact Or.inr (Or.inl rfl) | exact Or.inr (Or.inr rfl))
    (hd : (x == ("__debug__" : Str)) = false := by decide) (hcd : (x == ("__classdict__" : Str)) = false := by decide) (hline : (apos.endLine == cpos.line) = true := by rfl) (he : starEach [e] X.env = (false, eval e X.env) :: starEach [] X.env := by rfl)
    (hbase : attributeBase (.Name x p) "append" X.env (eval (.Name x p) X.env) = eval (.Name x p) X.env := by rfl)
    (hfew : ((backTo cpos (starEach [e] X.env)).all (fun x => !x.1) && (backToKw cpos (keywordEach [] X.env)).all (fun x => x.1.isSome) && decide ([e].length + ([] : List Keyword).length + (if ([] : List Keyword).isEmpty then 0 else 1) < 30)) = true := by rfl)
    (hs : swapsWith (.Call (.Attribute (.Name x p) "append" apos) [e] [] cpos) none pos.line X.env = pure false := by rfl) : PuS X c W (.Expr (.Call (.Attribute (.Name x p) "append" apos) [e] [] cpos) pos) (psApp i pa) := by
  obtain ⟨ta, ha, ra⟩ := ha
  refine ⟨_, ps_expr (pe_bm PySem.F.plainAttrs_list PySem.F.slot_list_append PySem.F.type_list_append mt_append (pv i hN hv hd hcd) (pa_cons ha pa_nil he) hbase hfew hline he (by rfl)) hs, fun H0 F0 env F σ H D P J L h => ?_⟩
  unfold psApp at h
  split at h
  · rename_i ds hn
    obtain ⟨ov, e1, q, ys, e2, hF, h0, hq, r⟩ := J.get (nth_eq _ _ hn)
    subst e2
    refine ⟨.ref q, e1, tyL hq, ?_⟩
    refine ra _ _ _ _ _ _ _ _ _ J L.ex h fun v s F1 H1 J1 k1 r1 h1 => ?_
    split at h1
    · obtain ⟨ov', e1', q', ys', e2', hF', h0', hq', r'⟩ := J1.get (nth_eq _ _ hn)
      rw [e1] at e1'
      cases e1'
      cases e2'
      have ne : ∀ (j : Nat) (xs : List PyData), j ≠ i → env[j]? = some (some (.own xs)) → σ[j]? ≠ some (some (.ref q)) := fun j xs hj e z => hj (J1.sep j i q xs ds e (nth_eq _ _ hn) z e1)
      refine ⟨q, ys', v, rfl, rfl, hq', by rw [r'.len]; exact Nat.lt_of_le_of_lt h1.1 (by decide), ?_⟩
      have B := J1.b.wr (zs := ys' ++ [v]) hq' hF' h0'
      have J2 : Rel c H0 F0 (env.set i none) F1 (σ.set i (some (.ref q))) H1 := J1.any i _
      have J3 : Rel c H0 F0 (env.set i none) F1 (σ.set i (some (.ref q))) (upd H1 q (.lst (ys' ++ [v]))) := J2.wrAt hq' hF' h0' fun j xs e z => by
        have hji : j ≠ i := fun z' => by
          subst z'
          rw [List.getElem?_set_self (by have := (List.getElem?_eq_some_iff.mp e).1; simpa using this)] at e
          cases e
        rw [List.getElem?_set_ne (Ne.symm hji)] at e z
        exact ne j xs hji e z
      have J4 := J3.own (ds := ds ++ [_]) i hF' h0' upd_same (r'.app (.cons r1 .nil)) fun j xs hj e z => by
        rw [List.getElem?_set_ne (Ne.symm hj)] at e z
        exact ne j xs hj e z
      have es : (σ.set i (some (V.ref q))).set i (some (V.ref q)) = σ := by
        rw [List.set_set]
        exact List.ext_getElem? fun j => by
          by_cases hj : i = j
          · subst hj
            rw [List.getElem?_set_self (List.getElem?_eq_some_iff.mp e1).1, e1]
          · rw [List.getElem?_set_ne hj]
      rw [es, List.set_set] at J4
      exact L.nx _ F1 σ _ J4 k1 h1.2
    · exact h1.elim
  · exact h.elim
/-- from here on the list in the slot is data -/
def psShow (i : Nat) (p : PTS) : PTS := fun P env => match nth env i with
  | some (.own ds) => p P (env.set i (some (.d (.list ds))))
  | _ => False
theorem pus_show {sts : List Stmt} {p : PTS} (i : Nat) (h : PuSs X c W sts p) : PuSs X c W sts (psShow i p) := by
  obtain ⟨t, ht, r⟩ := h
  refine ⟨t, ht, fun H0 F0 env F σ H D P J L h => ?_⟩
  unfold psShow at h
  split at h
  · rename_i ds hn
    obtain ⟨F', J', k⟩ := J.show hn
    exact r _ _ _ _ _ _ D P J' (L.with k) h
  · exact h.elim

/-! ### the caught exception -/
/-- isinstance(e, C) -/
def uIsP (p : Addr × Obj) (ok : Addr → Prop) (b : Addr → Bool) : Sl → (Sl → Prop) → Prop := fun x R => match x with
  | .exc p' C _ => p' = p ∧ ok C ∧ R (.d (.bool (b C)))
  | _ => False
/-- e.n -/
def uFld (p : Addr × Obj) (ok : Addr → Prop) (n : Str) : Sl → (Sl → Prop) → Prop := fun x R => match x with
  | .exc p' C ds => p' = p ∧ ok C ∧ ∃ d, ds.lookup n = some d ∧ R (.d d)
  | _ => False
theorem look_rel {F : Hp} {n : Str} {d : PyData} : ∀ {fs : List (Str × V)} {ds : FD}, fs.map (·.1) = ds.map (·.1) → RqAll F (fs.map (·.2)) (ds.map (·.2)) → ds.lookup n = some d → ∃ v, fs.lookup n = some v ∧ Rq F v d
  | [], [], _, _, h => by cases h
  | [], _ :: _, e, _, _ => by simp at e
  | _ :: _, [], e, _, _ => by simp at e
  | (m, v) :: fs, (m', d') :: ds, e, r, h => by
    simp only [List.map_cons, List.cons.injEq] at e
    obtain ⟨e1, e2⟩ := e
    have e1 : m = m' := e1
    subst e1
    cases r with
    | cons r1 r2 =>
      rw [List.lookup_cons] at h ⊢
      cases q : n == m with
      | true =>
        rw [q] at h
        cases h
        exact ⟨v, rfl, r1⟩
      | false =>
        rw [q] at h
        exact look_rel e2 r2 h
theorem ExcV.at {F H : Hp} (k : Same F H) {p : Addr × Obj} {C : Addr} {ds : FD} (h : ExcV F p C ds) : ∃ fs, ExcAt H p C fs ∧ fs.map (·.1) = ds.map (·.1) ∧ RqAll F (fs.map (·.2)) (ds.map (·.2)) := by
  obtain ⟨h1, h2, h3⟩ := h
  rcases h3 with ⟨e, rfl⟩ | ⟨a, fs, e, q, m, r⟩
  · exact ⟨[], ⟨h1, h2, .inl ⟨e, rfl⟩⟩, rfl, .nil⟩
  · exact ⟨fs, ⟨h1, h2, .inr ⟨a, e, k _ _ q⟩⟩, m, r⟩
theorem pu_isP {p : Addr × Obj} {ok : Addr → Prop} {b : Addr → Bool} {x y : Str} {i : Nat} {q q2 q3 pos : Pos} {C' : Addr} {pa : PTE} {e : Expr} (hp : p ∈ X.pn) (hm : X.mg "isinstance" = none) (hC : X.mg y = some (.ref C')) (hok : ∀ C, ok C → XcF X.K C ∧ PySem.W.kitOne X.K (.ref C) (.ref C') = some (b C)) (ha : PuE X c W e pa)
    (hg : Gl X "isinstance" := by rfl) (hg2 : Gl X y := by rfl) (hd : (y == ("__debug__" : Str)) = false := by decide)
    (h1 : starEach [e, .Name y q2] X.env = (false, eval e X.env) :: starEach [.Name y q2] X.env := by rfl) (h2 : starEach [Expr.Name y q2] X.env = (false, eval (.Name y q2) X.env) :: starEach [] X.env := by rfl) (hpl : (backTo pos (starEach [Expr.Name y q2] X.env)).any (·.1) = false := by rfl) :
    PuE X c W (.Call (.Name "isinstance" q) [e, .Name y q2] [] pos) (pUn (uIsP p ok b) pa) := by
  obtain ⟨ta, ha, ra⟩ := ha
  refine ⟨_, pe_callB (call_isP hp) hg hm (by decide +kernel) (pa_cons ha (pa_cons (pe_glob (v := .ref C') hg2 hC rfl hd) pa_nil h2) h1) (by decide) (by decide) h1 hpl, fun H0 F0 env F σ H R E Q J L hq fin => ?_⟩
  refine ra _ _ _ _ _ _ _ _ _ J L hq fun v s F1 H1 J1 k1 r1 q1 => ?_
  cases s with
  | exc p' C ds =>
    obtain ⟨rfl, hC1, q1⟩ := q1
    obtain ⟨rfl, ex⟩ := r1
    obtain ⟨fs, he, _, _⟩ := ex.at J1.b.sub
    obtain ⟨xf, kt⟩ := hok C hC1
    exact rr_isP he xf kt (fun _ h => h) (fin _ (.d _) F1 H1 J1 k1 (Rq.bl _) q1)
  | _ => exact q1.elim
theorem pu_fld {p : Addr × Obj} {ok : Addr → Prop} {e : Expr} {pos : Pos} {n : Str} {pa : PTE} (hp : p ∈ X.pn) (hok : ∀ C, ok C → XcF X.K C ∧ PySem.W.findIn X.K (.ref C) n = some none) (ha : PuE X c W e pa) (hb : attributeBase e n X.env (eval e X.env) = eval e X.env := by rfl) : PuE X c W (.Attribute e n pos) (pUn (uFld p ok n) pa) := by
  obtain ⟨ta, ha, ra⟩ := ha
  refine ⟨_, pe_fldP hp ha hb, fun H0 F0 env F σ H R E Q J L hq fin => ?_⟩
  refine rr_fldP (ra _ _ _ _ _ _ _ _ _ J L hq fun v s F1 H1 J1 k1 r1 q1 => ?_)
  cases s with
  | exc p' C ds =>
    obtain ⟨rfl, hC1, d, hd, q1⟩ := q1
    obtain ⟨rfl, ex⟩ := r1
    obtain ⟨fs, he, m, rr⟩ := ex.at J1.b.sub
    obtain ⟨w, hw, rw⟩ := look_rel m rr hd
    obtain ⟨xf, nf⟩ := hok C hC1
    exact ⟨rfl, C, fs, w, he, xf, nf, hw, fin w (.d d) F1 H1 J1 k1 rw q1⟩
  | _ => exact q1.elim
end
end Px
namespace Px
open PySem PySem.Spec PyProof.Rows L2 Lx
/-! ### defs that are handed the caught exception -/
def KpE (P : Program) (w : World) (K : PySem.W.Frag) (mg : Str → Option Value) (base : Heap) (c : Cc) (k : Nat) (x : Str) (ps : List Str) (sp : Addr × Obj → PSp) : Prop := KeepsE P w K mg base k x ps fun p => lift c ps.length (sp p)
def pdNo (R : Sl → Prop) : PD := ⟨fun _ => R (.d .none), R, fun _ => False, fun _ => False, ENo⟩
theorem hu65H {A : Around} {k : Nat} (hr : L2H.RoomH k A) : A.units + 65 < cLine := by have := hr.un; omega
theorem hu64H {A : Around} {k : Nat} (hr : L2H.RoomH k A) : A.units + 64 < cLine := by have := hr.un; omega
section
variable {P : Program} {w : World} {K : PySem.W.Frag} {mg : Str → Option Value} {base : Heap} {x : Str} {st : Stmt} {N ps : List Str} {k : Nat} {sp : Addr × Obj → PSp} {c : Cc}
theorem keepEP (F : Has K mg x st) (b : BindsBy x st ps) (S : FnScope N ps (defScope st))
    (hbody : ∀ (f : Addr) (cdv : Value) (A : Around) (outer : List Env) (s : Shared) (H : Hp) (E : XK) (p : Addr × Obj), L2H.RoomH k (A.deeper (envOfC x (defScope st) s.heap.objs.size f cdv)) →
      (A.deeper (envOfC x (defScope st) s.heap.objs.size f cdv)).guards = some [] → p ∈ (L2H.cxH CX0 P w K mg base N x (defScope st) f cdv A outer s H E p).nox.pn →
      ∃ pt, PuSs (L2H.cxH CX0 P w K mg base N x (defScope st) f cdv A outer s H E p).nox c WNo (defBody st) pt ∧ ∀ ss R EX, ss.length = ps.length → sp p ss R EX → pt (pdNo R) (startP N ss)) :
    KpE P w K mg base c (k + 1) x ps sp := by
  refine keepE F b S (fun p vs H Q E h => ?_) fun f cdv A outer s H vs Q E p hr hg h => ?_
  · obtain ⟨G, ss, R, EX, _, rs, hl, _⟩ := h
    rw [rs.len, hl]
  · obtain ⟨G, ss, R, EX, B, rs, hl, hp, hq, he⟩ := h
    obtain ⟨pt, ⟨t, ht, hrd⟩, hpure⟩ := hbody f cdv A outer s H E p hr hg List.mem_cons_self
    refine ⟨t, ht, hrd H G (startP N ss) G (L2.start N vs) H _ (pdNo R) (rel_start B rs N) ⟨?_, ?_, ?_, ?_, link_no⟩ (hpure ss R EX hl hp)⟩
    · exact fun env' F' σ' H' J _ q => hq .non (.d .none) F' H' J.b Rq.non q
    · exact fun v s F' H' B' rv q => hq v s F' H' B' rv q
    · exact fun env' F' σ' H' J _ q => q.elim
    · exact fun env' F' σ' H' J _ q => q.elim
end
section
variable {X : Cx} {c : Cc} {W : WX}
def pCallE (n : Nat) (sp : PSp) (a : PTA) : PTE := fun env R E => a env (fun ss => ss.length = n ∧ sp ss R fun _ _ => False) E
theorem pu_callE {j k : Nat} {ps : List Str} {sp : Addr × Obj → PSp} {p : Addr × Obj} {x : Str} {q pos : Pos} {e : Expr} {es : List Expr} {pa : PTA} (D : KpE X.prog X.w X.K X.mg X.base c j x ps sp) (hr : L2H.RoomH k X.A) (hg : X.A.guards = some []) (hp : p ∈ X.pn) (ha : PuA X c W (e :: es) pa)
    (hjk : j ≤ k := by decide) (hgl : Gl X x := by rfl) (hdb : (x == ("__debug__" : Str)) = false := by decide) (he : starEach (e :: es) X.env = (false, eval e X.env) :: starEach es X.env := by rfl)
    (hpl : (backTo pos (starEach es X.env)).any (·.1) = false := by rfl) : PuE X c W (.Call (.Name x q) (e :: es) [] pos) (pCallE ps.length (sp p) pa) := by
  obtain ⟨ta, ha, ra⟩ := ha
  refine ⟨_, pcE D hr hg hp ha hjk hgl hdb he hpl, fun H0 F0 env F σ H R E Q J L hq fin => ?_⟩
  refine ra _ _ _ _ _ _ _ _ _ J L hq fun vs ss F1 H1 J1 k1 r1 h1 => ?_
  exact ⟨F1, ss, R, fun _ _ => False, J1.b.here, r1, h1.1, h1.2, fun v s F' H' B rv q => fin v s F' H' (J1.after B) (same_trans k1 B.fF) rv q, fun C d ds F' H' B x q => q⟩
end
/-- the exception classes of the package, in their order: names and fields -/
abbrev ClsTab := List (Str × List Str)
structure Tc (K : PySem.W.Frag) (mg : Str → Option Value) (S : Addr) (tab : ClsTab) (Cs : Nat → Addr) : Prop where
  xc : ∀ i, i < tab.length → XcF K (Cs i)
  kit : ∀ i j, i < tab.length → j < tab.length → PySem.W.kitOne K (.ref (Cs i)) (.ref (Cs j)) = some (decide (Cs i = Cs j))
  inj : ∀ i j, i < tab.length → j < tab.length → Cs i = Cs j → i = j
  ve : ∀ i, i < tab.length → PySem.W.kitOne K (.ref (Cs i)) (.type "ValueError") = some true
  sub : ∀ i, i < tab.length → PySem.W.exmOne K (.ref (Cs i)) (.ref S) = some true
  gS : mg "StepError" = some (.ref S)
  g : ∀ i x fs, tab[i]? = some (x, fs) → mg x = some (.ref (Cs i))
  nf : ∀ i x fs, tab[i]? = some (x, fs) → ∀ f ∈ fs, PySem.W.findIn K (.ref (Cs i)) f = some none
def okC (tab : ClsTab) (Cs : Nat → Addr) (C : Addr) : Prop := ∃ i, i < tab.length ∧ C = Cs i
def okF (tab : ClsTab) (Cs : Nat → Addr) (n : Str) (C : Addr) : Prop := ∃ i x fs, tab[i]? = some (x, fs) ∧ n ∈ fs ∧ C = Cs i
section
variable {X : Cx} {c : Cc} {W : WX} {S : Addr} {tab : ClsTab} {Cs : Nat → Addr} {p : Addr × Obj} {e : Expr} {pa : PTE}
theorem pu_isC {y : Str} {fs : List Str} {q q2 pos : Pos} (T : Tc X.K X.mg S tab Cs) (j : Nat) (hj : tab[j]? = some (y, fs)) (hp : p ∈ X.pn) (hm : X.mg "isinstance" = none) (ha : PuE X c W e pa)
    (hg : Gl X "isinstance" := by rfl) (hg2 : Gl X y := by rfl) (hd : (y == ("__debug__" : Str)) = false := by decide)
    (h1 : starEach [e, .Name y q2] X.env = (false, eval e X.env) :: starEach [.Name y q2] X.env := by rfl) (h2 : starEach [Expr.Name y q2] X.env = (false, eval (.Name y q2) X.env) :: starEach [] X.env := by rfl) (hpl : (backTo pos (starEach [Expr.Name y q2] X.env)).any (·.1) = false := by rfl) :
    PuE X c W (.Call (.Name "isinstance" q) [e, .Name y q2] [] pos) (pUn (uIsP p (okC tab Cs) fun C => decide (C = Cs j)) pa) :=
  pu_isP (x := y) (i := 0) (q3 := q) hp hm (T.g j y fs hj) (fun C hC => by
    obtain ⟨i, hi, rfl⟩ := hC
    exact ⟨T.xc i hi, T.kit i j hi (List.getElem?_eq_some_iff.mp hj).1⟩) ha hg hg2 hd h1 h2 hpl
theorem pu_fldC {pos : Pos} {n : Str} (T : Tc X.K X.mg S tab Cs) (hp : p ∈ X.pn) (ha : PuE X c W e pa) (hb : attributeBase e n X.env (eval e X.env) = eval e X.env := by rfl) : PuE X c W (.Attribute e n pos) (pUn (uFld p (okF tab Cs n) n) pa) :=
  pu_fld hp (fun C hC => by
    obtain ⟨i, x, fs, hi, hn, rfl⟩ := hC
    exact ⟨T.xc i (List.getElem?_eq_some_iff.mp hi).1, T.nf i x fs hi n hn⟩) ha hb
end
end Px
namespace Px
open PySem PySem.Spec PyProof.Rows L2 Lx
/-! ### the signs of what repr gives -/
def Sv (x : Str) : Prop := ∀ c ∈ x.cps.toList, c < 1114112
theorem Sv.app {x y : Str} (a : Sv x) (b : Sv y) : Sv (x ++ y) := fun c hc => by
  have e : (x ++ y).cps = x.cps ++ y.cps := rfl
  rw [e, Array.toList_append, List.mem_append] at hc
  exact hc.elim (a c) (b c)
theorem sv_of (s : String) : Sv (Str.ofString s) := fun c hc => by
  rw [Str.ofString_eq_toList] at hc
  simp only [List.mem_map] at hc
  obtain ⟨d, _, rfl⟩ := hc
  have := d.valid
  have h2 : d.toNat < 1114112 := by
    have h3 : d.val.toNat < 0xd800 ∨ (0xdfff < d.val.toNat ∧ d.val.toNat < 0x110000) := d.valid
    show d.val.toNat < 1114112
    omega
  exact h2
theorem sv_char {q c : Nat} (hq : q < 1114112) (hc : c < 1114112) : ∀ d ∈ Builtin.Str.reprChar q c, d < 1114112 := by
  have hex : ∀ w : Nat, ∀ d ∈ (List.replicate (w - ((Nat.toDigits 16 c).map Char.toNat).length) 48 ++ (Nat.toDigits 16 c).map Char.toNat), d < 1114112 := fun w d hd => by
    rcases List.mem_append.mp hd with h | h
    · rw [(List.mem_replicate.mp h).2]; decide
    · obtain ⟨e, _, rfl⟩ := List.mem_map.mp h
      have h3 : e.val.toNat < 0xd800 ∨ (0xdfff < e.val.toNat ∧ e.val.toNat < 0x110000) := e.valid
      have h2 : e.toNat < 1114112 := by show e.val.toNat < 1114112; omega
      exact h2
  intro d hd
  unfold Builtin.Str.reprChar at hd
  dsimp only at hd
  have two : ∀ (a b : Nat) (l : List Nat), a < 1114112 → b < 1114112 → (∀ z ∈ l, z < 1114112) → ∀ z ∈ [a, b] ++ l, z < 1114112 := fun a b l ha hb hl z hz => by
    simp only [List.cons_append, List.nil_append, List.mem_cons] at hz
    rcases hz with rfl | rfl | h
    · exact ha
    · exact hb
    · exact hl _ h
  repeat' split at hd
  · exact two 92 c [] (by decide) hc (by simp) d (by simpa using hd)
  · exact two 92 110 [] (by decide) (by decide) (by simp) d (by simpa using hd)
  · exact two 92 114 [] (by decide) (by decide) (by simp) d (by simpa using hd)
  · exact two 92 116 [] (by decide) (by decide) (by simp) d (by simpa using hd)
  · rw [List.mem_singleton.mp hd]; exact hc
  · exact two _ _ _ (by decide) (by decide) (hex 2) d hd
  · exact two _ _ _ (by decide) (by decide) (hex 4) d hd
  · exact two _ _ _ (by decide) (by decide) (hex 8) d hd
theorem sv_fold {q : Nat} (hq : q < 1114112) : ∀ (l : List Nat) (acc : Array Nat), (∀ c ∈ l, c < 1114112) → (∀ c ∈ acc.toList, c < 1114112) → ∀ d ∈ (l.foldl (fun out c => out ++ (Builtin.Str.reprChar q c).toArray) acc).toList, d < 1114112
  | [], acc, _, h => h
  | c :: r, acc, hl, h => sv_fold hq r _ (fun d hd => hl d (List.mem_cons_of_mem _ hd)) fun d hd => by
    rw [Array.toList_append, List.mem_append] at hd
    rcases hd with z | z
    · exact h d z
    · exact sv_char hq (hl c List.mem_cons_self) d (by simpa using z)
theorem sv_quote (x : Str) : reprQuote x < 1114112 := by
  unfold reprQuote
  split <;> decide
theorem sv_repr {x : Str} (h : Sv x) : Sv (reprText x) := fun c hc => by
  unfold reprText at hc
  rw [Array.toList_push, List.mem_append] at hc
  rcases hc with z | z
  · rw [← Array.foldl_toList] at z
    exact sv_fold (sv_quote x) x.cps.toList _ h (fun d hd => by
      have e : d = reprQuote x := by simpa using hd
      rw [e]; exact sv_quote x) c z
  · rw [List.mem_singleton.mp z]; exact sv_quote x
theorem sv_from : ∀ (ts : List Str) (k : Nat) (acc : Str), Sv acc → (∀ t ∈ ts, Sv t) → Sv (textFrom k acc ts)
  | [], _, acc, h, _ => h
  | t :: r, k, acc, h, ht => sv_from r (k + 1) _ ((h.app (sv_of _)).app (ht t List.mem_cons_self)) fun u hu => ht u (List.mem_cons_of_mem _ hu)
theorem sv_list {ts : List Str} (h : ∀ t ∈ ts, Sv t) : Sv (listText ts) := (sv_from ts 0 _ (sv_of "[") h).app (sv_of "]")
theorem sv_join : ∀ ts : List Str, (∀ t ∈ ts, Sv t) → Sv (Str.join ", " ts)
  | [], _ => fun c hc => by
    have : c ∈ ([] : List Nat) := hc
    cases this
  | [x], h => h x List.mem_cons_self
  | x :: y :: r, h => ((h x List.mem_cons_self).app (sv_of ", ")).app (sv_join (y :: r) fun u hu => h u (List.mem_cons_of_mem _ hu))
theorem sv_tuple {ts : List Str} (h : ∀ t ∈ ts, Sv t) : Sv (tupleText ts) := ((sv_of "(").app (sv_join ts h)).app (sv_of _)
theorem sv_dict {ts : List Str} (h : ∀ t ∈ ts, Sv t) : Sv (dictText ts) := ((sv_of "{").app (sv_join ts h)).app (sv_of "}")
mutual
/-- texts within have plain signs -/
def plainS : PyData → Bool
  | .str x => x.cps.all (· < 1114112)
  | .list xs => plainSs xs
  | .tuple xs => plainSs xs
  | .dict kvs => plainSk kvs
  | _ => true
def plainSs : List PyData → Bool
  | [] => true
  | x :: xs => plainS x && plainSs xs
def plainSk : List (PyData × PyData) → Bool
  | [] => true
  | (k, v) :: r => plainS k && plainS v && plainSk r
end
mutual
theorem sv_shown : ∀ d : PyData, plainS d = true → Sv d.shown
  | .none, _ => sv_of "None"
  | .bool b, _ => by cases b; exact sv_of "False"; exact sv_of "True"
  | .int i, _ => sv_of (toString i)
  | .str x, h => sv_repr fun c hc => by
    have h' : x.cps.all (· < 1114112) = true := by simpa only [plainS] using h
    rw [← Array.all_toList] at h'
    exact of_decide_eq_true (List.all_eq_true.mp h' c hc)
  | .list xs, h => sv_list (sv_shownAll xs (by simpa only [plainS] using h))
  | .tuple xs, h => sv_tuple (sv_shownAll xs (by simpa only [plainS] using h))
  | .dict kvs, h => sv_dict (sv_shownKv kvs (by simpa only [plainS] using h))
theorem sv_shownAll : ∀ xs : List PyData, plainSs xs = true → ∀ t ∈ PyData.shownAll xs, Sv t
  | [], _, t, ht => by simp [PyData.shownAll] at ht
  | x :: xs, h, t, ht => by
    have h' : plainS x = true ∧ plainSs xs = true := by simpa only [plainSs, Bool.and_eq_true] using h
    simp only [PyData.shownAll, List.mem_cons] at ht
    rcases ht with rfl | z
    · exact sv_shown x h'.1
    · exact sv_shownAll xs h'.2 t z
theorem sv_shownKv : ∀ xs : List (PyData × PyData), plainSk xs = true → ∀ t ∈ PyData.shownKv xs, Sv t
  | [], _, t, ht => by simp [PyData.shownKv] at ht
  | (k, v) :: xs, h, t, ht => by
    have h' : (plainS k = true ∧ plainS v = true) ∧ plainSk xs = true := by simpa only [plainSk, Bool.and_eq_true] using h
    simp only [PyData.shownKv, List.mem_cons] at ht
    rcases ht with rfl | z
    · exact ((sv_shown k h'.1.1).app (sv_of ": ")).app (sv_shown v h'.1.2)
    · exact sv_shownKv xs h'.2 t z
end
theorem strOk_of {x : Str} (h : Sv x) : PyData.strOk x = true := by
  unfold PyData.strOk
  rw [← Array.all_toList]
  exact List.all_eq_true.mpr fun c hc => decide_eq_true (h c hc)
theorem strOk_shown {d : PyData} (h : plainS d = true) : PyData.strOk d.shown = true := strOk_of (sv_shown d h)
end Px
namespace Px
open PySem PySem.Spec PyProof.Rows L2 Lx
/-! ### defs that make lambdas -/
/-- the def st stands under its name, its code object is at cd -/
def HasC (K : PySem.W.Frag) (mg : Str → Option Value) (x : Str) (st : Stmt) (cd : Addr) : Prop := ∃ f fd, Fun K x x st f fd ∧ mg x = some (.ref f) ∧ fd.code = .ref cd
section
variable {P : Program} {w : World} {K : PySem.W.Frag} {mg : Str → Option Value} {base : Heap} {x qual : Str} {st : Stmt} {N ps : List Str} {k : Nat} {c : Cc} {cd : Addr}
theorem HasC.has (F : HasC K mg x st cd) : Has K mg x st := let ⟨f, fd, a, b, _⟩ := F; ⟨f, fd, a, b⟩
/-- a def by its body, guards and code told -/
theorem okGC {CX : CXT} {f : Addr} {fd : FuncData} {sp : Sp} (F : Fun K x qual st f fd) (S : FnScope N ps (defScope st)) (len : ∀ vs H Q E, sp vs H Q E → vs.length = ps.length)
    (hbody : ∀ (A : Around) (outer : List Env) (s : Shared) (H : Hp) (vs : List V) (Q : VK) (E : XK), Room k (A.deeper (envOfC qual (defScope st) s.heap.objs.size f fd.code)) →
      (A.deeper (envOfC qual (defScope st) s.heap.objs.size f fd.code)).guards = some [] → sp vs H Q E →
      ∃ t, PSs (cxOf CX P w K mg base N qual (defScope st) f fd.code A outer s H E) (defBody st) t ∧ t { nx := fun _ H' => Q .non H', rt := Q } (L2.start N vs) H) : FnG P w K mg base CX (k + 1) f fd ps sp := by
  obtain ⟨oc, od, kV, doc, pm, an, cdv, ct, osl, rfl, lk, hcd⟩ := F.ex
  refine ⟨len, fun A outer s H args us vs Q E hr hgd e0 hb r hsp => ?_⟩
  have hl := len _ _ _ _ hsp
  have inK : K.In s.heap := e0.mod.kin.keeps fun b o e => (e0.bs b o e).1
  have kinds : ∀ y ∈ ps.zip us, (defScope st).names.lookup y.1 = some .local ∨ ((defScope st).names.lookup y.1 = some .cell ∧ ((cellsFrom (s.heap.objs.size + 1) (defScope st).names []).lookup y.1).isSome = true) := by
    rintro ⟨n, v⟩ hy
    rcases S.par n (List.of_mem_zip hy).1 with q | q
    · exact .inl q
    · exact .inr ⟨q, PySem.W.cellsFrom_some _ _ _ (.inl q)⟩
  refine codeAny_call_function hr.depth (inK _ _ lk) rfl S.co S.gen rfl (PySem.W.codeRec_of inK hcd) (hb _ _ _ _ (wpAny_newFunctionEnv_cells S.kind kinds fun env he s1 x => ?_))
  subst he
  refine ⟨(e0.mod.nolimit.keeps fun b o e => (e0.bs b o e).1).keeps x.toInCall.keep, codeAny_func ?_⟩
  obtain ⟨t, ht, hq⟩ := hbody A outer s H vs Q E (hr.deeper _) hgd hsp
  exact wpAny_mono (ht.run [] s1 (L2.start N vs) H _ (inv_start (CX := CX) (E := E) S hr.hd e0 hl r x) hq) (fun fl s' hs => by cases fl <;> exact fin_cr rfl rfl rfl rfl rfl rfl hs) fun e s' hs => hs
/-- keepP, the code told -/
theorem keepPC {sp : PSp} (F : HasC K mg x st cd) (b : BindsBy x st ps) (S : FnScope N ps (defScope st))
    (hbody : ∀ (f : Addr) (A : Around) (outer : List Env) (s : Shared) (H : Hp) (E : XK), Room k (A.deeper (envOfC x (defScope st) s.heap.objs.size f (.ref cd))) →
      (A.deeper (envOfC x (defScope st) s.heap.objs.size f (.ref cd))).guards = some [] →
      ∃ pt, PuSs (cxOf (L2.CX P w) P w K mg base N x (defScope st) f (.ref cd) A outer s H E) c (WF E) (defBody st) pt ∧ ∀ ss R EX, ss.length = ps.length → sp ss R EX → pt (pdOf R EX) (startP N ss)) :
    Kp P w K mg base c (k + 1) x ps sp := by
  obtain ⟨f, fd, F, hm, hc⟩ := F
  refine ⟨f, fd, okGC F S (fun vs H Q E h => ?_) (fun A outer s H vs Q E hr hg h => ?_), hm, F.kp, F.binds b⟩
  · obtain ⟨F, ss, R, EX, _, rs, hl, _⟩ := h
    rw [rs.len, hl]
  · rw [hc] at hr hg ⊢
    obtain ⟨G, ss, R, EX, B, rs, hl, hp, hq, he⟩ := h
    obtain ⟨pt, ⟨t, ht, hrd⟩, hpure⟩ := hbody f A outer s H E hr hg
    refine ⟨t, ht, hrd H G (startP N ss) G (L2.start N vs) H _ (pdOf R EX) (rel_start B rs N) ⟨?_, ?_, ?_, ?_, ?_⟩ (hpure ss R EX hl hp)⟩
    · exact fun env' F' σ' H' J _ q => hq .non (.d .none) F' H' J.b Rq.non q
    · exact fun v s F' H' B' rv q => hq v s F' H' B' rv q
    · exact fun env' F' σ' H' J _ q => q.elim
    · exact fun env' F' σ' H' J _ q => q.elim
    · exact fun env' F' σ' H' C d ds J x q => he C d ds F' H' J.b x q
end

/-! ### x(lambda: ..): what the call raises -/
abbrev Due := Addr → FD → PyData → Prop
/-- the lambda let an exception out -/
def FaultOut (c : Cc) (due : Due) (Q : VK) : XK := fun cls d H' => ∃ (C : Addr) (ds : FD) (r : PyData) (F' : Hp), cls = .ref C ∧ Bas c H' F' F' H' ∧ ExcD F' d ds ∧ due C ds r ∧ ∀ (v : V) (F'' H'' : Hp), Bas c H' F' F'' H'' → Rq F'' v r → Q v H''
def TTf (c : Cc) (due : Due) : (XK → Hp → VK → Prop) → Hp → VK → Prop := fun tl H Q => ∀ (E : XK) (Q' : VK), (∀ v H', Q .non H' → Q' v H') → (∀ cls d H', FaultOut c due Q cls d H' → E cls d H') → tl E H Q'
def pFault (due : Due) (pe : PTE) : PTE := fun env R E => pe (noOwn env) (fun _ => R (.d .none)) (fun _ C ds => ∃ r, due C ds r ∧ R (.d r))
structure LI where
  A : Around
  outer : List Env
  s : Shared
  H : Hp
  f : Addr
  c' : Addr
section
variable {X : Cx} {c : Cc} {W : WX}
theorem pu_fault {x a : Str} {st : Stmt} {Ng : List Str} {k : Nat} {due : Due} {cd P' : Addr} {params : Arguments} {body : Expr} {scope : Scope} {p lpos pos : Pos} {pe : PTE} (Fl : Has X.K X.mg x st) (b : BindsBy x st [a]) (S : FnScope Ng [a] (defScope st)) (hNg : Ng[0]? = some a) (hva : Vis (defScope st) a)
    (give : ∀ (g : Addr) (cdg : Value), LamX.GivesTo X Ng x (defScope st) g cdg (defBody st) a (X.env.qual ++ "<lambda>") (TTf c due)) (TB : LamX.TabB X.base X.mg cd P') (hcode : X.env.code = .ref cd) (hmT : (P', X.env.qual ++ "<lambda>") ∈ c.T) (hu : ∀ p ∈ c.T, p.1 = P' → p.2 = X.env.qual ++ "<lambda>")
    (hr : Room (k + 2) X.A) (L : LamX.LamS X.env.scope scope) (hbody : ∀ (A : Around) (outer : List Env) (s : Shared) (H : Hp) (E : XK) (f c' : Addr), Room k (A.deeper (LamX.lamEnv X scope s.heap.objs.size f c')) → PuE (LamX.lamCx X A outer s H E scope f c') c (WF E) body pe)
    (hgl : Gl X x := by rfl) (hdef : defaultsOf params X.env = ([], []) := by rfl)
    (hbind : ∀ (q : Str) (cl : List (Str × Addr)) (pm cv ctv : Value), bindArgs (PySem.W.kla_fn "<lambda>" q params body scope cl pm cv ctv) ⟨[], []⟩ = pure [] := by intros; rfl)
    (hdb : (x == ("__debug__" : Str)) = false := by decide) (hd : (a == ("__debug__" : Str)) = false := by decide) (hcd : (a == ("__classdict__" : Str)) = false := by decide) :
    PuE X c W (.Call (.Name x p) [.Lambda params body scope lpos] [] pos) (pFault due pe) := by
  obtain ⟨g, fd, F, hm⟩ := Fl
  obtain ⟨oc, od, kV, doc, pm, an, cdv, ct, osl, rfl, lk, hcg⟩ := F.ex
  have hl : ∀ E : XK, ∃ t, (∀ i : { i : LI // Room k (i.A.deeper (LamX.lamEnv X scope i.s.heap.objs.size i.f i.c')) }, PE (LamX.lamCx X i.1.A i.1.outer i.1.s i.1.H E scope i.1.f i.1.c') body t) ∧ Rd c (WF E) t pe := fun E =>
    unifE fun i => hbody i.1.A i.1.outer i.1.s i.1.H E i.1.f i.1.c' i.2
  refine ⟨_, LamX.pe_lamcall (t := fun E => (hl E).choose) hgl hm F.kp lk hcg (F.binds b) S hNg hva (give g cdv) TB hcode hmT hu hr L hdef hbind (fun A outer s H E f c' h2 => (hl E).choose_spec.1 ⟨⟨A, outer, s, H, f, c'⟩, h2⟩) hdb hd hcd, fun H0 F0 env F σ H R E Q J LK hp fin => ?_⟩
  refine ⟨J.b.tab, fun H1 e1 t1 E' Q' hQ hE => ?_⟩
  have J1 := J.extN e1 t1
  refine (hl E').choose_spec.2 H1 F (noOwn env) F σ H1 (fun _ => R (.d .none)) (fun _ C ds => ∃ r, due C ds r ∧ R (.d r)) Q' J1.inner (fun env' F' σ' H' C d ds J' x h => ?_) hp fun v s F' H' J' k' rv hR => ?_
  · obtain ⟨r, hd, hR⟩ := h
    exact hE (.ref C) d H' ⟨C, ds, r, F', rfl, J'.b.here, x, hd, fun v F'' H'' B rv => fin v (.d r) F'' H'' (J1.after (J'.b.after B)) (same_trans J'.b.fF B.fF) rv hR⟩
  · exact hQ v H' (fin .non (.d .none) F' H' (J1.after J'.b) J'.b.fF Rq.non hR)
end

/-! ### a def held in a name is called -/
/-- f(e, ..), f a local name that holds one of the defs that ok tells -/
def pCallR (i n : Nat) (ok : Addr → Prop) (sp : PSp) (a : PTA) : PTE := fun env R E => (∃ f, nth env i = some (.raw (.ref f)) ∧ ok f) ∧ a env (fun ss => ss.length = n ∧ sp ss R (E env)) E
section
variable {X : Cx} {c : Cc} {W : WX}
def tCallRaw (i : Nat) (ok : Addr → Prop) (sp : Sp) (E : St → XK) (t : TA) : TE := fun σ H Q => ∃ f, σ[i]? = some (some (.ref f)) ∧ ok f ∧ t σ H fun vs H1 => sp vs H1 Q (E σ)
theorem pe_callRaw {k i : Nat} {ok : Addr → Prop} {sp : Sp} {E : St → XK} {x : Str} {e : Expr} {es : List Expr} {t : TA} {p pos : Pos} (hf : ∀ f, ok f → (∃ fd ps, FnOk X.prog X.w X.K X.mg X.base (L2.CX X.prog X.w) k f fd ps sp ∧ Binds X.K fd ps []) ∧ PySem.W.keepIn X.K (.ref f) = true) (hr : Room k X.A) (hx : ∀ σ, PassesAt (L2.CX X.prog X.w) X σ (E σ)) (hN : X.N[i]? = some x) (hv : Vis X.env.scope x) (ha : PA X (e :: es) t)
    (hd : (x == ("__debug__" : Str)) = false := by decide) (hcd : (x == ("__classdict__" : Str)) = false := by decide)
    (he : starEach (e :: es) X.env = (false, eval e X.env) :: starEach es X.env := by rfl) (hpl : (backTo pos (starEach es X.env)).any (·.1) = false := by rfl) : PE X (.Call (.Name x p) (e :: es) [] pos) (tCallRaw i ok sp E t) := by
  refine ⟨fun pins s σ H Q I h => ?_⟩
  obtain ⟨f, hs, hok, h⟩ := h
  obtain ⟨⟨fd, ps, F, hb⟩, hk⟩ := hf f hok
  refine wpAny_Call_Name_kw (thn ((pe_var (pos := p) (i := i) hN hv hd hcd).run pins s σ H (fun v H1 => v = .ref f ∧ H1 = H) I ⟨.ref f, hs, rfl, rfl⟩) fun u s1 z => ?_)
  obtain ⟨v, H1, I1, r1, ev, eH⟩ := z
  subst ev
  rw [eH] at I1
  cases r1
  exact PySem.W.callWith_K (h₀ := X.base) I.ok.mod.kin hk (thn (ha.run pos pins s1 σ H _ I1 h) fun us s2 ⟨vs, H2, I2, r, q⟩ => ⟨I2.kIn, run_fnS F hr hb (hx σ) I2 r q⟩) he hpl
theorem pu_callR {k i n : Nat} {ok : Addr → Prop} {sp : PSp} {x : Str} {e : Expr} {es : List Expr} {pa : PTA} {p pos : Pos} (hf : ∀ f, ok f → (∃ fd ps, FnOk X.prog X.w X.K X.mg X.base (L2.CX X.prog X.w) k f fd ps (lift c n sp) ∧ Binds X.K fd ps []) ∧ PySem.W.keepIn X.K (.ref f) = true) (hr : Room k X.A) (tk : Takes X W) (ha : PuA X c W (e :: es) pa)
    (hN : X.N[i]? = some x := by rfl) (hv : Vis X.env.scope x := by first | exact Or.inl rfl | exact Or.inr (Or.inl rfl) | exact Or.inr (Or.inr rfl)) (hd : (x == ("__debug__" : Str)) = false := by decide) (hcd : (x == ("__classdict__" : Str)) = false := by decide)
    (he : starEach (e :: es) X.env = (false, eval e X.env) :: starEach es X.env := by rfl) (hpl : (backTo pos (starEach es X.env)).any (·.1) = false := by rfl) : PuE X c W (.Call (.Name x p) (e :: es) [] pos) (pCallR i n ok sp pa) := by
  obtain ⟨ta, ha, ra⟩ := ha
  refine ⟨_, pe_callRaw hf hr (fun σ => passAt tk σ) hN hv ha hd hcd he hpl, fun H0 F0 env F σ H R E Q J L hp fin => ?_⟩
  obtain ⟨⟨f, hn, hok⟩, h⟩ := hp
  obtain ⟨ov, e1, e2⟩ := J.get (nth_eq _ _ hn)
  have e2 : ov = some (.ref f) := e2
  exact ⟨f, by rw [e1, e2], hok, rd_call ra _ _ _ _ _ _ _ _ _ J L h fin⟩
end

/-! ### a loop over a tuple of whatever -/
structure WalkS (c : Cc) (J : It) (F : Hp) (ds : List Sl) : Prop where
  stop : ∀ (H0 F0 : Hp) (env : Ev) (F' : Hp) (σ : St) (H : Hp), Rel c H0 F0 env F' σ H → Same F F' → J.stop ds.length H
  go : ∀ (H0 F0 : Hp) (env : Ev) (F' : Hp) (σ : St) (H : Hp) (i : Nat) (d : Sl), Rel c H0 F0 env F' σ H → Same F F' → ds[i]? = some d → J.go i H ∧ ∀ (x : V) (H3 : Hp), J.yld i H x H3 → ∃ F3, Rel c H0 F0 env F3 σ H3 ∧ Same F' F3 ∧ RelS F3 x d
abbrev PTIs := Ev → (List Sl → Prop) → XP → Prop
def RdIs (c : Cc) (W : WX) (wi : TI) (pi : PTIs) : Prop := ∀ (H0 F0 : Hp) (env : Ev) (F : Hp) (σ : St) (H : Hp) (R : List Sl → Prop) (E : XP) (Q : It → Hp → Prop), Rel c H0 F0 env F σ H → LinkX c H0 F0 W E → pi env R E →
  (∀ (J : It) (F' H' : Hp) (ds : List Sl), Rel c H0 F0 env F' σ H' → Same F F' → WalkS c J F' ds → R ds → Q J H') → wi σ H Q
def PuIs (X : Cx) (c : Cc) (W : WX) (tg iter : Expr) (pi : PTIs) : Prop := ∃ wi, PI X tg iter wi ∧ RdIs c W wi pi
def pForS (g : PTG) (body : PTS) : List Sl → PD → Ev → Prop
  | [], P, env => P.nx env
  | d :: l, P, env => g d env fun env' => body { P with nx := pForS g body l P, ct := pForS g body l P, bk := P.nx } env'
def psForS (it : PTIs) (g : PTG) (body : PTS) : PTS := fun P env => it env (fun ds => pForS g body ds P env) P.ex
def iTupS (a : PTA) : PTIs := fun env R E => a env (fun ss => ss.length ≤ 1000 ∧ R ss) E
section
variable {X : Cx} {c : Cc} {W : WX}
theorem pus_forS {tg iter : Expr} {body : List Stmt} {pos : Pos} {pi : PTIs} {pg : PTG} {is : List Nat} {pb : PTS} (hp : PassesOwn (model X.prog X.w) X.A X.env X.xe) (hc : X.calm = true) (hi : PuIs X c W tg iter pi) (hg : PuG X c tg pg is) (hb : PuSs X c W body pb)
    (hs : ∀ x, foldedSetIterable iter X.env x = pure x := by intro _; rfl) : PuS X c W (.For tg iter body [] pos) (psForS pi pg pb) := by
  obtain ⟨wi, hi, ri⟩ := hi
  obtain ⟨g, hg, rg⟩ := hg
  obtain ⟨tb, hb, rb⟩ := hb
  refine ⟨_, ps_for hp hc hi hg hb hs, fun H0 F0 env F σ H D P J L h => ri _ _ _ _ _ _ _ _ _ J L.ex h fun I F1 H1 ds J1 k1 wk h1 => ?_⟩
  refine ⟨fun i m σ H => i + m = ds.length ∧ ∃ env' F', Rel c H0 F0 env' F' σ H ∧ Same F1 F' ∧ pForS pg pb (ds.drop i) P env', ⟨ds.length, by omega, env, F1, J1, same_refl F1, by simpa using h1⟩, fun i m σ2 H2 hW => ?_⟩
  obtain ⟨hm, env2, F2, J2, k2, h2⟩ := hW
  cases m with
  | zero =>
    obtain rfl : i = ds.length := by omega
    rw [List.drop_length] at h2
    exact .inl ⟨wk.stop _ _ _ _ _ _ J2 k2, L.nx env2 F2 σ2 H2 J2 (same_trans k1 k2) h2⟩
  | succ m =>
    have hi : i < ds.length := by omega
    rw [show ds.drop i = ds[i] :: ds.drop (i + 1) from List.drop_eq_getElem_cons hi] at h2
    obtain ⟨go, yl⟩ := wk.go _ _ _ _ _ _ i ds[i] J2 k2 (List.getElem?_eq_getElem hi)
    refine .inr ⟨go, fun σ' H' => ∃ env' F', Rel c H0 F0 env' F' σ' H' ∧ Same F1 F' ∧ pForS pg pb (ds.drop (i + 1)) P env', fun σ' H' z => ⟨m, by omega, by omega, z⟩, fun x H3 hy => ?_⟩
    obtain ⟨F3, J3, k3, r3⟩ := yl x H3 hy
    refine rg _ _ _ _ _ _ _ ds[i] _ _ J3 r3 h2 fun env4 σ4 J4 _ _ h4 => ?_
    have up : ∀ {G : Hp}, Same F3 G → Same F1 G := fun k' => same_trans k2 (same_trans k3 k')
    exact rb _ _ _ _ _ _ _ { P with nx := pForS pg pb (ds.drop (i + 1)) P, ct := pForS pg pb (ds.drop (i + 1)) P, bk := P.nx } J4
      ⟨fun e G s h J' k' q => ⟨e, G, J', up k', q⟩, L.rt, fun e G s h J' k' q => L.nx e G s h J' (same_trans k1 (up k')) q, fun e G s h J' k' q => ⟨e, G, J', up k', q⟩, L.ex⟩ h4
theorem pui_tupS {tg : Expr} {es : List Expr} {k : Nat} {pos : Pos} {pa : PTA} (ha : PuA X c W es pa) : PuIs X c W tg (.Tuple es k pos) (iTupS pa) := by
  obtain ⟨ta, ha, ra⟩ := ha
  refine ⟨_, pi_seq (pe_tup ha), fun H0 F0 env F σ H R E Q J L hp fin => ra _ _ _ _ _ _ _ _ _ J L hp fun vs ss F1 H1 J1 k1 r1 h1 => ?_⟩
  refine ⟨by rw [r1.len]; exact Nat.le_trans h1.1 (by decide), fun p hp => ?_⟩
  have k2 : Same F1 (upd F1 p (.tup vs)) := same_upd (J1.b.fnone hp)
  refine ⟨p, rfl, .inr ⟨⟨vs, sqT upd_same⟩, fin _ (upd F1 p (.tup vs)) _ ss (J1.alloc hp _) (same_trans k1 k2) ⟨?_, ?_⟩ h1.2⟩⟩
  · exact fun H0 F0 env F' σ H J k => ⟨vs, sqT (J.b.sub _ _ (k _ _ upd_same)), by rw [r1.len]; exact Nat.le_refl _⟩
  · refine fun H0 F0 env F' σ H i d J k h => ?_
    obtain ⟨v, e1, rv⟩ := r1.get h
    have q : SqT X.K H p vs := sqT (J.b.sub _ _ (k _ _ upd_same))
    refine ⟨⟨vs, v, q, e1⟩, fun x H3 y => ?_⟩
    obtain ⟨y1, y2⟩ := y
    subst y1
    have z := y2 vs q
    rw [e1] at z
    cases z
    exact ⟨F', J, same_refl _, rv.same (same_trans k2 k)⟩
end

/-! ### isinstance(e, ValueError) of the caught exception -/
section
variable {X : Cx} {c : Cc} {W : WX}
theorem pu_isVE {p : Addr × Obj} {ok : Addr → Prop} {q q2 pos : Pos} {pa : PTE} {e : Expr} (hp : p ∈ X.pn) (hm : X.mg "isinstance" = none) (hv : X.mg "ValueError" = none) (hok : ∀ C, ok C → XcF X.K C ∧ PySem.W.kitOne X.K (.ref C) (.type "ValueError") = some true) (ha : PuE X c W e pa)
    (hg : Gl X "isinstance" := by rfl) (hg2 : Gl X "ValueError" := by rfl)
    (h1 : starEach [e, .Name "ValueError" q2] X.env = (false, eval e X.env) :: starEach [.Name "ValueError" q2] X.env := by rfl) (h2 : starEach [Expr.Name "ValueError" q2] X.env = (false, eval (.Name "ValueError" q2) X.env) :: starEach [] X.env := by rfl) (hpl : (backTo pos (starEach [Expr.Name "ValueError" q2] X.env)).any (·.1) = false := by rfl) :
    PuE X c W (.Call (.Name "isinstance" q) [e, .Name "ValueError" q2] [] pos) (pUn (uIsP p ok fun _ => true) pa) := by
  obtain ⟨ta, ha, ra⟩ := ha
  refine ⟨_, pe_callB (call_isP hp) hg hm (by decide +kernel) (pa_cons ha (pa_cons (pe_bltn (v := .ty "ValueError") (u := .type "ValueError") hg2 hv PyProof.Rows.Boot.«ValueError» rfl) pa_nil h2) h1) (by decide) (by decide) h1 hpl, fun H0 F0 env F σ H R E Q J L hq fin => ra _ _ _ _ _ _ _ _ _ J L hq fun v s F1 H1 J1 k1 r1 q1 => ?_⟩
  cases s with
  | exc p' C ds =>
    obtain ⟨rfl, hC1, q1⟩ := q1
    obtain ⟨rfl, ex⟩ := r1
    obtain ⟨fs, he, _, _⟩ := ex.at J1.b.sub
    obtain ⟨xf, kt⟩ := hok C hC1
    exact rr_isP he xf kt (fun _ h => h) (fin _ (.d _) F1 H1 J1 k1 (Rq.bl _) q1)
  | _ => exact q1.elim
end
/-! ### contracts made weaker -/
section
variable {P : Program} {w : World} {K : PySem.W.Frag} {mg : Str → Option Value} {base : Heap} {k : Nat} {f : Addr} {fd : FuncData} {ps : List Str} {x : Str} {c : Cc} {sp sp' : PSp}
theorem lift_imp {n : Nat} (h : ∀ ss R EX, sp' ss R EX → sp ss R EX) {vs : List V} {H : Hp} {Q : VK} {E : XK} (q : lift c n sp' vs H Q E) : lift c n sp vs H Q E :=
  let ⟨F, ss, R, EX, B, rs, hl, hp, r⟩ := q; ⟨F, ss, R, EX, B, rs, hl, h _ _ _ hp, r⟩
theorem KpO.imp (D : KpO P w K mg base c k x ps sp) (h : ∀ ss R EX, sp' ss R EX → sp ss R EX) : KpO P w K mg base c k x ps sp' := by
  obtain ⟨f, fd, F, r⟩ := D.ex
  exact ⟨f, fd, ⟨fun vs H Q E q => F.len vs H Q E (lift_imp h q), fun A outer s H args us vs Q E hr e0 hb r q => F.run A outer s H args us vs Q E hr e0 hb r (lift_imp h q)⟩, r⟩
theorem KpO.mono {j : Nat} (D : KpO P w K mg base c j x ps sp) (h : j ≤ k) : KpO P w K mg base c k x ps sp := by
  obtain ⟨f, fd, F, r⟩ := D.ex
  exact ⟨f, fd, ⟨F.len, fun A outer s H args us vs Q E hr e0 hb r q => F.run A outer s H args us vs Q E (hr.mono h) e0 hb r q⟩, r⟩
end
end Px
namespace Px
open PySem PySem.Spec PyProof.Rows L2 Lx
/-! ### ratios as data -/
def ratD (q : Rat) : PyData := if q.den = 1 then .int q.num else .tuple [.int q.num, .int (q.den : Nat)]
/-- what the code divides by -/
def byOf (a b : Int) : Int := if 0 < b then ((Nat.gcd a.natAbs b.natAbs : Nat) : Int) else -((Nat.gcd a.natAbs b.natAbs : Nat) : Int)
theorem gcd_pos {a b : Int} (hb : b ≠ 0) : 0 < Nat.gcd a.natAbs b.natAbs := Nat.gcd_pos_of_pos_right _ (by omega)
theorem byOf_ne {a b : Int} (hb : b ≠ 0) : byOf a b ≠ 0 := by
  have := gcd_pos (a := a) hb
  unfold byOf
  split <;> omega
theorem byOf_abs {a b : Int} : (byOf a b).natAbs = Nat.gcd a.natAbs b.natAbs := by
  unfold byOf
  split <;> omega
theorem fdiv_ex {k d : Int} (hd : d ≠ 0) : (k * d).fdiv d = k := Int.mul_fdiv_cancel k hd
theorem low_num {a b : Int} (hb : b ≠ 0) : a.fdiv (byOf a b) = (Rat.divInt a b).num := by
  have hg := gcd_pos (a := a) hb
  rw [Rat.num_divInt]
  have e : (b.gcd a : Nat) = Nat.gcd a.natAbs b.natAbs := by rw [Nat.gcd_comm]; rfl
  rw [e]
  obtain ⟨k, hk⟩ : ((Nat.gcd a.natAbs b.natAbs : Nat) : Int) ∣ a := Int.ofNat_dvd_left.mpr (Nat.gcd_dvd_left _ _)
  generalize hG : ((Nat.gcd a.natAbs b.natAbs : Nat) : Int) = g at hk
  have hg' : 0 < g := by omega
  unfold byOf
  rw [hG]
  by_cases h0 : 0 < b
  · rw [if_pos h0, Int.sign_eq_one_of_pos h0, Int.one_mul]
    rw [hk, Int.mul_comm g k, fdiv_ex (by omega), Int.mul_ediv_cancel k (by omega)]
  · rw [if_neg h0, Int.sign_eq_neg_one_of_neg (by omega)]
    rw [hk, show g * k = (-k) * (-g) by rw [Int.neg_mul_neg, Int.mul_comm], fdiv_ex (by omega), show -1 * (-k * -g) = (-k) * g by rw [Int.neg_mul_neg]; rw [Int.neg_mul, Int.neg_mul, Int.one_mul], Int.mul_ediv_cancel (-k) (by omega)]
theorem low_den {a b : Int} (hb : b ≠ 0) : b.fdiv (byOf a b) = ((Rat.divInt a b).den : Nat) := by
  have hg := gcd_pos (a := a) hb
  rw [Rat.den_divInt, if_neg hb]
  have e : (b.gcd a : Nat) = Nat.gcd a.natAbs b.natAbs := by rw [Nat.gcd_comm]; rfl
  rw [e]
  obtain ⟨k, hk⟩ : Nat.gcd a.natAbs b.natAbs ∣ b.natAbs := Nat.gcd_dvd_right _ _
  generalize hG : Nat.gcd a.natAbs b.natAbs = g at hk hg
  rw [hk, Nat.mul_div_cancel_left k hg]
  unfold byOf
  rw [hG]
  by_cases h0 : 0 < b
  · rw [if_pos h0]
    have eb : b = (k : Int) * (g : Int) := by
      have : (b.natAbs : Int) = ((g * k : Nat) : Int) := by rw [hk]
      rw [Int.natAbs_of_nonneg (by omega)] at this
      rw [this, Int.natCast_mul, Int.mul_comm]
    rw [eb, fdiv_ex (by omega)]
  · rw [if_neg h0]
    have eb : b = (k : Int) * (-(g : Int)) := by
      have : (b.natAbs : Int) = ((g * k : Nat) : Int) := by rw [hk]
      rw [Int.ofNat_natAbs_of_nonpos (by omega)] at this
      rw [Int.mul_neg, ← Int.natCast_mul, Nat.mul_comm, ← this]
      omega
    rw [eb, fdiv_ex (by omega)]
theorem low_one {a b : Int} (hb : b ≠ 0) : b = byOf a b ↔ (Rat.divInt a b).den = 1 := by
  have h := low_den (a := a) hb
  have hn := byOf_ne (a := a) hb
  constructor
  · intro e
    rw [← e] at h
    have : b.fdiv b = 1 := by
      have := fdiv_ex (k := 1) hb
      rwa [Int.one_mul] at this
    rw [this] at h
    omega
  · intro e
    rw [e] at h
    -- by divides b
    have hd : byOf a b ∣ b := by
      have : ((byOf a b).natAbs : Nat) ∣ b.natAbs := by rw [byOf_abs]; exact Nat.gcd_dvd_right _ _
      exact Int.natAbs_dvd_natAbs.mp this
    obtain ⟨k, hk⟩ := hd
    have h2 : b.fdiv (byOf a b) = k := by
      conv => lhs; arg 1; rw [hk]
      rw [Int.mul_comm, fdiv_ex hn]
    rw [h2] at h
    rw [h] at hk
    simpa using hk
theorem low_ratD {a b : Int} (hb : b ≠ 0) : ratD (Rat.divInt a b) = if b = byOf a b then .int (a.fdiv (byOf a b)) else .tuple [.int (a.fdiv (byOf a b)), .int (b.fdiv (byOf a b))] := by
  unfold ratD
  rw [low_num hb, low_den hb]
  by_cases h : (Rat.divInt a b).den = 1
  · rw [if_pos h, if_pos ((low_one hb).mpr h)]
  · rw [if_neg h, if_neg fun z => h ((low_one hb).mp z)]
/-- top and bottom of what stands for a ratio -/
def topD : PyData → Int
  | .int i => i
  | .tuple [.int a, _] => a
  | _ => 0
def botD : PyData → Int
  | .tuple [_, .int b] => b
  | _ => 1
theorem topD_rat (q : Rat) : topD (ratD q) = q.num := by
  unfold ratD
  split <;> rfl
theorem botD_rat (q : Rat) : botD (ratD q) = (q.den : Nat) := by
  unfold ratD
  split
  · rename_i h
    rw [h]; rfl
  · rfl
def isIntD : PyData → Bool
  | .int _ => true
  | _ => false
def isRat : PyData → Bool
  | .tuple [.int a, .int b] => decide (1 < b) && (Nat.gcd a.natAbs b.natAbs == 1)
  | .int _ => true
  | _ => false
theorem isRat_rat (q : Rat) : isRat (ratD q) = true := by
  unfold ratD
  split
  · rfl
  · rename_i h
    have h0 := q.den_nz
    have h1 : (1 : Int) < (q.den : Nat) := by omega
    have h2 : Nat.gcd q.num.natAbs q.den = 1 := q.reduced
    simp only [isRat, Int.natAbs_natCast, h2]
    simp [h1]
theorem rat_of {d : PyData} (h : isRat d = true) : ∃ q : Rat, d = ratD q := by
  unfold isRat at h
  split at h
  · rename_i a b
    simp only [Bool.and_eq_true, decide_eq_true_eq, beq_iff_eq] at h
    have hb : ((b.natAbs : Nat) : Int) = b := Int.natAbs_of_nonneg (by omega)
    refine ⟨⟨a, b.natAbs, by omega, h.2⟩, ?_⟩
    unfold ratD
    rw [if_neg (by show b.natAbs ≠ 1; omega)]
    show PyData.tuple [.int a, .int b] = .tuple [.int a, .int ((b.natAbs : Nat) : Int)]
    rw [hb]
  · rename_i i
    exact ⟨⟨i, 1, by decide, by simp [Nat.Coprime]⟩, rfl⟩
  · cases h
theorem divInt_add (p q : Rat) : Rat.divInt (p.num * (q.den : Nat) + q.num * (p.den : Nat)) ((p.den : Nat) * (q.den : Nat)) = p + q := by
  have h1 : ((p.den : Nat) : Int) ≠ 0 := by have := p.den_nz; omega
  have h2 : ((q.den : Nat) : Int) ≠ 0 := by have := q.den_nz; omega
  rw [← Rat.divInt_add_divInt _ _ h1 h2, Rat.num_divInt_den, Rat.num_divInt_den]
theorem divInt_mul (p q : Rat) : Rat.divInt (p.num * q.num) ((p.den : Nat) * (q.den : Nat)) = p * q := by
  rw [← Rat.divInt_mul_divInt, Rat.num_divInt_den, Rat.num_divInt_den]
theorem divInt_cross {a b c d : Int} (hb : b ≠ 0) (hd : d ≠ 0) (h : a * d = c * b) : Rat.divInt a b = Rat.divInt c d := by
  rw [← Rat.divInt_mul_right hd, h, Int.mul_comm b d, Rat.divInt_mul_right hb]
end Px
namespace Px
open PySem PySem.Spec PyProof.Rows L2 Lx
theorem at_0 {α : Type} {a : α} {l : List α} : atI (a :: l) 0 = some a := by
  have := atI_nat (xs := a :: l) (j := 0) (v := a) rfl
  exact this
theorem at_1 {α : Type} {a b : α} {l : List α} : atI (a :: b :: l) 1 = some b := by
  have := atI_nat (xs := a :: b :: l) (j := 1) (v := b) rfl
  exact this
theorem okE_int (a : Int) : okE (.int a) = true := rfl
theorem okE_bool (a : Bool) : okE (.bool a) = true := rfl
theorem okE_none : okE .none = true := rfl
theorem eqv_int (a b : Int) : PyData.eqv (.int a) (.int b) = (a == b) := by simp [PyData.eqv]
theorem eqv_ti (l : List PyData) (b : Int) : PyData.eqv (.tuple l) (.int b) = false := by simp [PyData.eqv]
theorem eqv_rat0 (q : Rat) : PyData.eqv (ratD q) (.int 0) = decide (q.num = 0) := by
  unfold ratD
  split
  · rw [eqv_int]; rfl
  · rename_i h
    rw [eqv_ti]
    have : q.num ≠ 0 := fun z => h (by
      have hr := q.reduced
      rw [z] at hr
      simpa [Nat.Coprime] using hr)
    simp [this]
theorem rat0 {q : Rat} (z : q.num = 0) : ratD q = .int 0 := by
  have hr := q.reduced
  rw [z] at hr
  have : q.den = 1 := by simpa [Nat.Coprime] using hr
  unfold ratD
  rw [if_pos this, z]
theorem okE_rat (q : Rat) : okE (ratD q) = true := by unfold ratD; split <;> rfl
theorem ratD_or (q : Rat) : (∃ i, ratD q = .int i ∧ q.num = i ∧ q.den = 1) ∨ ∃ a b, ratD q = .tuple [.int a, .int b] ∧ q.num = a ∧ (q.den : Int) = b ∧ q.den ≠ 1 := by
  unfold ratD
  split
  · rename_i h; exact .inl ⟨_, rfl, rfl, h⟩
  · rename_i h; exact .inr ⟨_, _, rfl, rfl, rfl, h⟩
theorem ratD_int (i : Int) : ratD (Rat.divInt i 1) = .int i := by
  have h := low_ratD (a := i) (b := 1) (by decide)
  have e : byOf i 1 = 1 := by
    unfold byOf
    rw [if_pos (by decide)]
    simp
  rw [h, e, if_pos rfl]
  have := fdiv_ex (k := i) (d := 1) (by decide)
  rw [Int.mul_one] at this
  rw [this]
theorem ratD_neg (q : Rat) : ratD (-q) = if q.den = 1 then .int (-q.num) else .tuple [.int (-q.num), .int (q.den : Nat)] := rfl
theorem isTy_int_int (i : Int) : isTy "int" (.int i) = true := by simp [isTy, tyN]
theorem isTy_int_tup (l : List PyData) : isTy "int" (.tuple l) = false := by simp [isTy, tyN]
theorem isTy_tup_tup (l : List PyData) : isTy "tuple" (.tuple l) = true := by simp [isTy, tyN]
theorem isTy_tup_int (i : Int) : isTy "tuple" (.int i) = false := by simp [isTy, tyN]
theorem isTy_bool_int (i : Int) : isTy "bool" (.int i) = false := by simp [isTy, tyN]
theorem den_ne (q : Rat) : ((q.den : Nat) : Int) ≠ 0 := by have := q.den_nz; omega
theorem den_pos (q : Rat) : (0 : Int) < ((q.den : Nat) : Int) := by have := q.den_nz; omega
/-- both ways of a case -/
theorem two_b {b : Bool} {A B : Prop} (h1 : b = true → A) (h2 : b = false → B) : (b = true → A) ∧ (b = false → B) := ⟨h1, h2⟩
theorem yes_b {A B : Prop} (h : A) : (true = true → A) ∧ (true = false → B) := ⟨fun _ => h, (fun z => nomatch z)⟩
theorem no_b {A B : Prop} (h : B) : (false = true → A) ∧ (false = false → B) := ⟨(fun z => nomatch z), fun _ => h⟩
def Br (n : Nat) (q : Rat) : Prop := Bn n q.num ∧ Bn n (q.den : Nat)
theorem cm {a b : Nat} {i j : Int} (h1 : Bn a i) (h2 : Bn b j) (h : a + b ≤ 100000000 := by decide) : CMulP i j := ⟨a, b, h1, h2, h⟩
theorem bn_mul {a b n : Nat} {i j : Int} (h1 : Bn a i) (h2 : Bn b j) (h : a + b ≤ n := by decide) : Bn n (i * j) := Nat.lt_of_lt_of_le (wide_lt h1 h2) (Nat.pow_le_pow_right (by decide) h)
theorem bn_add {a b n : Nat} {i j : Int} (h1 : Bn a i) (h2 : Bn b j) (ha : a < n := by decide) (hb : b < n := by decide) : Bn n (i + j) := by
  unfold Bn at *
  have e1 : 2 ^ a ≤ 2 ^ (n - 1) := Nat.pow_le_pow_right (by decide) (by omega)
  have e2 : 2 ^ b ≤ 2 ^ (n - 1) := Nat.pow_le_pow_right (by decide) (by omega)
  have e3 : 2 ^ n = 2 ^ (n - 1) + 2 ^ (n - 1) := by
    rw [← Nat.two_mul, ← Nat.pow_succ']
    congr 1
    omega
  have := Int.natAbs_add_le i j
  omega
theorem bn_mono {a n : Nat} {i : Int} (h1 : Bn a i) (h : a ≤ n := by decide) : Bn n i := Nat.lt_of_lt_of_le h1 (Nat.pow_le_pow_right (by decide) h)
theorem bn_neg {a : Nat} {i : Int} (h1 : Bn a i) : Bn a (-i) := by unfold Bn at *; omega
theorem bn_by {a b : Int} (hb : b ≠ 0) (h : Bn 9000 b) : Bn 9000 (byOf a b) := by
  unfold Bn at *
  rw [byOf_abs]
  exact Nat.lt_of_le_of_lt (Nat.le_of_dvd (by omega) (Nat.gcd_dvd_right _ _)) h
theorem cdiv {a b : Int} (hb : b ≠ 0) (h : Bn 9000 b) (i : Int) : CDivZ i (byOf a b) := ⟨byOf_ne hb, 9000, bn_by hb h, Nat.le_refl _⟩
end Px
namespace Px
open PySem PySem.Spec PyProof.Rows L2 Lx
/-! ### the source of draws, to the bit -/
def spDrawX : Sp := fun vs H Q _ => ∃ (p : Addr) (m : Int) (l : Addr) (ns : List Int) (a d k f : Int), vs = [.ref p, .int m] ∧ PenAt H p l ns a d k f ∧ 0 < m ∧ m < 1073741824 ∧
  ∀ (r a' d' k' f' : Int), 0 ≤ r → r < m → 0 ≤ a' → 0 ≤ d' → 0 ≤ k' → 0 ≤ f' → f' < 2147483648 → Q (.int r) (upd H p (.dK (penL l a' d' k' f')))
def spDrawP (c : Cc) : PSp := fun ss R _ => ∃ m : Int, ss = [.raw (.ref c.p), .d (.int m)] ∧ 0 < m ∧ m < 1073741824 ∧ ∀ r : Int, 0 ≤ r → r < m → R (.d (.int r))
section
variable {P : Program} {w : World} {K : PySem.W.Frag} {mg : Str → Option Value} {base : Heap} {k : Nat} {f : Addr} {fd : FuncData} {ps : List Str} {sp sp' : Sp} {x : Str} {c : Cc}
theorem FnG.toX (F : FnG P w K mg base CX0 k f fd ps sp) : FnG P w K mg base (L2.CX P w) k f fd ps sp :=
  ⟨F.len, fun A outer s H args us vs Q E hr hg e0 hb r h => codeAny_mono (F.run A outer s H args us vs Q E hr hg e0 hb r h) fun r s' q => by
    cases r with
    | error e => exact False.elim q
    | ok fl => cases fl <;> exact q⟩
theorem FnG.imp {CX : CXT} (F : FnG P w K mg base CX k f fd ps sp) (h : ∀ vs H Q E, sp' vs H Q E → sp vs H Q E) : FnG P w K mg base CX k f fd ps sp' :=
  ⟨fun vs H Q E q => F.len vs H Q E (h _ _ _ _ q), fun A outer s H args us vs Q E hr hg e0 hb r q => F.run A outer s H args us vs Q E hr hg e0 hb r (h _ _ _ _ q)⟩
theorem keeps_x (D : Keeps P w K mg base CX0 k x ps sp) (h : ∀ vs H Q E, sp' vs H Q E → sp vs H Q E) : Keeps P w K mg base (L2.CX P w) k x ps sp' := by
  obtain ⟨f, fd, F, r⟩ := D.ex
  exact ⟨f, fd, Px.FnG.imp (Px.FnG.toX F) h, r⟩
/-- the pen after a draw -/
theorem Bas.drawn {F H : Hp} {ns : List Int} {a d q e a' d' q' e' : Int} (B : Bas c H F F H) (hp : PenAt H c.p c.l ns a d q e) (hl : F c.l = some (.lst (ns.map V.int))) (h1 : 0 ≤ a') (h2 : 0 ≤ d') (h3 : 0 ≤ q') (h4 : 0 ≤ e') (h5 : e' < 2147483648) :
    Bas c H F F (upd H c.p (.dK (penL c.l a' d' q' e'))) := by
  have hF : ∀ {b u}, F b = some u → b ≠ c.p := fun e z => by rw [z, B.fx c.p (.inl rfl)] at e; cases e
  refine ⟨fun b u e => ?_, B.fx, ⟨ns, a', d', q', e', ⟨upd_same, ?_, h1, h2, h3, h4, h5⟩, hl⟩, fun pq hpq => ?_, fun b u n _ e => ?_, same_refl F, fun b n => .inl n, B.fT, B.ou⟩
  · rw [upd_ne (hF e)]; exact B.sub b u e
  · rw [upd_ne hp.ne]; exact hp.2.1
  · obtain ⟨ps, e1, tr, hc⟩ := B.tab pq hpq
    refine ⟨ps, by rw [upd_ne fun z => by rw [z, hp.1] at e1; cases e1]; exact e1, tr, fun pos cv hcv => ?_⟩
    obtain ⟨c', e2, e3⟩ := hc pos cv hcv
    refine ⟨c', e2, ?_⟩
    rw [upd_ne fun z => by rw [z, hp.1] at e3; cases e3]
    exact e3
  · rw [upd_ne fun z => n (by rw [z]; exact .inl rfl)]; exact e
theorem kp_draw (D : Keeps P w K mg base CX0 1 "_law_draw" ["pen", "many"] spDrawX) : Kp P w K mg base c 1 "_law_draw" ["pen", "many"] (spDrawP c) := by
  refine keeps_x D fun vs H Q E h => ?_
  obtain ⟨F, ss, R, EX, B, rs, hl, ⟨m, rfl, h0, h1, hR⟩, hq, _⟩ := h
  obtain ⟨v, w, rfl, rv, rw⟩ := rs2 rs
  cases rw
  have rv' : v = V.ref c.p := rv
  subst rv'
  obtain ⟨ns, a, d, k, f, hp, hF⟩ := B.pen
  exact ⟨c.p, m, c.l, ns, a, d, k, f, rfl, hp, h0, h1, fun r a' d' k' f' g1 g2 g3 g4 g5 g6 g7 => hq _ (.d (.int r)) F _ (B.drawn hp hF g3 g4 g5 g6 g7) (Rq.int r) (hR r g1 g2)⟩
/-- _law_pick -/
def spPickP (c : Cc) : PSp := fun ss R _ => ∃ ds : List PyData, ss = [.raw (.ref c.p), .d (.list ds)] ∧ 0 < ds.length ∧ ds.length ≤ 1000 ∧ ∀ d ∈ ds, R (.d d)
theorem atI_mem {α : Type} {l : List α} {r : Int} (h0 : 0 ≤ r) (h1 : r < (l.length : Nat)) : ∃ d, atI l r = some d ∧ d ∈ l := by
  have hk : r.toNat < l.length := by omega
  have e : atI l ((r.toNat : Nat) : Int) = some l[r.toNat] := atI_nat (List.getElem?_eq_getElem hk)
  rw [show ((r.toNat : Nat) : Int) = r by omega] at e
  exact ⟨_, e, List.getElem_mem hk⟩
end
end Px
namespace Px
open PySem PySem.Spec PyProof.Rows L2 Lx
/-! ### steps through a pure reading: an expression by itself, then the rest -/
section
variable {i j : Nat} {pa pb : PTE} {t t' : PTT} {a b rest : PTS} {P : PD} {env : Ev} {R : Bool → Prop} {Rs : Sl → Prop} {E : XP}
theorem set_step (I : Sl → Prop) (h1 : ∀ R : Sl → Prop, (∀ s, I s → R s) → pa env R P.ex) (h2 : ∀ s, I s → rest P (env.set i (some s))) : psSeq (psSet i pa) rest P env := h1 _ h2
theorem asg_step {g : PTG} (I : Sl → Prop) (h1 : ∀ R : Sl → Prop, (∀ s, I s → R s) → pa env R P.ex) (h2 : ∀ s, I s → g s env (rest P)) : psSeq (psAsg pa g) rest P env := h1 _ h2
theorem par_step {pa : PTA} (I : Sl → Sl → Prop) (h1 : ∀ R : List Sl → Prop, (∀ s u, I s u → R [s, u]) → pa env R P.ex) (h2 : ∀ s u, I s u → rest P ((env.set i (some s)).set j (some u))) : psSeq (psPar i j pa) rest P env := h1 _ h2
theorem drop_step (h1 : ∀ R : Sl → Prop, (∀ s, R s) → pa env R P.ex) (h2 : rest P env) : psSeq (psDrop pa) rest P env := h1 _ fun _ => h2
theorem if_no (h1 : ∀ R : Bool → Prop, R false → t env R P.ex) (h2 : rest P env) : psSeq (psIf t a psNext) rest P env := h1 _ ⟨fun z => Bool.noConfusion z, fun _ => h2⟩
theorem if_yes (h1 : ∀ R : Bool → Prop, R true → t env R P.ex) (h2 : a { P with nx := rest P } env) : psSeq (psIf t a b) rest P env := h1 _ ⟨fun _ => h2, fun z => Bool.noConfusion z⟩
theorem if_step (x : Bool) (h1 : ∀ R : Bool → Prop, R x → t env R P.ex) (hT : x = true → a { P with nx := rest P } env) (hF : x = false → b { P with nx := rest P } env) : psSeq (psIf t a b) rest P env := h1 _ ⟨hT, hF⟩
theorem if_opt (x : Bool) (h1 : ∀ R : Bool → Prop, R x → t env R P.ex) (hT : x = true → a { P with nx := rest P } env) (hF : x = false → rest P env) : psSeq (psIf t a psNext) rest P env := h1 _ ⟨hT, hF⟩
theorem if_last (x : Bool) (h1 : ∀ R : Bool → Prop, R x → t env R P.ex) (hT : x = true → a P env) (hF : x = false → b P env) : psIf t a b P env := h1 _ ⟨hT, hF⟩
theorem ret_i (h : pa env P.rt P.ex) : psRet pa P env := h
theorem ret_seq (h : pa env P.rt P.ex) : psSeq (psRet pa) rest P env := h
theorem or_no (h1 : ∀ R : Bool → Prop, R false → t env R E) (h2 : ∀ R : Bool → Prop, R false → t' env R E) (h : R false) : ptOr t t' env R E := h1 _ ⟨fun z => Bool.noConfusion z, fun _ => h2 R h⟩
theorem or_yes (h1 : ∀ R : Bool → Prop, R true → t env R E) (h : R true) : ptOr t t' env R E := h1 _ ⟨fun _ => h, fun z => Bool.noConfusion z⟩
theorem or_two (x y : Bool) (h1 : ∀ R : Bool → Prop, R x → t env R E) (h2 : x = false → ∀ R : Bool → Prop, R y → t' env R E) (h : R (x || y)) : ptOr t t' env R E := h1 _ ⟨fun z => by subst z; exact h, fun z => h2 z R (by subst z; exact h)⟩
theorem and_yes (h1 : ∀ R : Bool → Prop, R true → t env R E) (h2 : ∀ R : Bool → Prop, R true → t' env R E) (h : R true) : ptAnd t t' env R E := h1 _ ⟨fun _ => h2 R h, fun z => Bool.noConfusion z⟩
theorem and_no (h1 : ∀ R : Bool → Prop, R false → t env R E) (h : R false) : ptAnd t t' env R E := h1 _ ⟨fun z => Bool.noConfusion z, fun _ => h⟩
theorem and_two (x y : Bool) (h1 : ∀ R : Bool → Prop, R x → t env R E) (h2 : x = true → ∀ R : Bool → Prop, R y → t' env R E) (h : R (x && y)) : ptAnd t t' env R E := h1 _ ⟨fun z => h2 z R (by subst z; exact h), fun z => by subst z; exact h⟩
theorem not_i (x : Bool) (h1 : ∀ R : Bool → Prop, R x → t env R E) (h : R (!x)) : ptNot t env R E := h1 _ h
theorem tB_i (x : Bool) (h1 : ∀ R : Sl → Prop, R (.d (.bool x)) → pa env R E) (h : R x) : ptB pa env R E := h1 _ h
theorem flt_i {due : Due} (h : pa (noOwn env) (fun _ => Rs (.d .none)) (fun _ C ds => ∃ r, due C ds r ∧ Rs (.d r))) : pFault due pa env Rs E := h
theorem call_i {n : Nat} {sp : PSp} {pas : PTA} (I : List Sl → Prop) (h1 : ∀ R : List Sl → Prop, (∀ ss, I ss → R ss) → pas env R E) (h2 : ∀ ss, I ss → ss.length = n ∧ sp ss Rs (E env)) : pCalln n sp pas env Rs E := h1 _ h2
theorem g2_i {x y : PyData} {N : Ev → Prop} (h : N ((env.set i (some (.d x))).set j (some (.d y)))) : pgTup 2 (pgCons (pgName i) (pgCons (pgName j) pgNil)) (.d (.tuple [x, y])) env N := by
  unfold pgTup
  exact ⟨rfl, show ([] : List PyData) = [] ∧ _ from ⟨rfl, h⟩⟩
theorem eq_i {x y : PyData} (ha : okE x = true) (hb : okE y = true) (h1 : ∀ R : Sl → Prop, R (.d x) → pa env R E) (h2 : ∀ R : Sl → Prop, R (.d y) → pb env R E) (h : Rs (.d (.bool (PyData.eqv x y)))) : pOp oEq pa pb env Rs E := h1 _ (h2 _ ⟨ha, hb, h⟩)
theorem ne_i {x y : PyData} (ha : okE x = true) (hb : okE y = true) (h1 : ∀ R : Sl → Prop, R (.d x) → pa env R E) (h2 : ∀ R : Sl → Prop, R (.d y) → pb env R E) (h : Rs (.d (.bool (!PyData.eqv x y)))) : pOp oNe pa pb env Rs E := h1 _ (h2 _ ⟨ha, hb, h⟩)
theorem cons_i {pas : PTA} {s : Sl} {ss : List Sl} {Ra : List Sl → Prop} (h1 : ∀ R : Sl → Prop, R s → pa env R E) (h2 : ∀ R : List Sl → Prop, R ss → pas env R E) (h : Ra (s :: ss)) : pCons pa pas env Ra E := h1 _ (h2 _ h)
theorem pk_i {c : Cc} {ds : List PyData} {EX : Addr → FD → Prop} (hp : 0 < ds.length) (hl : ds.length ≤ 1000) (h : ∀ d ∈ ds, Rs (.d d)) : spPickP c [.raw (.ref c.p), .d (.list ds)] Rs EX := ⟨ds, rfl, hp, hl, h⟩
theorem dr_i {c : Cc} {m : Int} {EX : Addr → FD → Prop} (hp : 0 < m) (hl : m < 1073741824) (h : ∀ r : Int, 0 ≤ r → r < m → Rs (.d (.int r))) : spDrawP c [.raw (.ref c.p), .d (.int m)] Rs EX := ⟨m, rfl, hp, hl, h⟩
end
end Px
namespace Px
open PySem PySem.Spec PyProof.Rows L2 Lx
/-! ### instances -/
/-- what the written part says of a class whose instances keep data -/
structure ObC (K : PySem.W.Frag) (C : Addr) (fns : List Str) : Prop where
  cls : Cls K C
  nf : ∀ f ∈ fns, NoAttr K C f
section
variable {X : Cx} {c : Cc} {W : WX} {H0 F0 F H : Hp} {env : Ev} {σ : St}
/-- e.f -/
def uAt (C : Addr) (fns : List Str) (f : Str) : Sl → (Sl → Prop) → Prop := fun x R => match x with
  | .obj C' ds => C' = C ∧ f ∈ fns ∧ ∃ d, ds.lookup f = some d ∧ R (.d d)
  | _ => False
theorem pu_at {C : Addr} {fns : List Str} {e : Expr} {pos : Pos} {f : Str} {pa : PTE} (O : ObC X.K C fns) (ha : PuE X c W e pa) (hb : attributeBase e f X.env (eval e X.env) = eval e X.env := by rfl) : PuE X c W (.Attribute e f pos) (pUn (uAt C fns f) pa) := by
  obtain ⟨ta, ha, ra⟩ := ha
  refine ⟨_, pe_fld ha hb, fun H0 F0 env F σ H R E Q J L hq fin => ra _ _ _ _ _ _ _ _ _ J L hq fun v s F1 H1 J1 k1 r1 q1 => ?_⟩
  cases s with
  | obj C' ds =>
    obtain ⟨rfl, hf, d, hd, q1⟩ := q1
    obtain ⟨x, rfl, dx, fs, e1, m, rr⟩ := r1
    obtain ⟨w, hw, rw⟩ := look_rel m rr hd
    exact ⟨x, C', dx, fs, w, rfl, J1.b.sub _ _ e1, O.cls, O.nf f hf, hw, fin w (.d d) F1 H1 J1 k1 rw q1⟩
  | _ => exact q1.elim
/-! #### the instance that is being made -/
theorem putF_map (f : Str) (v : V) : ∀ {fs : List (Str × V)}, f ∉ fs.map (·.1) → putF f v fs = fs ++ [(f, v)]
  | [], _ => rfl
  | (g, x) :: r, h => by
    have h1 : g ≠ f := fun z => h (by rw [z]; exact List.mem_cons_self)
    have h2 : f ∉ r.map (·.1) := fun z => h (List.mem_cons_of_mem _ z)
    show (if g = f then _ else _) = _
    rw [if_neg h1, putF_map f v h2]
    rfl
theorem RqAll.snoc {vs : List V} {ds : List PyData} {v : V} {d : PyData} (h : RqAll F vs ds) (r : Rq F v d) : RqAll F (vs ++ [v]) (ds ++ [d]) := h.app (.cons r .nil)
/-- no instance is being made -/
def noS : Ev → Bool
  | [] => true
  | some (.slf _ _ _) :: _ => false
  | _ :: l => noS l
theorem noS_at : ∀ {l : Ev} {j : Nat} {x C : Addr} {ds : FD}, noS l = true → l[j]? ≠ some (some (.slf x C ds))
  | [], _, _, _, _, _ => by simp
  | s :: l, 0, x, C, ds, h => fun z => by
    have z : s = some (.slf x C ds) := by simpa using z
    subst z
    cases h
  | s :: l, j + 1, x, C, ds, h => fun z => by
    have h' : noS l = true := by
      cases s with
      | none => exact h
      | some s => cases s <;> first | exact h | cases h
    exact noS_at h' (by simpa using z)
/-- its field is set -/
theorem Rel.setF (R : Rel c H0 F0 env F σ H) {i : Nat} {x C : Addr} {ds : FD} {f : Str} {v : V} {d : PyData} (hs : nth env i = some (.slf x C ds)) (hn : noS (env.set i none) = true) (rv : Rq F v d) (hf : f ∉ ds.map (·.1)) :
    ∃ dx fs, σ[i]? = some (some (.ref x)) ∧ H x = some (.ins C dx fs) ∧ fs.length = ds.length ∧ Rel c H0 F0 (env.set i (some (.slf x C (ds ++ [(f, d)])))) F σ (upd H x (.ins C dx (putF f v fs))) := by
  obtain ⟨ov, e1, dx, fs, rfl, a1, a2, a3, m, rr⟩ := R.get (nth_eq _ _ hs)
  have hl : fs.length = ds.length := by
    have := congrArg List.length m
    simpa using this
  have no := R.b.noutO .i a3
  have hF' : ∀ {b u}, F b = some u → b ≠ x := fun e z => by rw [z, a1] at e; cases e
  have ep : putF f v fs = fs ++ [(f, v)] := putF_map f v (by rw [m]; exact hf)
  refine ⟨dx, fs, e1, a3, hl, ⟨⟨fun b u e => ?_, R.b.fx, ?_, fun pq hp => ?_, fun b u n t e => ?_, R.b.fF, R.b.fN, R.b.fT, R.b.ou⟩, by rw [List.length_set]; exact R.len, fun j ov s' e2 e3 => ?_, fun j l q xs ys e2 e3 e4 e5 => ?_⟩⟩
  · rw [upd_ne (hF' e)]; exact R.b.sub b u e
  · obtain ⟨ns, a, d, k, g, ⟨p1, p2, p3⟩, p4⟩ := R.b.pen
    refine ⟨ns, a, d, k, g, ⟨?_, by rw [upd_ne (hF' p4)]; exact p2, p3⟩, p4⟩
    rw [upd_ne fun z => no (by rw [← z]; exact .inl rfl)]; exact p1
  · obtain ⟨ps, q1, tr, hc⟩ := R.b.tab pq hp
    refine ⟨ps, by rw [upd_ne fun z => no (by rw [← z]; exact .inr ⟨_, hp⟩)]; exact q1, tr, fun pos cv hcv => ?_⟩
    obtain ⟨c', q2, q3⟩ := hc pos cv hcv
    refine ⟨c', q2, ?_⟩
    rw [upd_ne fun z => by rw [z, a3] at q3; cases q3]
    exact q3
  · rw [upd_ne fun z => by rw [z] at e; obtain ⟨ps, z'⟩ := a2 u e; exact t ps z']; exact R.b.fr b u n t e
  · by_cases hij : i = j
    · subst hij
      have h2 : i < env.length := by
        have := (List.getElem?_eq_some_iff.mp e3).1
        simpa using this
      rw [List.getElem?_set_self h2] at e3
      cases e3
      rw [e1] at e2
      cases e2
      refine ⟨dx, putF f v fs, rfl, a1, a2, upd_same, ?_, ?_⟩
      · rw [ep, List.map_append, List.map_append, m]; rfl
      · rw [ep, List.map_append, List.map_append]; exact rr.snoc rv
    · rw [List.getElem?_set_ne hij] at e3
      have r2 := R.sl j ov s' e2 e3
      cases s' with
      | none => exact True.intro
      | some s' =>
        cases s' with
        | d y => exact r2
        | raw u => exact r2
        | exc p C' ds' => exact r2
        | obj C' ds' => exact r2
        | tab kvs => exact r2
        | ownT kvs =>
          obtain ⟨p, us, q1, b1, b2, b3, b4⟩ := r2
          exact ⟨p, us, q1, b1, b2, by rw [upd_ne fun z => by rw [z, a3] at b3; cases b3]; exact b3, b4⟩
        | own xs =>
          obtain ⟨p, us, q1, b1, b2, b3, b4⟩ := r2
          exact ⟨p, us, q1, b1, b2, by rw [upd_ne fun z => by rw [z, a3] at b3; cases b3]; exact b3, b4⟩
        | slf y C' ds' =>
          exact absurd (show (env.set i none)[j]? = _ by rw [List.getElem?_set_ne hij]; exact e3) (noS_at hn)
  · have n1 : i ≠ j := fun z => by
      subst z
      have h2 : i < env.length := by
        have := (List.getElem?_eq_some_iff.mp e2).1
        simpa using this
      rw [List.getElem?_set_self h2] at e2
      cases e2
    have n2 : i ≠ l := fun z => by
      subst z
      have h2 : i < env.length := by
        have := (List.getElem?_eq_some_iff.mp e3).1
        simpa using this
      rw [List.getElem?_set_self h2] at e3
      cases e3
    rw [List.getElem?_set_ne n1] at e2
    rw [List.getElem?_set_ne n2] at e3
    exact R.sep j l q xs ys e2 e3 e4 e5
/-- self.f = e, in __init__ -/
def psFld (i : Nat) (fns : List Str) (f : Str) (a : PTE) : PTS := fun P env => a env (fun s => match s with
  | .d x => match nth env i with
    | some (.slf y C ds) => f ∉ ds.map (·.1) ∧ f ∈ fns ∧ ds.length < 1000 ∧ noS (env.set i none) = true ∧ P.nx (env.set i (some (.slf y C (ds ++ [(f, x)]))))
    | _ => False
  | _ => False) P.ex
/-- which class is made -/
def ofC (C : Addr) (i : Nat) (a : PTS) : PTS := fun P env => (∃ x ds, nth env i = some (.slf x C ds)) ∧ a P env
theorem pus_fld {C : Addr} {fns : List Str} {i : Nat} {x f : Str} {value : Expr} {xp pos pos' : Pos} {pa : PTE} (O : ObC X.K C fns) (ha : PuE X c W value pa) (hN : X.N[i]? = some x := by rfl) (hv : Vis X.env.scope x := by first | exact Or.inl rfl | exact Or.inr (Or.inl rfl) | exact Or.inr (Or.inr rfl))
    (hd : (x == ("__debug__" : Str)) = false := by decide) (hcd : (x == ("__classdict__" : Str)) = false := by decide) (hs : swapsWith value (some (.Attribute (.Name x xp) f pos')) pos.line X.env = pure false := by rfl) : PuS X c W (.Assign [.Attribute (.Name x xp) f pos'] value pos) (ofC C i (psFld i fns f pa)) := by
  obtain ⟨ta, ha, ra⟩ := ha
  refine ⟨_, ps_fld (pv i hN hv hd hcd) ha hs, fun H0 F0 env F σ H D P J L h => ?_⟩
  obtain ⟨⟨x0, ds0, hi⟩, h⟩ := h
  refine ra _ _ _ _ _ _ _ _ _ J L.ex h fun v s F1 H1 J1 k1 r1 q1 => ?_
  cases s with
  | d y =>
    rw [hi] at q1
    obtain ⟨q2, q3, q4, q5, q6⟩ := q1
    obtain ⟨dx, fs, e1, e2, hl, J2⟩ := J1.setF (v := v) hi q5 r1 q2
    exact ⟨.ref x0, e1, x0, C, dx, fs, rfl, e2, O.cls, O.nf f q3, by rw [hl]; exact q4, L.nx _ F1 _ _ J2 k1 q6⟩
  | _ => exact q1.elim
end
/-! #### __init__ -/
abbrev PIs := List Sl → (FD → Prop) → (Addr → FD → Prop) → Prop
def liftI (c : Cc) (C : Addr) (n : Nat) (sp : PIs) : Sp := fun vs H Q E => ∃ (H1 : Hp) (x dx : Addr) (ws : List V) (F : Hp) (ss : List Sl) (R : FD → Prop) (EX : Addr → FD → Prop), vs = .ref x :: ws ∧ H1 x = none ∧ H1 dx = none ∧ dx ≠ x ∧ H = upd (upd H1 dx (.own x)) x (.ins C dx []) ∧
  Bas c H1 F F H1 ∧ RelSs F ws ss ∧ ss.length = n ∧ sp ss R EX ∧
  (∀ (ds : FD) (dx' : Addr) (fs : List (Str × V)) (F' H' : Hp), Bas c H1 F F' H' → F' x = none → H' x = some (.ins C dx' fs) → fs.map (·.1) = ds.map (·.1) → RqAll F' (fs.map (·.2)) (ds.map (·.2)) → R ds → Q .non H') ∧
  (∀ (C' : Addr) (d : Option Addr) (ds : FD) (F' H' : Hp), Bas c H1 F F' H' → ExcD F' d ds → EX C' ds → E (.ref C') d H')
def pdI (x C : Addr) (R : FD → Prop) (EX : Addr → FD → Prop) : PD := ⟨fun env => ∃ ds, nth env 0 = some (.slf x C ds) ∧ R ds, fun _ => False, fun _ => False, fun _ => False, fun _ => EX⟩
section
variable {P : Program} {w : World} {K : PySem.W.Frag} {mg : Str → Option Value} {base : Heap} {c : Cc} {k : Nat} {C : Addr} {st : Stmt} {qual y : Str} {N ps : List Str} {f : Addr} {fd : FuncData} {sp : PIs}
theorem keepI {s0 : Str} (Fu : Fun K y qual st f fd) (S : FnScope (s0 :: N) (s0 :: ps) (defScope st))
    (hbody : ∀ (f : Addr) (cdv : Value) (A : Around) (outer : List Env) (s : Shared) (H : Hp) (E : XK), Room k (A.deeper (envOfC qual (defScope st) s.heap.objs.size f cdv)) →
      ∃ pt, PuSs (cxOf (L2.CX P w) P w K mg base (s0 :: N) qual (defScope st) f cdv A outer s H E) c (WF E) (defBody st) pt ∧ ∀ x ss R EX, ss.length = ps.length → sp ss R EX → pt (pdI x C R EX) (some (.slf x C []) :: startP N ss)) :
    FnOk P w K mg base (L2.CX P w) (k + 1) f fd (s0 :: ps) (liftI c C ps.length sp) := by
  refine Fu.okX S (fun vs H Q E h => ?_) (fun cdv A outer s H vs Q E hr h => ?_)
  · obtain ⟨H1, x, dx, ws, F, ss, R, EX, rfl, _, _, _, _, _, rs, hl, _⟩ := h
    rw [List.length_cons, List.length_cons, rs.len, hl]
  · obtain ⟨H1, x, dx, ws, F, ss, R, EX, rfl, nx, nd, ne, rfl, B, rs, hl, hp, hq, he⟩ := h
    obtain ⟨pt, ⟨t, ht, hrd⟩, hpure⟩ := hbody f cdv A outer s _ E hr
    have B2 : Bas c H1 F F (upd (upd H1 dx (.own x)) x (.ins C dx [])) := (B.new nd).new (by rw [upd_ne (Ne.symm ne)]; exact nx)
    have J0 := rel_start B rs N
    have es : L2.start (s0 :: N) (V.ref x :: ws) = some (.ref x) :: L2.start N ws := by
      unfold L2.start
      simp
    have J : Rel c H1 F (some (.slf x C []) :: startP N ss) F (L2.start (s0 :: N) (V.ref x :: ws)) (upd (upd H1 dx (.own x)) x (.ins C dx [])) := by
      rw [es]
      refine ⟨B2, by rw [List.length_cons, List.length_cons, J0.len], fun i ov s' e1 e2 => ?_, fun i j q xs ys e1 e2 e3 e4 => ?_⟩
      · cases i with
        | zero =>
          cases e1
          cases e2
          exact ⟨dx, [], rfl, B.fnone nx, .of nx, upd_same, rfl, .nil⟩
        | succ i =>
          refine (J0.sl i ov s' (by simpa using e1) (by simpa using e2)).same (same_refl F) fun q o ho f1 f2 f3 => ⟨f1, ?_⟩
          have n1 : q ≠ x := fun z => by rw [z, nx] at f3; cases f3
          have n2 : q ≠ dx := fun z => by rw [z, nd] at f3; cases f3
          rw [upd_ne n1, upd_ne n2]; exact f3
      · cases i with
        | zero => cases e1
        | succ i => cases j with
          | zero => cases e2
          | succ j => exact congrArg (· + 1) (J0.sep i j q xs ys (by simpa using e1) (by simpa using e2) (by simpa using e3) (by simpa using e4))
    refine ⟨t, ht, hrd H1 F _ F _ _ _ (pdI x C R EX) J ⟨?_, ?_, ?_, ?_, ?_⟩ (hpure x ss R EX hl hp)⟩
    · rintro env' F' σ' H' J' _ ⟨ds, hn, hR⟩
      obtain ⟨ov, e1, dx', fs, rfl, a1, a2, a3, m, rr⟩ := J'.get (nth_eq _ _ hn)
      exact hq ds dx' fs F' H' J'.b a1 a3 m rr hR
    · exact fun v s F' H' B' rv q => q.elim
    · exact fun env' F' σ' H' J _ q => q.elim
    · exact fun env' F' σ' H' J _ q => q.elim
    · exact fun env' F' σ' H' C d ds J x q => he C d ds F' H' J.b x q
end
/-- a class of the program by its name, its __init__'s contract -/
structure KpI (P : Program) (w : World) (K : PySem.W.Frag) (mg : Str → Option Value) (base : Heap) (c : Cc) (k : Nat) (x : Str) (C : Addr) (n : Nat) (sp : PIs) : Prop where
  ex : ∃ f fd ps, L2.Mk K C f ∧ FnOk P w K mg base (L2.CX P w) k f fd ps (liftI c C n sp) ∧ mg x = some (.ref C) ∧ L2.Binds K fd ps []
/-- C(e, ..) -/
def pMake (C : Addr) (n : Nat) (sp : PIs) (a : PTA) : PTE := fun env R E => a env (fun ss => ss.length = n ∧ sp ss (fun ds => R (.obj C ds)) (E env)) E
section
variable {X : Cx} {c : Cc} {W : WX}
theorem run_makeS {k : Nat} {f C : Addr} {fd : FuncData} {ps : List Str} {sp : Sp} {E : St → XK} {pins : List (Addr × Obj)} {σ : L2.St} {H : Hp} {s : Shared} {Q : VK} {us : List Value} {vs : List V} (M : L2.Mk X.K C f) (F : FnOk X.prog X.w X.K X.mg X.base (L2.CX X.prog X.w) k f fd ps sp) (hr : Room (k + 1) X.A) (hb : L2.Binds X.K fd ps [])
    (hx : ∀ σ, PassesAt (L2.CX X.prog X.w) X σ (E σ)) (I : Inv X pins σ H s) (r : Vals vs us)
    (h : ∀ x dx, H x = none → H dx = none → dx ≠ x → sp (.ref x :: vs) (upd (upd H dx (.own x)) x (.ins C dx [])) (fun v H2 => v = .non ∧ Q (.ref x) H2) (E σ)) :
    wpAny (model X.prog X.w) X.A (call (.ref C) us) (EP X pins σ Q) X.xe s := by
  have nb : s.heap.objs.size ≠ s.heap.objs.size + 1 := by omega
  have hq := h (s.heap.objs.size + 1) s.heap.objs.size (I.hok.fresh (by omega)) (I.hok.fresh (by omega)) nb
  have I2 := Inv.made (C := C) I
  have r2 : Vals (V.ref (s.heap.objs.size + 1) :: vs) (Value.ref (s.heap.objs.size + 1) :: us) := .cons rfl r
  have hl : (Value.ref (s.heap.objs.size + 1) :: us).length = ps.length := by rw [← r2.length]; exact F.len _ _ _ _ hq
  have b := hb _ (Value.ref (s.heap.objs.size + 1) :: us) I2.kIn (by rw [List.append_nil]; exact hl)
  rw [List.append_nil] at b
  refine wpAny_call (make_map (f := f) I.kIn M.makes M.init (beq_iff_eq.mp M.fn) (codeAny_mono (F.run _ X.stack _ _ ⟨Value.ref (s.heap.objs.size + 1) :: us, []⟩ _ _ _ (E σ) (hr.make C us []) (I2.env0.make C us []) b r2 hq) fun r s' hq' => ?_))
  cases r with
  | error e => exact hx σ pins _ _ e s' I2 hq'
  | ok fl => cases fl with
    | ret u =>
      obtain ⟨v, H', I3, rv, ev, q3⟩ := I2.after hq'
      subst ev
      exact ⟨rv, ⟨V.ref (s.heap.objs.size + 1), H', I3, rfl, q3⟩⟩
    | _ => exact False.elim hq'
theorem pu_make {j k n : Nat} {x : Str} {C : Addr} {sp : PIs} {q pos : Pos} {e : Expr} {es : List Expr} {pa : PTA} (D : KpI X.prog X.w X.K X.mg X.base c j x C n sp) (hr : Room k X.A) (tk : Takes X W) (ha : PuA X c W (e :: es) pa)
    (hjk : j + 1 ≤ k := by decide) (hgl : Gl X x := by rfl) (hdb : (x == ("__debug__" : Str)) = false := by decide) (he : starEach (e :: es) X.env = (false, eval e X.env) :: starEach es X.env := by rfl)
    (hpl : (backTo pos (starEach es X.env)).any (·.1) = false := by rfl) : PuE X c W (.Call (.Name x q) (e :: es) [] pos) (pMake C n sp pa) := by
  obtain ⟨ta, ha, ra⟩ := ha
  obtain ⟨f, fd, ps, M, F, hm, hb⟩ := D.ex
  refine ⟨fun σ H Q => ta σ H fun vs H1 => ∀ x dx, H1 x = none → H1 dx = none → dx ≠ x → liftI c C n sp (.ref x :: vs) (upd (upd H1 dx (.own x)) x (.ins C dx [])) (fun v H2 => v = .non ∧ Q (.ref x) H2) (WE W σ), ⟨fun pins s σ H Q I h => ?_⟩, fun H0 F0 env F σ H R E Q J L hp fin => ?_⟩
  · refine wpAny_Call_Name_kw (ld_glob I hgl hm ?_ hdb)
    exact PySem.W.callWith_K (h₀ := X.base) I.ok.mod.kin M.kp (thn (ha.run pos pins s σ H _ I h) fun us s1 ⟨vs, H1, I1, r, q⟩ => ⟨I1.kIn, run_makeS M F (hr.mono hjk) hb (fun σ => passAt tk σ) I1 r q⟩) he hpl
  · refine ra _ _ _ _ _ _ _ _ _ J L hp fun vs ss F1 H1 J1 k1 r1 h1 => ?_
    intro x dx nx nd ne
    refine ⟨H1, x, dx, vs, F1, ss, _, _, rfl, nx, nd, ne, rfl, J1.b.here, r1, h1.1, h1.2, fun ds dx' fs F' H' B a1 a2 m rr hR => ⟨rfl, ?_⟩, fun C' d ds F' H' B x q => L env F' σ H' C' d ds (J1.after B) x q⟩
    have J2 := J1.after B
    have kk : Same F' (upd F' x (.ins C dx' fs)) := same_upd a1
    have B3 : Bas c H1 F1 (upd F' x (.ins C dx' fs)) H' := by
      have hF' : ∀ {b u}, F' b = some u → b ≠ x := fun e z => by rw [z, a1] at e; cases e
      have no := B.noutO .i a2
      refine ⟨fun b u e => ?_, fun b hb => ?_, ?_, B.tab, B.fr, fun b u e => ?_, fun b nn => ?_, fun b ps e => ?_, B.ou⟩
      · by_cases z : b = x
        · subst z; rw [upd_same] at e; cases e; exact a2
        · rw [upd_ne z] at e; exact B.sub b u e
      · rw [upd_ne fun z => no (by rw [← z]; exact hb)]; exact B.fx b hb
      · obtain ⟨ns, a, d, k, g, e1, e3⟩ := B.pen
        exact ⟨ns, a, d, k, g, e1, by rw [upd_ne (hF' e3)]; exact e3⟩
      · have := B.fF b u e
        rw [upd_ne (hF' this)]; exact this
      · by_cases z : b = x
        · subst z; exact .inr (Nw.of nx).v
        · rw [upd_ne z] at nn; exact B.fN b nn
      · by_cases z : b = x
        · subst z; rw [upd_same] at e; cases e
        · rw [upd_ne z] at e; exact B.fT b ps e
    exact fin (.ref x) (.obj C ds) _ H' (J1.after B3) (same_trans k1 B3.fF) ⟨x, rfl, dx', fs, upd_same, m, rr.same kk⟩ hR
end
end Px
namespace Px
open PySem PySem.Spec PyProof.Rows L2 Lx
/-! ### instances asked for their class, and compared -/
def plainTys : List String := ["NoneType", "bool", "int", "str", "list", "tuple", "dict"]
theorem tyN_in (d : PyData) : tyN d ∈ plainTys := by cases d <;> simp [tyN, plainTys]
structure ObK (K : PySem.W.Frag) (mg : Str → Option Value) (x : Str) (C : Addr) (fns : List Str) : Prop where
  o : ObC K C fns
  g : mg x = some (.ref C)
  self : PySem.W.kitOne K (.ref C) (.ref C) = some true
  non : ∀ t ∈ plainTys, PySem.W.kitOne K (.type t) (.ref C) = some false
  ha : PySem.W.findIn K (.ref C) "__class__" = some (some (.builtin "object.__class__"))
  hn : PySem.W.specialIn K (.builtin "object.__class__") "__get__" = some (some (.builtin "getset_descriptor.__get__"))
  ht : PySem.W.takesIn K (.builtin "object.__class__") = some true
  hm : PySem.W.mroIn K C (.type "object") = some true
section
variable {K : PySem.W.Frag} {mg : Str → Option Value} {x : Str} {C : Addr} {fns : List Str}
theorem ObK.ty (O : ObK K mg x C fns) {H : Hp} {a dx : Addr} {fs : List (Str × V)} (e : H a = some (.ins C dx fs)) : TyX K H (.ref a) (.ref C) := .base (.ins e O.o.cls O.ha O.hn O.ht O.hm)
end
/-- isinstance(e, C) -/
def uIsO (C : Addr) : Sl → (Sl → Prop) → Prop := fun x R => match x with
  | .obj C' _ => C' = C ∧ R (.d (.bool true))
  | .d _ => R (.d (.bool false))
  | _ => False
section
variable {X : Cx} {c : Cc} {W : WX}
theorem pu_isO {x : Str} {C : Addr} {fns : List Str} {q q2 pos : Pos} {e : Expr} {pa : PTE} (O : ObK X.K X.mg x C fns) (hm : X.mg "isinstance" = none) (ha : PuE X c W e pa) (hg : Gl X "isinstance" := by rfl) (hg2 : Gl X x := by rfl) (hd : (x == ("__debug__" : Str)) = false := by decide)
    (h1 : starEach [e, .Name x q2] X.env = (false, eval e X.env) :: starEach [.Name x q2] X.env := by rfl) (h2 : starEach [Expr.Name x q2] X.env = (false, eval (.Name x q2) X.env) :: starEach [] X.env := by rfl) (hpl : (backTo pos (starEach [Expr.Name x q2] X.env)).any (·.1) = false := by rfl) :
    PuE X c W (.Call (.Name "isinstance" q) [e, .Name x q2] [] pos) (pUn (uIsO C) pa) := by
  obtain ⟨ta, ha, ra⟩ := ha
  refine ⟨_, pe_callB call_isi hg hm (by decide +kernel) (pa_cons ha (pa_cons (pe_glob (v := .ref C) hg2 O.g rfl hd) pa_nil h2) h1) (by decide) (by decide) h1 hpl, fun H0 F0 env F σ H R E Q J L hq fin => ra _ _ _ _ _ _ _ _ _ J L hq fun v s F1 H1 J1 k1 r1 q1 => ?_⟩
  cases s with
  | obj C' ds =>
    obtain ⟨rfl, q1⟩ := q1
    obtain ⟨y, rfl, dx, fs, e1, m, rr⟩ := r1
    exact ⟨.ref y, .ref C', _, _, true, rfl, .own C', O.ty (J1.b.sub _ _ e1), O.self, fin _ (.d _) F1 H1 J1 k1 (Rq.bl _) q1⟩
  | d y => exact ⟨v, .ref C, _, _, false, rfl, .own C, rq_ty J1.b.sub r1, O.non _ (tyN_in y), fin _ (.d _) F1 H1 J1 k1 (Rq.bl _) q1⟩
  | _ => exact q1.elim
end
/-! #### == and != -/
section
variable {prog : Program} {w : World} {M : Model} {A : Around} {E : Value → Shared → Prop} {s : Shared} {K : PySem.W.Frag} {x C f : Addr} {ox : Obj} {od : Option Obj}
theorem ifBound_ne {args : List Value} {Q : Option Value → Shared → Prop} (X : K.In s.heap) (I : PySem.W.InstAt s.heap x ox C od) (hs : PySem.W.findIn K (.ref C) "__ne__" = some (some (.builtin "object.__ne__")))
    (h : wpAny M A (call (.builtin "object.__ne__") (.ref x :: args)) (fun v => Q (some v)) E s) : wpAny M A (callSpecialIfBound? (.ref x) "__ne__" args) Q E s := by
  simp only [callSpecialIfBound?, bindSpecialIfBound?]
  refine wpAny_holding (wpAny_bind (wpAny_bind (wpAny_bind (I.type.here ((PySem.W.looks_findIn X hs).here ?_)))))
  have fin : wpAny M A (call (.builtin "object.__ne__") ([.ref x] ++ args) >>= fun v => pure (some v)) Q E s := wpAny_bind (wpAny_mono h (fun v s' h' => wpAny_pure h') fun _ _ h' => h')
  refine wpAny_bind (wpAny_askSetting (wpAny_ite ?_))
  rw [F.cmp_object.ne.bind]
  split
  · exact wpAny_bind (wpAny_pure (wpAny_pure fin))
  · exact wpAny_tryCatch (wpAny_bind (wpAny_pure (wpAny_pure fin)))
theorem call_ne {b : Value} {Q : Value → Shared → Prop} (hu : A.units + 1 < cLine) (X : K.In s.heap) (I : PySem.W.InstAt s.heap x ox C od) (hm : PySem.W.mroIn K C (.type "object") = some true) (he : PySem.W.findIn K (.ref C) "__eq__" = some (some (.ref f))) (hf : PySem.W.isFn K (.ref f) = true)
    (h : wpAny (model prog w) A.in1 (call (.ref f) [.ref x, b]) (fun v s' => ∃ r, v = .bool r ∧ Q (.bool (!r)) s') E s) : wpAny (model prog w) A (call (.builtin "object.__ne__") [.ref x, b]) Q E s := by
  refine wpAny_call (codeAny_call_builtin F.cmp_object.ne.plain F.cmpEntry_ne (PySem.W.check_slot F.cmpKind_ne F.cmpSplit_ne (I.type.andThen (PySem.W.looks_mroIn X hm)) (F.cmpArgs_ne _ _) ?_))
  unfold Builtin.«object.__ne__»
  have hu1 : A.in1.units < cLine := hu
  repeat (first
    | with_reducible refine wpAny_cRoomFor hu1 ?_
    | (refine wpAny_bind (m := callSpecialIfBound? (.ref x) (Str.ofString "__eq__") [b]) (PySem.W.ifBound_K X I he hf (wpAny_mono h (fun v s' z => by
        obtain ⟨r, e, hq⟩ := z
        subst e
        repeat (first | exact hq | exact wpAny_pure hq | (refine wpAny_bind (m := truthy (.bool _)) (wpAny_truthy_bool ?_)) | wp_step)) fun _ _ e => e)))
    | wp_step)
theorem cmpNe_K {L : Addr} {h₀ : Heap} {m : Str → Option Value} {b tb : Value} {Q : Value → Shared → Prop} (hu : A.units + 1 < cLine) (X : K.In s.heap) (I : PySem.W.InstAt s.heap x ox C od) (hb : PySem.W.Looks (model prog w) s.heap (typeOf b) tb) (hn : PySem.W.notFirst K C tb = true)
    (hne : PySem.W.findIn K (.ref C) "__ne__" = some (some (.builtin "object.__ne__"))) (hm : PySem.W.mroIn K C (.type "object") = some true) (he : PySem.W.findIn K (.ref C) "__eq__" = some (some (.ref f))) (hf : PySem.W.isFn K (.ref f) = true)
    (h : wpAny (model prog w) A.in1 (call (.ref f) [.ref x, b]) (fun v s' => ∃ r, v = .bool r ∧ Q (.bool (!r)) s') E s) : wpAny (model prog w) A (richCompare .NotEq (.ref x) b) Q E s := by
  have one : wpAny (model prog w) A (tryCompare (.ref x) (cmpInfo .NotEq).2.1 b) (fun r s' => ∃ v, r = some (.bool v) ∧ Q (.bool v) s') E s := by
    rw [cmpInfo_NotEq]
    unfold tryCompare
    refine wpAny_bind (ifBound_ne X I hne (wpAny_mono (call_ne (Q := fun v s' => ∃ r, v = .bool r ∧ Q (.bool r) s') hu X I hm he hf (wpAny_mono h (fun v s' z => ?_) fun _ _ e => e)) (fun v s' z => ?_) fun _ _ e => e))
    · obtain ⟨r, e, q⟩ := z
      exact ⟨r, e, _, rfl, q⟩
    · obtain ⟨r, rfl, q⟩ := z
      exact wpAny_pure ⟨_, rfl, q⟩
  have two {m : Sem (Option Value)} (hm : wpAny (model prog w) A m (fun r s' => ∃ v, r = some (.bool v) ∧ Q (.bool v) s') E s) {k : Option Value → Sem Value} (hk : ∀ v, k (some (.bool v)) = pure (.bool v)) : wpAny (model prog w) A (m >>= k) Q E s :=
    wpAny_bind (wpAny_mono hm (fun r s' z => by obtain ⟨v, rfl, q⟩ := z; rw [hk]; exact wpAny_pure q) fun _ _ e => e)
  unfold richCompare
  simp only [oneThing_ref]
  refine wpAny_holding (wpAny_bind (wpAny_cRoomFor (by omega) (wpAny_bind (I.type.here (wpAny_bind (hb.here ?_))))))
  split
  · rename_i q
    have e : PySem.W.subIn K tb (.ref C) = some false := by
      rcases Bool.or_eq_true_iff.mp hn with e | e
      · rw [beq_iff_eq.mp e] at q; simp at q
      · exact beq_iff_eq.mp e
    refine wpAny_bind ((PySem.W.looks_subIn X e).here ?_)
    rw [if_neg (by simp)]
    exact two one fun v => rfl
  · refine wpAny_bind (wpAny_pure ?_)
    rw [if_neg (by simp)]
    exact two one fun v => rfl
end
/-- a class with an __eq__ of its own, the def at g -/
structure ObQ (K : PySem.W.Frag) (C g : Addr) : Prop where
  eqf : PySem.W.findIn K (.ref C) "__eq__" = some (some (.ref g))
  fn : PySem.W.isFn K (.ref g) = true
  ne : PySem.W.findIn K (.ref C) "__ne__" = some (some (.builtin "object.__ne__"))
  nf : PySem.W.notFirst K C (.ref C) = true
  nt : ∀ t ∈ plainTys, PySem.W.notFirst K C (.type t) = true
/-- its contract -/
structure KpQ (P : Program) (w : World) (K : PySem.W.Frag) (mg : Str → Option Value) (base : Heap) (c : Cc) (k : Nat) (C : Addr) (sp : PSp) : Prop where
  ex : ∃ g fd ps, ObQ K C g ∧ FnOk P w K mg base (L2.CX P w) k g fd ps (lift c 2 sp) ∧ L2.Binds K fd ps []
def rCmpO (K : PySem.W.Frag) (c : Cc) (C : Addr) (sp : PSp) (n : Bool) : R2 := fun x y H Q => ∃ a dx fs t, x = .ref a ∧ H a = some (.ins C dx fs) ∧ TyX K H y t ∧ PySem.W.notFirst K C t = true ∧ lift c 2 sp [x, y] H (fun v H' => ∃ b : Bool, v = .bl b ∧ Q (.bl (if n then !b else b)) H') fun _ _ _ => False
/-- x == y, x != y (n), x an instance of C -/
def oCmpO (C : Addr) (sp : PSp) (n : Bool) : POp := fun x y R => (∃ ds, x = .obj C ds) ∧ (match y with
  | .obj C' _ => C' = C
  | .d _ => True
  | _ => False) ∧ sp [x, y] (fun r => ∃ b, r = .d (.bool b) ∧ R (.d (.bool (if n then !b else b)))) fun _ _ => False
section
variable {X : Cx} {c : Cc} {W : WX} {C : Addr} {sp : PSp} {k : Nat}
theorem no_pass {σ : St} : PassesAt (L2.CX X.prog X.w) X σ fun _ _ _ => False := fun _ _ _ _ _ _ z => by
  obtain ⟨_, _, _, _, _, _, _, _, _, _, _, _, z⟩ := z
  exact z.elim
theorem op_eqO (D : KpQ X.prog X.w X.K X.mg X.base c k C sp) (hr : Room k X.A) : OpR X (compareOp .Eq) (rCmpO X.K c C sp false) := by
  intro pins s σ H x y v u Q I rx ry h
  obtain ⟨a, dx, fs, t, rfl, ha, ty, hn, q⟩ := h
  obtain ⟨g, fd, ps, O, F, hb⟩ := D.ex
  cases (show v = Value.ref a from rx)
  obtain ⟨mA, OM, _⟩ := ins_get I.hok ha
  obtain ⟨od, J, _⟩ := OM.look
  obtain ⟨Pz, Z, hP, _⟩ := kit_of I ry ty
  obtain ⟨m, hF⟩ := I.fr
  show wpAny _ _ (richCompare .Eq (.ref a) u) _ _ s
  refine PySem.W.cmp_K (op := .Eq) hr.units0 hF I.ok.mod.kin J (Z.ty _ _ I.kIn hP) hn O.eqf O.fn ?_
  refine wpAny_mono (run_fnS (E := fun _ _ _ _ => False) (us := [.ref a, u]) (vs := [.ref a, y]) F hr hb no_pass I (.cons rfl (.cons ry .nil)) q) (fun r s' z => ?_) fun _ _ e => e
  obtain ⟨z', H', I', rz, b, rfl, qz⟩ := z
  cases (show r = Value.bool b from rz)
  exact ⟨.bl b, H', I', rfl, qz⟩
theorem op_neO {O1 : ObK X.K X.mg x C fns} (D : KpQ X.prog X.w X.K X.mg X.base c k C sp) (hr : Room (k + 1) X.A) : OpR X (compareOp .NotEq) (rCmpO X.K c C sp true) := by
  intro pins s σ H x y v u Q I rx ry h
  obtain ⟨a, dx, fs, t, rfl, ha, ty, hn, q⟩ := h
  obtain ⟨g, fd, ps, O, F, hb⟩ := D.ex
  cases (show v = Value.ref a from rx)
  obtain ⟨mA, OM, _⟩ := ins_get I.hok ha
  obtain ⟨od, J, _⟩ := OM.look
  obtain ⟨Pz, Z, hP, _⟩ := kit_of I ry ty
  show wpAny _ _ (richCompare .NotEq (.ref a) u) _ _ s
  have hu : X.A.units + 1 < cLine := by have := hr.un; omega
  refine cmpNe_K (L := 0) (h₀ := s.heap) (m := fun _ => none) hu I.kIn J (Z.ty _ _ I.kIn hP) hn O.ne O1.hm O.eqf O.fn ?_
  have bt := hb s [.ref a, u] I.kIn (by rw [List.append_nil]; exact F.len _ _ _ _ q)
  rw [List.append_nil] at bt
  refine wpAny_call (codeAny_mono (F.run X.A.in1 X.stack s H ⟨[.ref a, u], []⟩ _ [.ref a, y] _ _ hr.in1 I.env0.in1 bt (.cons rfl (.cons ry .nil)) q) fun r s' hq => ?_)
  cases r with
  | error e => exact (no_pass (σ := σ) pins H s e s' I hq : _)
  | ok fl => cases fl with
    | ret u =>
      obtain ⟨z', H', I', rz, b, rfl, qz⟩ := I.after hq
      cases (show u = Value.bool b from rz)
      exact ⟨b, rfl, .bl (!b), H', I', rfl, qz⟩
    | _ => exact False.elim hq
theorem ro_cmpO {x : Str} {fns : List Str} {n : Bool} (O : ObK X.K X.mg x C fns) (D : KpQ X.prog X.w X.K X.mg X.base c k C sp) : ROp c (rCmpO X.K c C sp n) (oCmpO C sp n) := by
  intro H0 F0 env F σ H x y sx sy R Q J rx ry hp fin
  obtain ⟨⟨ds, rfl⟩, hy, hs⟩ := hp
  obtain ⟨g, fd, ps, OQ, _, _⟩ := D.ex
  obtain ⟨a, rfl, dx, fs, e1, m, rr⟩ := rx
  have tyY : ∃ t, TyX X.K H y t ∧ PySem.W.notFirst X.K C t = true := by
    cases sy with
    | obj C' ds' =>
      have hy : C' = C := hy
      subst hy
      obtain ⟨b, rfl, dy, gs, e2, _, _⟩ := ry
      exact ⟨_, O.ty (J.b.sub _ _ e2), OQ.nf⟩
    | d z => exact ⟨_, rq_ty J.b.sub ry, OQ.nt _ (tyN_in z)⟩
    | _ => exact hy.elim
  obtain ⟨t, t1, t2⟩ := tyY
  refine ⟨a, dx, fs, t, rfl, J.b.sub _ _ e1, t1, t2, F, [.obj C ds, sy], _, _, J.b.here, .cons ⟨a, rfl, dx, fs, e1, m, rr⟩ (.cons ry .nil), rfl, hs, fun v s F' H' B rv q => ?_, fun C' d ds F' H' B x q => q⟩
  obtain ⟨b, rfl, q⟩ := q
  cases rv
  exact ⟨b, rfl, fin _ (.d _) F' H' (J.after B) B.fF (Rq.bl _) q⟩
end
end Px
namespace Px
open PySem PySem.Spec PyProof.Rows L2 Lx
/-! ### lists of one's own: read, written -/
section
variable {c : Cc} {H0 F0 F H : Hp} {env : Ev} {σ : St}
theorem nth_of : ∀ {env : Ev} {i : Nat} {s : Sl}, env[i]? = some (some s) → nth env i = some s
  | [], _, _, h => by simp at h
  | a :: _, 0, _, h => by simpa [nth] using h
  | _ :: l, n + 1, _, h => nth_of (env := l) (by simpa using h)
theorem set_same {σ : St} {i : Nat} {a : Option V} (h : σ[i]? = some a) : (σ.set i none).set i a = σ := by
  rw [List.set_set]
  refine List.ext_getElem? fun j => ?_
  by_cases hj : i = j
  · subst hj
    rw [List.getElem?_set_self (List.getElem?_eq_some_iff.mp h).1, h]
  · rw [List.getElem?_set_ne hj]
/-- what stands in one's own list, and how it is written -/
theorem Rel.wrOwn (R : Rel c H0 F0 env F σ H) {i : Nat} {ds : List PyData} (hn : nth env i = some (.own ds)) : ∃ q ys, σ[i]? = some (some (.ref q)) ∧ H q = some (.lst ys) ∧ RqAll F ys ds ∧ F q = none ∧
    ∀ zs es, RqAll F zs es → Rel c H0 F0 (env.set i (some (.own es))) F σ (upd H q (.lst zs)) := by
  obtain ⟨ov, e1, q, ys, e2, hF, h0, hq, r⟩ := R.get (nth_eq _ _ hn)
  subst e2
  refine ⟨q, ys, e1, hq, r, hF, fun zs es rz => ?_⟩
  have ne : ∀ (j : Nat) (xs : List PyData), j ≠ i → env[j]? = some (some (.own xs)) → σ[j]? ≠ some (some (.ref q)) := fun j xs hj e z => hj (R.sep j i q xs ds e (nth_eq _ _ hn) z e1)
  have hj' : ∀ {j : Nat} {xs : List PyData}, (env.set i none)[j]? = some (some (.own xs)) → j ≠ i := fun {j xs} e z => by
    subst z
    rw [List.getElem?_set_self (by have := (List.getElem?_eq_some_iff.mp e).1; simpa using this)] at e
    cases e
  have ne2 : ∀ (j : Nat) (xs : List PyData), j ≠ i → (env.set i none)[j]? = some (some (.own xs)) → (σ.set i none)[j]? ≠ some (some (.ref q)) := fun j xs hj e z => by
    rw [List.getElem?_set_ne (Ne.symm hj)] at e z
    exact ne j xs hj e z
  have J3 := (R.any i none).wrAt (zs := zs) hq hF h0 fun j xs e z => ne2 j xs (hj' e) e z
  have J4 := J3.own (ds := es) i hF h0 upd_same rz ne2
  rw [set_same e1, List.set_set] at J4
  exact J4
end
section
variable {X : Cx} {c : Cc} {W : WX}
/-- len(x) -/
def pLenO (i : Nat) : PTE := fun env R _ => match nth env i with
  | some (.own ds) => R (.d (.int (ds.length : Nat)))
  | _ => False
theorem pu_lenO (i : Nat) {x : Str} {p p2 pos : Pos} (hm : X.mg "len" = none) (hN : X.N[i]? = some x := by rfl) (hv : Vis X.env.scope x := by first | exact Or.inl rfl | exact Or.inr (Or.inl rfl) | exact Or.inr (Or.inr rfl)) (hd : (x == ("__debug__" : Str)) = false := by decide) (hcd : (x == ("__classdict__" : Str)) = false := by decide) (hg : Gl X "len" := by rfl)
    (he : starEach [.Name x p2] X.env = (false, eval (.Name x p2) X.env) :: starEach [] X.env := by rfl) (hpl : (backTo pos (starEach [] X.env)).any (·.1) = false := by rfl) : PuE X c W (.Call (.Name "len" p) [.Name x p2] [] pos) (pLenO i) := by
  refine ⟨_, pe_callB c_len hg hm PySem.boot_len (pa_cons (pv i hN hv hd hcd) pa_nil he) (by decide) (by decide) he hpl, fun H0 F0 env F σ H R E Q J L hp fin => ?_⟩
  unfold pLenO at hp
  split at hp
  · rename_i ds hn
    obtain ⟨q, ys, e1, hq, r, _, _⟩ := J.wrOwn hn
    exact ⟨.ref q, e1, q, ys, rfl, .inl (sqL hq), fin _ (.d _) F H J (same_refl F) (Rq.int _) (by rw [r.len]; exact hp)⟩
  · exact hp.elim
/-- x[e] -/
def pIxO (i : Nat) (pa : PTE) : PTE := fun env R E => match nth env i with
  | some (.own ds) => pa env (fun s => match s with
    | .d (.int k) => ∃ d, atI ds k = some d ∧ R (.d d)
    | _ => False) E
  | _ => False
theorem pu_ixO (i : Nat) {x : Str} {b : Expr} {p2 pos : Pos} {pa : PTE} (hb : PuE X c W b pa) (hN : X.N[i]? = some x := by rfl) (hv : Vis X.env.scope x := by first | exact Or.inl rfl | exact Or.inr (Or.inl rfl) | exact Or.inr (Or.inr rfl)) (hd : (x == ("__debug__" : Str)) = false := by decide) (hcd : (x == ("__classdict__" : Str)) = false := by decide)
    (hs : PlainIx b := by exact fun _ _ => rfl) : PuE X c W (.Subscript (.Name x p2) b pos) (pIxO i pa) := by
  obtain ⟨tb, hb, rb⟩ := hb
  refine ⟨_, pe_ix ix_seq (pv i hN hv hd hcd) hb hs, fun H0 F0 env F σ H R E Q J L hp fin => ?_⟩
  unfold pIxO at hp
  split at hp
  · rename_i ds hn
    obtain ⟨q, ys, e1, hq, r, _, _⟩ := J.wrOwn hn
    refine ⟨.ref q, e1, rb _ _ _ _ _ _ _ _ _ J L hp fun v s F1 H1 J1 k1 r1 h1 => ?_⟩
    split at h1
    · cases r1
      obtain ⟨d, e, h1⟩ := h1
      obtain ⟨q', ys', e1', hq', r', _, _⟩ := J1.wrOwn hn
      rw [e1] at e1'
      cases e1'
      obtain ⟨w, e2, rw⟩ := atI_rel r' e
      exact .inl ⟨q, ys', _, w, rfl, rfl, sqL hq', e2, fin w (.d d) F1 H1 J1 k1 rw h1⟩
    · exact h1.elim
  · exact hp.elim
/-- tuple(x) -/
def pTupO (i : Nat) : PTE := fun env R _ => match nth env i with
  | some (.own ds) => R (.d (.tuple ds))
  | _ => False
theorem pu_tupO (i : Nat) {x : Str} {p p2 pos : Pos} (hm : X.mg "tuple" = none) (hN : X.N[i]? = some x := by rfl) (hv : Vis X.env.scope x := by first | exact Or.inl rfl | exact Or.inr (Or.inl rfl) | exact Or.inr (Or.inr rfl)) (hd : (x == ("__debug__" : Str)) = false := by decide) (hcd : (x == ("__classdict__" : Str)) = false := by decide) (hg : Gl X "tuple" := by rfl)
    (he : starEach [.Name x p2] X.env = (false, eval (.Name x p2) X.env) :: starEach [] X.env := by rfl) (hpl : (backTo pos (starEach [] X.env)).any (·.1) = false := by rfl) : PuE X c W (.Call (.Name "tuple" p) [.Name x p2] [] pos) (pTupO i) := by
  refine ⟨_, pe_callTy c_tuple hg hm (by decide +kernel) (pa_cons (pv i hN hv hd hcd) pa_nil he) (by decide) (by decide) he hpl, fun H0 F0 env F σ H R E Q J L hp fin => ?_⟩
  unfold pTupO at hp
  split at hp
  · rename_i ds hn
    obtain ⟨q, ys, e1, hq, r, _, _⟩ := J.wrOwn hn
    refine ⟨.ref q, e1, q, ys, rfl, .inl ⟨sqL hq, fun l hl => ?_⟩⟩
    have k2 : Same F (upd F l (.tup ys)) := same_upd (J.b.fnone hl)
    exact fin (.ref l) (.d _) _ _ (J.alloc hl _) k2 (Rq.tup upd_same (r.same k2)) hp
  · exact hp.elim
/-- a list's part -/
def pSlO (i : Nat) (lo hi : PTO) : PTE := fun env R E => match nth env i with
  | some (.own ds) => lo env (fun l => hi env (fun h => R (.d (.list (cutD ds l h)))) E) E
  | _ => False
theorem pu_slO (i : Nat) {x : Str} {lo hi : Option Expr} {p3 p2 pos : Pos} {pl ph : PTO} (hl : PuO X c W lo pl) (hh : PuO X c W hi ph) (hN : X.N[i]? = some x := by rfl) (hv : Vis X.env.scope x := by first | exact Or.inl rfl | exact Or.inr (Or.inl rfl) | exact Or.inr (Or.inr rfl)) (hd : (x == ("__debug__" : Str)) = false := by decide) (hcd : (x == ("__classdict__" : Str)) = false := by decide) :
    PuE X c W (.Subscript (.Name x p3) (.Slice lo hi none p2) pos) (pSlO i pl ph) := by
  obtain ⟨tl, hl, rl⟩ := hl
  obtain ⟨th, hh, rh⟩ := hh
  refine ⟨_, pe_slice sl_list (pv i hN hv hd hcd) hl hh, fun H0 F0 env F σ H R E Q J L hp fin => ?_⟩
  unfold pSlO at hp
  split at hp
  · rename_i ds hn
    obtain ⟨q, ys, e1, hq, r, _, _⟩ := J.wrOwn hn
    refine ⟨.ref q, e1, rl _ _ _ _ _ _ _ _ _ J L hp fun l F2 H2 J2 k2 h2 => rh _ _ _ _ _ _ _ _ _ J2 L h2 fun h F3 H3 J3 k3 h3 => ?_⟩
    obtain ⟨q', ys', e1', hq', r', _, _⟩ := J3.wrOwn hn
    rw [e1] at e1'
    cases e1'
    refine ⟨q, ys', rfl, sqL hq', fun p hn' => ?_⟩
    have k4 : Same F3 (upd F3 p (.lst (cutV ys' l h))) := same_upd (J3.b.fnone hn')
    exact fin (.ref p) (.d _) _ _ (J3.alloc hn' _) (same_trans k2 (same_trans k3 k4)) (Rq.lst upd_same ((cut_rel r' l h).same k4)) h3
  · exact hp.elim
/-- part of a list that is data -/
def pSlL (a : PTE) (lo hi : PTO) : PTE := fun env R E => a env (fun s => lo env (fun l => hi env (fun h => match s with
  | .d (.list ds) => R (.d (.list (cutD ds l h)))
  | _ => False) E) E) E
theorem pu_slL {e : Expr} {lo hi : Option Expr} {pos p2 : Pos} {pa : PTE} {pl ph : PTO} (ha : PuE X c W e pa) (hl : PuO X c W lo pl) (hh : PuO X c W hi ph) : PuE X c W (.Subscript e (.Slice lo hi none p2) pos) (pSlL pa pl ph) := by
  obtain ⟨ta, ha, ra⟩ := ha
  obtain ⟨tl, hl, rl⟩ := hl
  obtain ⟨th, hh, rh⟩ := hh
  refine ⟨_, pe_slice sl_list ha hl hh, fun H0 F0 env F σ H R E Q J L hp fin => ra _ _ _ _ _ _ _ _ _ J L hp fun v s F1 H1 J1 k1 r1 h1 => ?_⟩
  refine rl _ _ _ _ _ _ _ _ _ J1 L h1 fun l F2 H2 J2 k2 h2 => rh _ _ _ _ _ _ _ _ _ J2 L h2 fun h F3 H3 J3 k3 h3 => ?_
  split at h3
  · have r3 := RelS.same (same_trans k2 k3) r1
    cases r3 with
    | @lst a xs ds ea rr =>
      refine ⟨a, xs, rfl, sqL (J3.b.sub _ _ ea), fun p hn' => ?_⟩
      have k4 : Same F3 (upd F3 p (.lst (cutV xs l h))) := same_upd (J3.b.fnone hn')
      exact fin (.ref p) (.d _) _ _ (J3.alloc hn' _) (same_trans k1 (same_trans k2 (same_trans k3 k4))) (Rq.lst upd_same ((cut_rel rr l h).same k4)) h3
  · exact h3.elim
/-- x[e] = v -/
def psSetI (i : Nat) (pi pv : PTE) : PTS := fun P env => match nth env i with
  | some (.own ds) => pv env (fun s => match s with
    | .d y => pi env (fun t => match t with
      | .d (.int k) => ∃ j, ixN ds.length k = some j ∧ P.nx (env.set i (some (.own (ds.set j y))))
      | _ => False) P.ex
    | _ => False) P.ex
  | _ => False
theorem pus_setI (i : Nat) {x : Str} {e v : Expr} {p2 p3 pos : Pos} {pi pv' : PTE} (hi : PuE X c W e pi) (hv' : PuE X c W v pv') (hN : X.N[i]? = some x := by rfl) (hv : Vis X.env.scope x := by first | exact Or.inl rfl | exact Or.inr (Or.inl rfl) | exact Or.inr (Or.inr rfl)) (hd : (x == ("__debug__" : Str)) = false := by decide) (hcd : (x == ("__classdict__" : Str)) = false := by decide)
    (ha : ∀ v, assign (.Subscript (.Name x p2) e p3) X.env v = (do
      let ov ← holding [v] (eval (.Name x p2) X.env)
      let iv ← holding [v, ov] (eval e X.env)
      standAt p3
      holding [v, ov, iv] (setItem ov iv v)
      release [v, ov, iv] []) := by intro _; rfl)
    (hs : swapsWithSole [.Subscript (.Name x p2) e p3] v pos.line X.env = pure false := by rfl) (hw : swappedStores [.Subscript (.Name x p2) e p3] v X.env = pure none := by rfl)
    (h1 : (assignEach [.Subscript (.Name x p2) e p3] X.env).map (·.2) = [assign (.Subscript (.Name x p2) e p3) X.env] := by rfl) : PuS X c W (.Assign [.Subscript (.Name x p2) e p3] v pos) (psSetI i pi pv') := by
  obtain ⟨ti, hi, ri⟩ := hi
  obtain ⟨tv, hv', rv'⟩ := hv'
  refine ⟨_, ps_asg hv' (pg_sub (pv i hN hv hd hcd) hi set_list ha) hs hw h1, fun H0 F0 env F σ H D P J L h => ?_⟩
  unfold psSetI at h
  split at h
  · rename_i ds hn
    refine rv' _ _ _ _ _ _ _ _ _ J L.ex h fun y s F1 H1 J1 k1 r1 h1 => ?_
    split at h1
    · obtain ⟨q, ys, e1, hq, r, _, _⟩ := J1.wrOwn hn
      refine ⟨.ref q, e1, ri _ _ _ _ _ _ _ _ _ J1 L.ex h1 fun z s F2 H2 J2 k2 r2 h2 => ?_⟩
      split at h2
      · cases r2
        obtain ⟨j, hj, h2⟩ := h2
        obtain ⟨q', ys', e1', hq', r', _, wr⟩ := J2.wrOwn hn
        rw [e1] at e1'
        cases e1'
        exact ⟨q, ys', _, j, rfl, rfl, hq', by rw [r'.len]; exact hj, L.nx _ F2 _ _ (wr _ _ (r'.set j (r1.same k2))) (same_trans k1 k2) h2⟩
      · exact h2.elim
    · exact h1.elim
  · exact h.elim
/-- x.extend(e) -/
def psExt (i : Nat) (a : PTE) : PTS := fun P env => match nth env i with
  | some (.own ds) => a env (fun s => match s with
    | .d (.list es) => ds.length + es.length ≤ 1000000 ∧ P.nx (env.set i (some (.own (ds ++ es))))
    | _ => False) P.ex
  | _ => False
theorem pus_ext (i : Nat) {x : Str} {e : Expr} {p apos cpos pos : Pos} {pa : PTE} (ha : PuE X c W e pa) (hN : X.N[i]? = some x := by rfl) (hv : Vis X.env.scope x := by first | exact Or.inl rfl | exact Or.inr (Or.inl rfl) | exact Or.inr (Or.inr rfl))
    (hd : (x == ("__debug__" : Str)) = false := by decide) (hcd : (x == ("__classdict__" : Str)) = false := by decide) (hline : (apos.endLine == cpos.line) = true := by rfl) (he : starEach [e] X.env = (false, eval e X.env) :: starEach [] X.env := by rfl)
    (hbase : attributeBase (.Name x p) "extend" X.env (eval (.Name x p) X.env) = eval (.Name x p) X.env := by rfl)
    (hfew : ((backTo cpos (starEach [e] X.env)).all (fun x => !x.1) && (backToKw cpos (keywordEach [] X.env)).all (fun x => x.1.isSome) && decide ([e].length + ([] : List Keyword).length + (if ([] : List Keyword).isEmpty then 0 else 1) < 30)) = true := by rfl)
    (hs : swapsWith (.Call (.Attribute (.Name x p) "extend" apos) [e] [] cpos) none pos.line X.env = pure false := by rfl) : PuS X c W (.Expr (.Call (.Attribute (.Name x p) "extend" apos) [e] [] cpos) pos) (psExt i pa) := by
  obtain ⟨ta, ha, ra⟩ := ha
  refine ⟨_, ps_expr (pe_bm PySem.F.plainAttrs_list PySem.F.slot_list_extend PySem.F.type_list_extend mt_extend (pv i hN hv hd hcd) (pa_cons ha pa_nil he) hbase hfew hline he (by rfl)) hs, fun H0 F0 env F σ H D P J L h => ?_⟩
  unfold psExt at h
  split at h
  · rename_i ds hn
    obtain ⟨q, ys, e1, hq, r, _, _⟩ := J.wrOwn hn
    refine ⟨.ref q, e1, tyL hq, ra _ _ _ _ _ _ _ _ _ J L.ex h fun v s F1 H1 J1 k1 r1 h1 => ?_⟩
    split at h1
    · obtain ⟨q', ys', e1', hq', r', _, wr⟩ := J1.wrOwn hn
      rw [e1] at e1'
      cases e1'
      cases r1 with
      | @lst b zs es eb rb => exact ⟨q, b, ys', zs, rfl, rfl, hq', J1.b.sub _ _ eb, by rw [r'.len, rb.len]; exact Nat.le_trans h1.1 (by decide), L.nx _ F1 σ _ (wr _ _ (r'.app rb)) k1 h1.2⟩
    · exact h1.elim
  · exact h.elim
/-- y.append(x.pop(e)) -/
def psAppPop (j i : Nat) (a : PTE) : PTS := fun P env => match nth env j with
  | some (.own ds) => match nth env i with
    | some (.own es) => a env (fun s => match s with
      | .d (.int k) => ∃ n y, ixN es.length k = some n ∧ es[n]? = some y ∧ -(2 ^ 63) ≤ k ∧ k < 2 ^ 63 ∧ ds.length ≤ 1000000 ∧ P.nx ((env.set i (some (.own (es.eraseIdx n)))).set j (some (.own (ds ++ [y]))))
      | _ => False) P.ex
    | _ => False
  | _ => False
theorem RqAll.erase {F : Hp} : ∀ {vs : List V} {ds : List PyData} (n : Nat), RqAll F vs ds → RqAll F (vs.eraseIdx n) (ds.eraseIdx n)
  | _, _, _, .nil => .nil
  | _, _, 0, .cons a b => b
  | _, _, n + 1, .cons a b => .cons a (b.erase n)
theorem pus_appPop (j i : Nat) {x y : Str} {e : Expr} {p p2 apos apos2 cpos cpos2 pos : Pos} {pa : PTE} (ha : PuE X c W e pa) (hij : i ≠ j := by decide) (hNx : X.N[i]? = some x := by rfl) (hvx : Vis X.env.scope x := by first | exact Or.inl rfl | exact Or.inr (Or.inl rfl) | exact Or.inr (Or.inr rfl)) (hNy : X.N[j]? = some y := by rfl) (hvy : Vis X.env.scope y := by first | exact Or.inl rfl | exact Or.inr (Or.inl rfl) | exact Or.inr (Or.inr rfl))
    (hdx : (x == ("__debug__" : Str)) = false := by decide) (hcx : (x == ("__classdict__" : Str)) = false := by decide) (hdy : (y == ("__debug__" : Str)) = false := by decide) (hcy : (y == ("__classdict__" : Str)) = false := by decide)
    (hl1 : (apos.endLine == cpos.line) = true := by rfl) (hl2 : (apos2.endLine == cpos2.line) = true := by rfl) (he2 : starEach [e] X.env = (false, eval e X.env) :: starEach [] X.env := by rfl)
    (he : starEach [.Call (.Attribute (.Name x p2) "pop" apos2) [e] [] cpos2] X.env = (false, eval (.Call (.Attribute (.Name x p2) "pop" apos2) [e] [] cpos2) X.env) :: starEach [] X.env := by rfl)
    (hb1 : attributeBase (.Name y p) "append" X.env (eval (.Name y p) X.env) = eval (.Name y p) X.env := by rfl) (hb2 : attributeBase (.Name x p2) "pop" X.env (eval (.Name x p2) X.env) = eval (.Name x p2) X.env := by rfl)
    (hf1 : ((backTo cpos (starEach [.Call (.Attribute (.Name x p2) "pop" apos2) [e] [] cpos2] X.env)).all (fun x => !x.1) && (backToKw cpos (keywordEach [] X.env)).all (fun x => x.1.isSome) && decide ([Expr.Call (.Attribute (.Name x p2) "pop" apos2) [e] [] cpos2].length + ([] : List Keyword).length + (if ([] : List Keyword).isEmpty then 0 else 1) < 30)) = true := by rfl)
    (hf2 : ((backTo cpos2 (starEach [e] X.env)).all (fun x => !x.1) && (backToKw cpos2 (keywordEach [] X.env)).all (fun x => x.1.isSome) && decide ([e].length + ([] : List Keyword).length + (if ([] : List Keyword).isEmpty then 0 else 1) < 30)) = true := by rfl)
    (hs : swapsWith (.Call (.Attribute (.Name y p) "append" apos) [.Call (.Attribute (.Name x p2) "pop" apos2) [e] [] cpos2] [] cpos) none pos.line X.env = pure false := by rfl) :
    PuS X c W (.Expr (.Call (.Attribute (.Name y p) "append" apos) [.Call (.Attribute (.Name x p2) "pop" apos2) [e] [] cpos2] [] cpos) pos) (psAppPop j i pa) := by
  obtain ⟨ta, ha, ra⟩ := ha
  refine ⟨_, ps_expr (pe_bm PySem.F.plainAttrs_list PySem.F.slot_list_append PySem.F.type_list_append mt_append (pv j hNy hvy hdy hcy) (pa_cons (pe_bm PySem.F.plainAttrs_list PySem.F.slot_list_pop PySem.F.type_list_pop mt_popAt (pv i hNx hvx hdx hcx) (pa_cons ha pa_nil he2) hb2 hf2 hl2 he2 (by rfl)) pa_nil he) hb1 hf1 hl1 he (by rfl)) hs, fun H0 F0 env F σ H D P J L h => ?_⟩
  unfold psAppPop at h
  split at h
  · rename_i ds hn
    split at h
    · rename_i es hm
      obtain ⟨q, ys, e1, hq, r, _, _⟩ := J.wrOwn hn
      obtain ⟨u, us, f1, hu, ru, _, _⟩ := J.wrOwn hm
      refine ⟨.ref q, e1, tyL hq, .ref u, f1, tyL hu, ra _ _ _ _ _ _ _ _ _ J L.ex h fun v s F1 H1 J1 k1 r1 h1 => ?_⟩
      split at h1
      · cases r1
        obtain ⟨n, d, hx, hy, b1, b2, hl, h1⟩ := h1
        obtain ⟨u', us', f1', hu', ru', _, wr⟩ := J1.wrOwn hm
        rw [f1] at f1'
        cases f1'
        obtain ⟨w, hw, rw'⟩ := ru'.get hy
        have J2 := wr _ _ (ru'.erase n)
        have hn2 : nth (env.set i (some (.own (es.eraseIdx n)))) j = some (.own ds) := by
          have := nth_eq _ _ hn
          have z : (env.set i (some (.own (es.eraseIdx n))))[j]? = some (some (.own ds)) := by rw [List.getElem?_set_ne hij]; exact this
          exact nth_of z
        obtain ⟨q', ys', e1', hq', r', _, wr2⟩ := J2.wrOwn hn2
        rw [e1] at e1'
        cases e1'
        refine ⟨u, us', _, n, w, rfl, rfl, hu', b1, b2, (ixN_seq (by rw [ru'.len]; exact hx)).1, hw, q, ys', w, rfl, rfl, hq', by rw [r'.len]; exact Nat.lt_of_le_of_lt hl (by decide), ?_⟩
        exact L.nx _ F1 σ _ (wr2 _ _ (r'.snoc rw')) k1 h1
      · exact h1.elim
    · exact h.elim
  · exact h.elim
end
end Px
namespace Px
open PySem PySem.Spec PyProof.Rows L2 Lx
/-! ### new lists, one's own -/
abbrev PTN := Ev → (List PyData → Prop) → XP → Prop
def FinN (c : Cc) (H0 F0 : Hp) (env : Ev) (F : Hp) (σ : St) (R : List PyData → Prop) (Q : VK) : Prop := ∀ (q : Addr) (ys : List V) (ds : List PyData) (F' H' : Hp), Rel c H0 F0 env F' σ H' → Same F F' → F' q = none → Nw H0 q → H' q = some (.lst ys) → RqAll F' ys ds →
  (∀ (i : Nat) (xs : List PyData), env[i]? = some (some (.own xs)) → σ[i]? ≠ some (some (.ref q))) → R ds → Q (.ref q) H'
def RdN (c : Cc) (W : WX) (t : TE) (pn : PTN) : Prop := ∀ (H0 F0 : Hp) (env : Ev) (F : Hp) (σ : St) (H : Hp) (R : List PyData → Prop) (E : XP) (Q : VK), Rel c H0 F0 env F σ H → LinkX c H0 F0 W E → pn env R E → FinN c H0 F0 env F σ R Q → t σ H Q
def PuN (X : Cx) (c : Cc) (W : WX) (e : Expr) (pn : PTN) : Prop := ∃ t, PE X e t ∧ RdN c W t pn
def pLcN (it : PTI) (g : PTG) (tt : PTT) (pe : PTE) (vs : List Nat) : PTN := fun env R E => it env (fun ds => pLcL g tt pe (wipeE (noOwn env) vs) ds [] R) E
section
variable {X : Cx} {c : Cc} {W : WX}
theorem rd_lcN {wi : TI} {pi : PTI} {g : TG} {pg : PTG} {is : List Nat} {tt : TT} {pt : PTT} {te : TE} {pe : PTE} {vs : List Nat} (ri : RdI c W wi pi) (rg : RdG c g pg is) (hsub : ∀ i ∈ is, i ∈ vs) (rt : RdT c WNo tt pt) (re : Rd c WNo te pe) : RdN c W (tLc wi g tt te vs) (pLcN pi pg pt pe vs) := by
  intro H0 F0 env F σ H R E Q J L hp fin
  refine ri _ _ _ _ _ _ _ _ _ J L hp fun I F1 H1 ds J1 k1 wk h1 => ?_
  intro D hD
  have hown := own_ne J1 hD
  have J2 := J1.new hD (.lst [])
  have h0 : Nw H0 D := J1.b.h0 hD
  have fD : F1 D = none := J1.b.fnone hD
  refine ⟨fun i m H => i + m = ds.length ∧ ∃ (F' : Hp) (acc : List V) (ad : List PyData), Rel c H0 F0 env F' σ H ∧ Same F1 F' ∧ F' D = none ∧ H D = some (.lst acc) ∧ RqAll F' acc ad ∧ pLcL pg pt pe (wipeE (noOwn env) vs) (ds.drop i) ad R,
    ⟨ds.length, by omega, F1, [], [], J2, same_refl F1, fD, upd_same, .nil, by simpa using h1⟩, ?_⟩
  rintro i m H2 ⟨hm, F2, acc, ad, J3, k2, fD2, hD2, ra, h2⟩
  cases m with
  | zero =>
    have hi : i = ds.length := by omega
    subst hi
    rw [List.drop_length] at h2
    refine .inl ⟨wk.stop _ _ _ _ _ _ J3 k2, ?_⟩
    exact fin D acc ad F2 H2 J3 (same_trans k1 k2) fD2 h0 hD2 ra hown h2
  | succ m =>
    have hi : i < ds.length := by omega
    have ed : ds.drop i = ds[i] :: ds.drop (i + 1) := List.drop_eq_getElem_cons hi
    rw [ed] at h2
    obtain ⟨go, yl⟩ := wk.go _ _ _ _ _ _ i ds[i] J3 k2 (List.getElem?_eq_getElem hi)
    refine .inr ⟨go, fun H' => ∃ (F' : Hp) (acc : List V) (ad : List PyData), Rel c H0 F0 env F' σ H' ∧ Same F1 F' ∧ F' D = none ∧ H' D = some (.lst acc) ∧ RqAll F' acc ad ∧ pLcL pg pt pe (wipeE (noOwn env) vs) (ds.drop (i + 1)) ad R,
      fun H' ⟨a1, a2, a3, a4⟩ => ⟨m, by omega, by omega, a1, a2, a3, a4⟩, fun x H3 hy => ?_⟩
    -- the item may be a new pair: seen from the heap ahead of it
    have JI := (J3.inner).wipe vs
    obtain ⟨F3, J4, k3, r3⟩ := (wk.go _ _ _ _ _ _ i ds[i] JI k2 (List.getElem?_eq_getElem hi)).2 x H3 hy
    refine rg _ _ _ _ _ _ _ (.d ds[i]) _ _ J4 r3 h2 fun env4 σ4 J5 l4 o4 h4 => ?_
    refine ⟨wipe_eq (by rw [l4, L2.wipe_length]) fun j hj => o4 j fun z => hj (hsub j z), ?_⟩
    refine rt _ _ _ _ _ _ _ _ _ J5 link_no h4 fun b F5 H5 J6 k5 h5 => ?_
    have nD : ∀ {G H' : Hp} {e : Ev} {τ : St}, Rel c H2 F2 e G τ H' → H' D = some (.lst acc) ∧ G D = none := fun {G H' e τ} J' => by
      refine ⟨J'.b.fr D _ (J3.b.noutL hD2) (fun ps z => by cases z) hD2, ?_⟩
      cases e' : G D with
      | none => rfl
      | some o =>
        rcases J'.b.fN D (by rw [e']; simp) with z | z
        · exact absurd fD2 z
        · rcases z _ hD2 with ⟨ps, z⟩ | ⟨ps, z⟩ <;> cases z
    cases b with
    | false =>
      show ∃ F', _
      have B := J6.b
      have k6 : Same F2 F5 := B.fF
      exact ⟨F5, acc, ad, J3.after B, same_trans k2 k6, (nD J6).2, (nD J6).1, ra.same k6, h5.2 rfl⟩
    | true =>
      show te σ4 H5 _
      refine re _ _ _ _ _ _ _ _ _ J6 link_no (h5.1 rfl) fun v s F7 H7 J7 k7 r7 h7 => ?_
      have B := J7.b
      have k6 : Same F2 F7 := B.fF
      split at h7
      · have J8 := (J3.after B).wrAt (zs := acc ++ [v]) (nD J7).1 (nD J7).2 h0 hown
        refine ⟨acc, (nD J7).1, ?_, F7, acc ++ [v], _, J8, same_trans k2 k6, (nD J7).2, upd_same, (ra.same k6).app (.cons r7 .nil), h7.2⟩
        rw [ra.len]
        exact Nat.lt_of_le_of_lt h7.1 (by decide)
      · exact h7.elim
theorem pun_lc {elt tg iter : Expr} {scope : Scope} {own : List (Str × Nat)} {pos : Pos} {pi : PTI} {pg : PTG} {is : List Nat} {pe : PTE} (hc : X.calm = true) (hN : X.N.Nodup) (hi : PuI X c W tg iter pi) (ok : BlkOk X.N X.env.scope scope own) (hg : ∀ i : CI, PuG (i.blk X scope) c tg pg is)
    (he : ∀ i : CI, PuE (i.blk X scope) c WNo elt pe) (hsub : ∀ i ∈ is, i ∈ own.map (·.2) := by decide) (hs : ∀ x, foldedSetIterable iter X.env x = pure x := by intro _; rfl) : PuN X c W (.ListComp elt [⟨tg, iter, [], 0⟩] scope pos) (pLcN pi pg pYes pe (own.map (·.2))) := by
  obtain ⟨wi, hi, ri⟩ := hi
  obtain ⟨g, hg, rg⟩ := unifG hg
  obtain ⟨te, he, re⟩ := unifE he
  exact ⟨_, pe_lc hc hN hi ok (fun s H C cl fp => hg ⟨s, H, C, cl, fp⟩) (fun _ _ _ _ _ => pts_nil) (fun s H C cl fp => he ⟨s, H, C, cl, fp⟩) hs,
    rd_lcN ri rg hsub (fun H0 F0 env F σ H R E Q J L hp fin => fin true F H J (same_refl F) hp) re⟩
def pLstN (a : PTA) : PTN := fun env R E => a env (fun ss => allD ss fun ds => ds.length ≤ 1000 ∧ R ds) E
theorem pun_lst {es : List Expr} {p : Pos} {pa : PTA} (ha : PuA X c W es pa) : PuN X c W (.List es p) (pLstN pa) := by
  obtain ⟨ta, ha, ra⟩ := ha
  refine ⟨_, pe_lst ha, fun H0 F0 env F σ H R E Q J L h fin => ra _ _ _ _ _ _ _ _ _ J L h fun vs ss F1 H1 J1 k1 r1 h1 => ?_⟩
  obtain ⟨ds, r2, hl, q⟩ := allD_d r1 h1
  refine ⟨by rw [r2.len]; exact Nat.le_trans hl (by decide), fun p hp => ?_⟩
  exact fin p vs ds F1 _ (J1.new hp _) k1 (J1.b.fnone hp) (J1.b.h0 hp) upd_same r2 (own_ne J1 hp) q
/-- list(e) -/
def pListN (a : PTE) : PTN := fun env R E => a env (fun s => match s with
  | .d (.tuple ds) => R ds
  | .d (.list ds) => R ds
  | _ => False) E
theorem pun_list {e : Expr} {p pos : Pos} {pa : PTE} (hm : X.mg "list" = none) (ha : PuE X c W e pa) (hg : Gl X "list" := by rfl) (he : starEach [e] X.env = (false, eval e X.env) :: starEach [] X.env := by rfl) (hpl : (backTo pos (starEach [] X.env)).any (·.1) = false := by rfl) :
    PuN X c W (.Call (.Name "list" p) [e] [] pos) (pListN pa) := by
  obtain ⟨ta, ha, ra⟩ := ha
  refine ⟨_, pe_callTy c_list hg hm (by decide +kernel) (pa_cons ha pa_nil he) (by decide) (by decide) he hpl, fun H0 F0 env F σ H R E Q J L h fin => ra _ _ _ _ _ _ _ _ _ J L h fun v s F1 H1 J1 k1 r1 h1 => ?_⟩
  split at h1
  · cases r1 with
    | @tup a xs ds e rr => exact ⟨a, xs, rfl, .inr (sqT (J1.b.sub _ _ e)), fun l hl => fin l xs _ F1 _ (J1.new hl _) k1 (J1.b.fnone hl) (J1.b.h0 hl) upd_same rr (own_ne J1 hl) h1⟩
  · cases r1 with
    | @lst a xs ds e rr => exact ⟨a, xs, rfl, .inl (sqL (J1.b.sub _ _ e)), fun l hl => fin l xs _ F1 _ (J1.new hl _) k1 (J1.b.fnone hl) (J1.b.h0 hl) upd_same rr (own_ne J1 hl) h1⟩
  · exact h1.elim
/-- x = e, e a new list -/
def psOwnN (i : Nat) (a : PTN) : PTS := fun P env => a env (fun ds => P.nx (env.set i (some (.own ds)))) P.ex
theorem pus_ownN {i : Nat} {x : Str} {e : Expr} {pos pos' : Pos} {pn : PTN} (hN : X.N.Nodup) (ha : PuN X c W e pn) (hi : X.N[i]? = some x := by rfl) (hx : Loc X.env.scope x := by first | exact .inl rfl | exact .inr rfl) (hs : swapsWith e (some (.Name x pos')) pos.line X.env = pure false := by rfl)
    (hf : X.fn x = true ∨ X.env.scope.names.lookup x = some .local := by first | exact .inl rfl | exact .inr rfl | assumption) : PuS X c W (.Assign [.Name x pos'] e pos) (psOwnN i pn) := by
  obtain ⟨ta, ha, ra⟩ := ha
  refine ⟨_, ps_set hN hi hx ha hs hf, fun H0 F0 env F σ H D P J L h => ra _ _ _ _ _ _ _ _ _ J L.ex h fun q ys ds F1 H1 J1 k1 f1 n1 h1 r1 ne hp => ?_⟩
  exact L.nx _ F1 _ _ (J1.own i f1 n1 h1 r1 fun j xs _ e1 e2 => ne j xs e1 e2) k1 hp
/-- x, y = e1, e2: new lists both -/
def psParNN (i j : Nat) (a b : PTN) : PTS := fun P env => a env (fun ds => b (noOwn env) (fun es => P.nx ((env.set i (some (.own ds))).set j (some (.own es)))) ENo) P.ex
/-- the second one data -/
def psParNE (i j : Nat) (a : PTN) (b : PTE) : PTS := fun P env => a env (fun ds => b (noOwn env) (fun s => (match s with | .d _ => True | _ => False) ∧ P.nx ((env.set i (some (.own ds))).set j (some s))) ENo) P.ex
theorem Rel.keepN {H0 F0 F1 H1 F2 H2 : Hp} {env : Ev} {σ : St} {q : Addr} {ys : List V} (J1 : Rel c H0 F0 env F1 σ H1) {env' : Ev} {σ' : St} (J2 : Rel c H1 F1 env' F2 σ' H2) (fq : F1 q = none) (hq : H1 q = some (.lst ys)) : F2 q = none ∧ H2 q = some (.lst ys) := by
  refine ⟨?_, J2.b.fr q _ (J1.b.noutL hq) (fun ps z => by cases z) hq⟩
  cases e : F2 q with
  | none => rfl
  | some o =>
    rcases J2.b.fN q (by rw [e]; simp) with z | z
    · exact absurd fq z
    · rcases z _ hq with ⟨ps, z⟩ | ⟨ps, z⟩ <;> cases z
theorem pus_parNN {i j : Nat} {x y : Str} {a b : Expr} {pa pb : PTN} {px py pt pos : Pos} {kt k2 pt2} (hc : X.calm = true) (hN : X.N.Nodup) (ha : PuN X c W a pa) (hb : PuN X c W b pb) (hi : X.N[i]? = some x := by rfl) (hj : X.N[j]? = some y := by rfl) (hij : i ≠ j := by decide)
    (hx : X.env.scope.names.lookup x = some .local := by rfl) (hy : X.env.scope.names.lookup y = some .local := by rfl) (h1 : starEach [a, b] X.env = (false, eval a X.env) :: starEach [b] X.env := by rfl) (h2 : starEach [b] X.env = (false, eval b X.env) :: starEach [] X.env := by rfl)
    (hw : swappedStores [.Tuple [.Name x px, .Name y py] kt pt] (.Tuple [a, b] k2 pt2) X.env = pure (some [x, y]) := by rfl)
    (hs : swapsWithSole [.Tuple [.Name x px, .Name y py] kt pt] (.Tuple [a, b] k2 pt2) pos.line X.env = pure false := by rfl) :
    PuS X c W (.Assign [.Tuple [.Name x px, .Name y py] kt pt] (.Tuple [a, b] k2 pt2) pos) (psParNN i j pa pb) := by
  obtain ⟨ta, ha, ra⟩ := ha
  obtain ⟨tb, hb, rb⟩ := hb
  refine ⟨_, ps_par hc hN hi hj hij hx hy (pa_cons ha (pa_cons hb pa_nil h2) h1) hw hs, fun H0 F0 env F σ H D P J L h => ra _ _ _ _ _ _ _ _ _ J L.ex h fun q ys ds F1 H1 J1 k1 f1 n1 g1 r1 ne hp => ?_⟩
  refine rb _ _ _ _ _ _ _ _ _ J1.inner link_no hp fun q2 zs es F2 H2 J2 k2' f2 n2 g2 r2 _ hp2 => ?_
  obtain ⟨f3, g3⟩ := Rel.keepN J1 J2 f1 g1
  have J3 := J1.after J2.b
  have qq : q2 ≠ q := fun z => by
    subst z
    obtain ⟨ps, z⟩ := n2 _ g1
    cases z
  have n3 : Nw H0 q2 := fun o e => by
    by_cases m : ∃ ps, o = .tbl ps
    · exact m
    · exact n2 o (J1.b.fr q2 o (J2.b.noutL g2) (fun ps z => m ⟨ps, z⟩) e)
  have J4 := J3.own (ds := ds) i f3 n1 g3 (r1.same k2') fun j' xs _ e1 e2 => ne j' xs e1 e2
  have J5 := J4.own (ds := es) j f2 n3 g2 r2 fun j' xs hj' e1 e2 => by
    by_cases hi' : i = j'
    · subst hi'
      rw [List.getElem?_set_self (by have := (List.getElem?_eq_some_iff.mp e2).1; simpa using this)] at e2
      exact qq (V.ref.inj (Option.some.inj (Option.some.inj e2))).symm
    · rw [List.getElem?_set_ne hi'] at e1 e2
      obtain ⟨ov, e3, p, us, rfl, _, _, b3, _⟩ := J1.get e1
      rw [e2] at e3
      cases e3
      obtain ⟨ps, z⟩ := n2 _ b3
      cases z
  exact ⟨_, _, rfl, L.nx _ F2 _ _ J5 (same_trans k1 k2') hp2⟩
theorem pus_parNE {i j : Nat} {x y : Str} {a b : Expr} {pa : PTN} {pb : PTE} {px py pt pos : Pos} {kt k2 pt2} (hc : X.calm = true) (hN : X.N.Nodup) (ha : PuN X c W a pa) (hb : PuE X c W b pb) (hi : X.N[i]? = some x := by rfl) (hj : X.N[j]? = some y := by rfl) (hij : i ≠ j := by decide)
    (hx : X.env.scope.names.lookup x = some .local := by rfl) (hy : X.env.scope.names.lookup y = some .local := by rfl) (h1 : starEach [a, b] X.env = (false, eval a X.env) :: starEach [b] X.env := by rfl) (h2 : starEach [b] X.env = (false, eval b X.env) :: starEach [] X.env := by rfl)
    (hw : swappedStores [.Tuple [.Name x px, .Name y py] kt pt] (.Tuple [a, b] k2 pt2) X.env = pure (some [x, y]) := by rfl)
    (hs : swapsWithSole [.Tuple [.Name x px, .Name y py] kt pt] (.Tuple [a, b] k2 pt2) pos.line X.env = pure false := by rfl) :
    PuS X c W (.Assign [.Tuple [.Name x px, .Name y py] kt pt] (.Tuple [a, b] k2 pt2) pos) (psParNE i j pa pb) := by
  obtain ⟨ta, ha, ra⟩ := ha
  obtain ⟨tb, hb, rb⟩ := hb
  refine ⟨_, ps_par hc hN hi hj hij hx hy (pa_cons ha (pa_cons hb pa_nil h2) h1) hw hs, fun H0 F0 env F σ H D P J L h => ra _ _ _ _ _ _ _ _ _ J L.ex h fun q ys ds F1 H1 J1 k1 f1 n1 g1 r1 ne hp => ?_⟩
  refine rb _ _ _ _ _ _ _ _ _ J1.inner link_no hp fun v s F2 H2 J2 k2' rv hp2 => ?_
  obtain ⟨f3, g3⟩ := Rel.keepN J1 J2 f1 g1
  have J3 := J1.after J2.b
  have J4 := J3.own (ds := ds) i f3 n1 g3 (r1.same k2') fun j' xs _ e1 e2 => ne j' xs e1 e2
  exact ⟨_, _, rfl, L.nx _ F2 _ _ (J4.set j rv) (same_trans k1 k2') hp2.2⟩
end
end Px
namespace Px
open PySem PySem.Spec PyProof.Rows L2 Lx
/-! ### enumerate of a tuple -/
theorem meets_enum1 {v : Value} {o : Obj} {Hz : Heap → Prop} (B : Begins v o Hz) :
    Meets (Builtin.«enumerate.__new__» ⟨[.type "enumerate", v], []⟩) (fun _ R s => Hz s.heap ∧ R (.ok (.ret (.ref (s.heap.push o).objs.size))) { s with heap := (s.heap.push o).push { cls := .type "enumerate", data := .fields #[.none, .bool false, .ref s.heap.objs.size, rawInt 0, .none, .none] } }) :=
  .of_wp fun prog w A R s hh => by
    obtain ⟨hp, gs, dn, tk, os⟩ := s
    obtain ⟨hz, hh⟩ := hh
    have hsub := sub_enumerate
    have it1 {A' : Around} {E : Value → Shared → Prop} {Q : Value → Shared → Prop} (q : Q (.ref hp.objs.size) ⟨hp.push o, gs, dn, tk, os⟩) : wpAny (model prog w) A' (pyIter v) Q E ⟨hp, gs, dn, tk, os⟩ := B.iter prog w _ _ ⟨hp, gs, dn, tk, os⟩ _ hz q
    wp_walk using it1
    refine wpAny_stack_any fun st => wpAny_pure ?_
    split
    · rename_i c _ _ _ _ _
      cases (c == Value.type "enumerate") <;> (wp_walk using it1; exact ⟨_, rfl, hh⟩)
    · wp_walk using it1
      exact ⟨_, rfl, hh⟩
theorem enum_new {prog : Program} {w : World} {A : Around} {E : Value → Shared → Prop} {s : Shared} {v : Value} {o : Obj} {Hz : Heap → Prop} {Q : Value → Shared → Prop} (B : Begins v o Hz) (hz : Hz s.heap)
    (hQ : ∀ h' : Heap, IsEnum h' (s.heap.objs.size + 1) s.heap.objs.size 0 .none → h'.get? s.heap.objs.size = some o → (∀ b u, s.heap.get? b = some u → h'.get? b = some u) → Q (.ref (s.heap.objs.size + 1)) { s with heap := h' }) :
    wpAny (model prog w) A (call (.type "enumerate") [v]) Q E s := by
  have sz : (s.heap.push o).objs.size = s.heap.objs.size + 1 := Heap.size_push ..
  have keep : ∀ (o2 : Obj) b u, s.heap.get? b = some u → ((s.heap.push o).push o2).get? b = some u := fun o2 b u e => Heap.get?_push_of_some _ (Heap.get?_push_of_some _ e)
  have he : IsEnum ((s.heap.push o).push { cls := .type "enumerate", data := .fields #[.none, .bool false, .ref s.heap.objs.size, rawInt 0, .none, .none] }) (s.heap.objs.size + 1) s.heap.objs.size 0 .none := by
    rw [← sz]
    exact Heap.get?_push_size _ rfl
  refine callType_new F.called_enumerate (by decide) (F.typeCall_enumerate_1 _) (F.newCall_enumerate_1 _) (fun ob => F.args_object_init_2 ob _) F.entry_enumerate_new (meets_enum1 B) ⟨hz, ?_⟩
  show _ ∧ _
  rw [sz]
  exact ⟨⟨_, he, rfl⟩, hQ _ he (Heap.get?_push_of_some _ (Heap.get?_push_size _ B.free)) (keep _)⟩
/-- the tuple at a, each item in a new pair -/
def IteT (K : PySem.W.Frag) (a : Addr) : It :=
  ⟨fun i H => ∃ (xs : List V) (x : V), SqT K H a xs ∧ xs[i]? = some x, fun i H v H' => ∃ T x, v = .ref T ∧ H T = none ∧ H' = upd H T (.tup [.int (i : Nat), x]) ∧ ∀ xs, SqT K H a xs → xs[i]? = some x, fun i H => ∃ xs : List V, SqT K H a xs ∧ xs.length = i⟩
theorem turn_enumT {P : Program} {w : World} {K : PySem.W.Frag} {elts : List Expr} {kk : Nat} {tpos : Pos} (a e it : Addr) :
    Turn P w K (.Tuple elts kk tpos) (IteT K a) [e, it] e (fun i h => (∃ old, IsEnum h e it ((i : Nat) : Int) old) ∧ h.IsTupleIter it a i ∧ e ≠ it) where
  mem := List.mem_cons_self
  obj := fun i h st b hb => by
    obtain ⟨⟨old, he⟩, ⟨o, ho, hc, hd⟩, _⟩ := st
    rcases (show b = e ∨ b = it by simpa using hb) with rfl | rfl
    · exact ⟨_, he, fun v q => nomatch q⟩
    · exact ⟨o, ho, fun v q => by rw [hd] at q; cases q⟩
  keep := fun i h h' ⟨⟨old, he⟩, hi, hne⟩ k => ⟨⟨old, k e (by simp) _ he⟩, hi.at fun o q => k it (by simp) o q, hne⟩
  item := by
    intro X hP hw hK hc i pins s σ H E I hf st hg
    subst hP hw hK
    obtain ⟨⟨old, he⟩, hit, hne⟩ := st
    obtain ⟨xs, x, hq, hx⟩ := hg
    obtain ⟨its, rv, p, hz⟩ := I.tuple hq
    obtain ⟨u, hu, ru⟩ := rv.get hx
    have pt : s.heap.IsTuple a its.toArray := p
    have na : a ≠ it := fun z => by
      obtain ⟨o1, q1, c1, _⟩ := pt
      obtain ⟨o2, q2, c2, _⟩ := hit
      rw [z, q2] at q1
      cases q1
      exact absurd (Value.type.inj (c2.symm.trans c1)) (by decide)
    have nea : e ≠ a := fun z => by
      obtain ⟨o1, q1, c1, _⟩ := pt
      have q2 := he
      rw [z] at q2
      rw [show s.heap.get? a = _ from q2] at q1
      cases q1
      exact absurd (Value.type.inj c1) (by decide)
    have hel : e < s.heap.objs.size := Heap.lt_size he
    have hil : it < s.heap.objs.size := by obtain ⟨_, q, _⟩ := hit; exact Heap.lt_size q
    have hlt : i < its.toArray.size := by
      have := (List.getElem?_eq_some_iff.mp hu).1
      simpa using this
    have D := Draws.tuple (prog := X.prog) (w := X.w) (A := X.A.in1) (I.ok.hd hc) it a na its.toArray
    refine wpAny_pyNext_enum_itemC (i := i) (c := (i : Int)) D he ⟨hit, pt⟩ hlt hne (by simp [hne, nea]) fun y h' tk hy ho hst hT hsz hk => ?_
    have ey : y = u := by
      have hy' : its[i]? = some y := by simpa using hy
      rw [hu] at hy'
      exact (Option.some.inj hy').symm
    subst ey
    refine ⟨_, rfl, wpAny_letOwnedTupleGo_enum (s := { s with heap := h', toks := tk + 1 }) ho fun h2 he' sb => ?_⟩
    have hT2 : h2.get? s.heap.objs.size = some { cls := .type "tuple", data := .seq #[.int i tk, y] } := (sb.2 _ (Nat.ne_of_gt hel)).trans hT
    have new : ObjOk X.prog X.w (upd H s.heap.objs.size (.tup [.int (i : Nat), x])) h2 s.heap.objs.size (.tup [.int (i : Nat), x]) :=
      ⟨by show 2 ≤ sizeLine; decide, [.int i tk, y], .cons ⟨_, rfl⟩ (.cons ru .nil), ⟨_, hT2, rfl, _, rfl⟩⟩
    have I1 : Inv X pins σ (upd H s.heap.objs.size (.tup [.int (i : Nat), x])) { s with heap := h2, toks := tk + 1 } :=
      I.turnedNew (ch := [e, it]) (fun b ob hb q => (sb.2 b (fun z => hb (by simp [z]))).trans (hk b ob (fun z => hb (by simp [z])) (fun z => hb (by simp [z])) q)) hf (Nat.le_refl _) new
    refine ⟨.ref s.heap.objs.size, _, I1, rfl, ⟨_, x, rfl, I.hok.fresh (Nat.le_refl _), rfl, fun ys hy' => by rw [I.tuple_inj hy' hq]; exact hx⟩, ⟨⟨y, ?_⟩, hst.1.at fun o q => (sb.2 it (Ne.symm hne)).trans q, hne⟩, fun b hb => ?_⟩
    · rw [show ((i + 1 : Nat) : Int) = (i : Int) + 1 by omega]; exact he'
    · have hb' : b < s.heap.objs.size := by
        rcases (show b = e ∨ b = it by simpa using hb) with rfl | rfl
        · exact hel
        · exact hil
      rw [upd_ne (Nat.ne_of_lt hb')]
      exact (hf b hb).1
  done := by
    intro X hP hw hK hc i pins s σ H E I hf st hg
    subst hP hw hK
    obtain ⟨⟨old, he⟩, hit, hne⟩ := st
    obtain ⟨xs, hq, hx⟩ := hg
    obtain ⟨its, rv, p, hz⟩ := I.tuple hq
    have pt : s.heap.IsTuple a its.toArray := p
    have na : a ≠ it := fun z => by
      obtain ⟨o1, q1, c1, _⟩ := pt
      obtain ⟨o2, q2, c2, _⟩ := hit
      rw [z, q2] at q1
      cases q1
      exact absurd (Value.type.inj (c2.symm.trans c1)) (by decide)
    obtain ⟨f0, f1, f2, f3, f4, f5⟩ := hf it (by simp)
    have D := Draws.tuple (prog := X.prog) (w := X.w) (A := X.A.in1) (I.ok.hd hc) it a na its.toArray
    have hi : i = its.toArray.size := by rw [List.size_toArray, ← rv.length, hx]
    refine wpAny_pyNext_enum_endD (i := (i : Int)) D he ⟨by rw [← hi]; exact hit, pt⟩ fun h' eb => ⟨rfl, I.turned (t' := s.toks) (fun b o hb q => eb b o hb q) f0 f1 f3 f4 f5⟩
  self := fun A i s Q E st h => let ⟨⟨_, he⟩, _⟩ := st; wpAny_pyIter_enum he h
def iEnumT (K : PySem.W.Frag) (ta : TA) : TI := fun σ H R => ta σ H fun vs H1 => ∃ a xs, vs = [.ref a] ∧ SqT K H1 a xs ∧ R (IteT K a) H1
theorem pi_enumT {X : Cx} {e : Expr} {ta : TA} {p pos tpos : Pos} {elts : List Expr} {kk : Nat} (hg : Gl X "enumerate") (hm : X.mg "enumerate" = none) (ha : PA X [e] ta) (hs : starEach [e] X.env = [(false, eval e X.env)] := by rfl) :
    PI X (.Tuple elts kk tpos) (.Call (.Name "enumerate" p) [e] [] pos) (iEnumT X.K ta) := by
  refine ⟨fun pins s σ H R I h => Call_ (ld_blt I hg hm boot_enumerate (PyProof.Rows.callWith_type1 (thn (ha.run pos pins s σ H _ I h) fun us s1 z => ?_) hs rfl))⟩
  obtain ⟨vs, H1, I1, r1, a, xs, rfl, hq, q⟩ := z
  cases r1 with
  | cons r rr =>
    cases rr
    cases r
    obtain ⟨its, rv, p', hz⟩ := I1.tuple hq
    refine enum_new (begins_tuple a its.toArray) p' fun h' he hit hk => wpAny_pyIter_enum he ?_
    have I2 : Inv X pins σ H1 { s1 with heap := h' } := I1.kept (t' := s1.toks) hk
    refine ⟨s1.heap.objs.size + 1, [s1.heap.objs.size + 1, s1.heap.objs.size], _, _, H1, rfl, I2, turn_enumT a (s1.heap.objs.size + 1) s1.heap.objs.size, ⟨⟨.none, he⟩, ⟨_, hit, rfl, rfl⟩, Nat.succ_ne_self _⟩, fun b hb => ?_, q⟩
    have hle : s1.heap.objs.size ≤ b := by
      rcases (show b = s1.heap.objs.size + 1 ∨ b = s1.heap.objs.size by simpa using hb) with z | z
      · rw [z]; exact Nat.le_add_right _ _
      · exact Nat.le_of_eq z.symm
    exact I1.fpOk hle (I1.hok.fresh hle)
def enumD (ds : List PyData) : List PyData := (ds.zipIdx).map fun p => .tuple [.int (p.2 : Nat), p.1]
def iEnumP (a : PTA) : PTI := fun env R E => a env (fun ss => match ss with
  | [.d (.tuple ds)] => R (enumD ds)
  | _ => False) E
theorem enumD_at {ds : List PyData} {i : Nat} {d : PyData} (h : (enumD ds)[i]? = some d) : ∃ x, ds[i]? = some x ∧ d = .tuple [.int (i : Nat), x] := by
  unfold enumD at h
  rw [List.getElem?_map, List.getElem?_zipIdx] at h
  cases e : ds[i]? with
  | none => rw [e] at h; cases h
  | some x =>
    rw [e] at h
    refine ⟨x, rfl, ?_⟩
    have := Option.some.inj h
    simpa using this.symm
section
variable {X : Cx} {c : Cc} {W : WX}
theorem walk_enumT {K : PySem.W.Frag} {F : Hp} {a : Addr} {xs : List V} {ds : List PyData} (e : F a = some (.tup xs)) (r : RqAll F xs ds) : Walk c (IteT K a) F (enumD ds) where
  stop := fun H0 F0 env F' σ H J k => ⟨xs, sqT (J.b.sub _ _ (k _ _ e)), by rw [r.len]; unfold enumD; simp⟩
  go := fun H0 F0 env F' σ H i d J k h => by
    obtain ⟨x, hx, rfl⟩ := enumD_at h
    obtain ⟨v, e1, rv⟩ := r.get hx
    have q : SqT K H a xs := sqT (J.b.sub _ _ (k _ _ e))
    refine ⟨⟨xs, v, q, e1⟩, fun y H3 z => ?_⟩
    obtain ⟨T, v', rfl, hT, rfl, f1⟩ := z
    have g1 := f1 xs q
    rw [e1] at g1
    cases g1
    have k2 : Same F' (upd F' T (.tup [.int (i : Nat), v])) := same_upd (J.b.fnone hT)
    exact ⟨_, J.alloc hT _, k2, Rq.tup upd_same (.cons (Rq.int _) (.cons ((rv.same k).same k2) .nil))⟩
theorem pui_enumT {a : Expr} {p pos tpos : Pos} {elts : List Expr} {kk : Nat} {pa : PTA} (hm : X.mg "enumerate" = none) (ha : PuA X c W [a] pa) (hg : Gl X "enumerate" := by rfl) (hs : starEach [a] X.env = [(false, eval a X.env)] := by rfl) : PuI X c W (.Tuple elts kk tpos) (.Call (.Name "enumerate" p) [a] [] pos) (iEnumP pa) := by
  obtain ⟨ta, ha, ra⟩ := ha
  refine ⟨_, pi_enumT hg hm ha hs, fun H0 F0 env F σ H R E Q J L hp fin => ra _ _ _ _ _ _ _ _ _ J L hp fun vs ss F1 H1 J1 k1 r1 h1 => ?_⟩
  split at h1
  · obtain ⟨v, rfl, rv⟩ := rs1 r1
    cases rv with
    | tup e rr => exact ⟨_, _, rfl, sqT (J1.b.sub _ _ e), fin _ F1 H1 _ J1 k1 (walk_enumT e rr) h1⟩
  · exact h1.elim
/-! ### a <= b <= d -/
def pChain (r r' : POp) (a b d : PTE) : PTE := fun env R E => a env (fun x => b env (fun y => r x y fun z => bOf z fun k => (k = true → d env (fun w => r' y w R) E) ∧ (k = false → R (.d (.bool false)))) E) E
theorem rd_chain {r r' : R2} {pr pr' : POp} {ta tb td : TE} {pa pb pd : PTE} (hr : ROp c r pr) (hr' : ROp c r' pr') (ra : Rd c W ta pa) (rb : Rd c W tb pb) (rd : Rd c W td pd) : Rd c W (tChain r r' ta tb td) (pChain pr pr' pa pb pd) := by
  refine fun H0 F0 env F σ H R E Q J L hp fin => ra _ _ _ _ _ _ _ _ _ J L hp fun x sx F1 H1 J1 k1 r1 h1 => ?_
  refine rb _ _ _ _ _ _ _ _ _ J1 L h1 fun y sy F2 H2 J2 k2 r2 h2 => ?_
  refine hr _ _ _ _ _ _ _ _ _ _ _ _ J2 (r1.same k2) r2 h2 fun z s F3 H3 J3 k3 rz h3 => ?_
  obtain ⟨k, rfl, h3⟩ := bOf_d h3
  have k13 := same_trans k1 (same_trans k2 k3)
  refine ⟨k, rq_bl rz, ?_⟩
  cases k with
  | true =>
    rw [if_pos rfl]
    refine rd _ _ _ _ _ _ _ _ _ J3 L (h3.1 rfl) fun w sw F4 H4 J4 k4 r4 h4 => ?_
    exact hr' _ _ _ _ _ _ _ _ _ _ _ _ J4 (r2.same (same_trans k3 k4)) r4 h4 fun v s F5 H5 J5 k5 rv q => fin v s F5 H5 J5 (same_trans k13 (same_trans k4 k5)) rv q
  | false =>
    rw [if_neg (by simp)]
    exact fin _ (.d _) F3 H3 J3 k13 (Rq.bl _) (h3.2 rfl)
theorem pu_chain {op op' : CmpOp} {r r' : R2} {pr pr' : POp} {a b d : Expr} {pos : Pos} {pa pb pd : PTE} (ho : OpR X (compareOp op) r) (hr : ROp c r pr) (ho' : OpR X (compareOp op') r') (hr' : ROp c r' pr') (ha : PuE X c W a pa) (hb : PuE X c W b pb) (hd : PuE X c W d pd)
    (hm : lastMarks [op, op'] [b, d] = false := by with_unfolding_all rfl) : PuE X c W (.Compare a [op, op'] [b, d] pos) (pChain pr pr' pa pb pd) := by
  obtain ⟨ta, ha, ra⟩ := ha
  obtain ⟨tb, hb, rb⟩ := hb
  obtain ⟨td, hd, rd⟩ := hd
  exact ⟨_, pe_chain ho ho' ha hb hd hm, rd_chain hr hr' ra rb rd⟩
theorem pt_chain' {op op' : CmpOp} {r r' : R2} {pr pr' : POp} {a b d : Expr} {pos : Pos} {pa pb pd : PTE} (ho : OpR X (compareOp op) r) (hr : ROp c r pr) (ho' : OpR X (compareOp op') r') (hr' : ROp c r' pr') (ha : PuE X c W a pa) (hb : PuE X c W b pb) (hd : PuE X c W d pd)
    (hm : lastMarks [op, op'] [b, d] = false := by with_unfolding_all rfl) : PuT X c W (.Compare a [op, op'] [b, d] pos) (ptB (pChain pr pr' pa pb pd)) := by
  obtain ⟨ta, ha, ra⟩ := ha
  obtain ⟨tb, hb, rb⟩ := hb
  obtain ⟨td, hd, rd⟩ := hd
  exact ⟨_, pt_chain ho ho' ha hb hd hm, rd_test (rd_chain hr hr' ra rb rd)⟩
/-! ### tuples and lists, so many times -/
theorem tuple_mul1 (l : Addr) (items : Array Value) (n : Nat) (dd : Option Addr) (sl : Array (Option Value)) (u : Tok) :
    Meets (Builtin.«tuple.__mul__» ⟨[.ref l, .int 1 u], []⟩) (fun _ R s => s.heap.get? l = some { cls := .type "tuple", dict := dd, data := .seq items n, slots := sl } ∧ R (.ok (.ret (Value.ref l))) s) :=
  .of_wp fun prog w A R s hh => by
    obtain ⟨hp, gs, dn, tk, os⟩ := s
    obtain ⟨hl, hh⟩ := hh
    have f1 := AutoSeq1.idx_int
    wp_walk using wpAny_loadPart' hl
    exact ⟨_, rfl, hh⟩
/-- t * 1 -/
def rRep1 (K : PySem.W.Frag) : R2 := fun x y H Q => ∃ l xs, x = .ref l ∧ y = .int 1 ∧ SqT K H l xs ∧ Q x H
theorem op_rep1 : OpR X (binaryOp .Mult) (rRep1 X.K) := by
  intro pins s σ H x y v u Q I rx ry h
  obtain ⟨l, xs, rfl, rfl, hT, q⟩ := h
  cases rx
  obtain ⟨t, rfl⟩ := ry
  obtain ⟨its, r, ⟨⟨cls, dd, data, sl⟩, ho, hc, n, hd⟩, hs⟩ := I.tuple hT
  simp only at hc hd
  subst hc hd
  refine wpAny_binaryOp_repeat_ref (T := "tuple") (U := "int") (by decide) ⟨_, ho, rfl⟩ (fun s' => typeIs_int s' 1 t) noFill_tuple_mul F.fills_int_mul F.slot_int_rmul repeat_tuple F.slot_int_index.lookup
    (call_meets F.slot_int_rmul (typeIs_int s 1 t) F.entry_int_rmul (F.args_int_rmul_2 _ _) (int_rmul_tuple 1 t l its.toArray n dd sl)
      ⟨ho, rfl, ⟨_, ho, rfl⟩, call_meets F.slot_tuple_mul ⟨_, ho, rfl⟩ F.entry_tuple_mul (F.args_tuple_mul_2 _ _) (tuple_mul1 l its.toArray n dd sl t) ⟨ho, ?_⟩⟩)
  exact ⟨.ref l, H, I, rfl, q⟩
def repD (n : Nat) (ds : List PyData) : List PyData := (List.replicate n ds).flatten
/-- a sequence so many times; (1 <= n), a tuple not empty -/
def oRep : POp := fun x y R => match x, y with
  | .d (.tuple ds), .d (.int k) => 1 ≤ k ∧ k ≤ 1000 ∧ ds ≠ [] ∧ ds.length ≤ 1000 ∧ R (.d (.tuple (repD k.toNat ds)))
  | .d (.list ds), .d (.int k) => 0 ≤ k ∧ k ≤ 1000 ∧ ds.length ≤ 1000 ∧ R (.d (.list (repD k.toNat ds)))
  | _, _ => False
theorem rep_rel {F : Hp} {xs : List V} {ds : List PyData} (r : RqAll F xs ds) : ∀ n : Nat, RqAll F (List.replicate n xs).flatten (repD n ds)
  | 0 => .nil
  | n + 1 => by
    unfold repD
    rw [List.replicate_succ, List.replicate_succ, List.flatten_cons, List.flatten_cons]
    exact r.app (rep_rel r n)
def rRepA (K : PySem.W.Frag) : R2 := fun x y H Q => rRep1 K x y H Q ∨ (rRepT K x y H Q ∨ rRep x y H Q)
theorem op_repA : OpR X (binaryOp .Mult) (rRepA X.K) := op_rep1.or (op_repT.or op_rep)
theorem ro_rep {K : PySem.W.Frag} : ROp c (rRepA K) oRep := by
  intro H0 F0 env F σ H x y sx sy R Q J rx ry hp fin
  unfold oRep at hp
  split at hp
  · rename_i ds k
    obtain ⟨h1, h2, h3, h4, hp⟩ := hp
    cases ry
    cases rx with
    | @tup a xs _ e rr =>
      by_cases hk : k = 1
      · subst hk
        have e1 : repD (1 : Int).toNat ds = ds := by simp [repD]
        rw [e1] at hp
        exact .inl ⟨a, xs, rfl, rfl, sqT (J.b.sub _ _ e), fin _ (.d _) F H J (same_refl F) (Rq.tup e rr) hp⟩
      · have hne : xs ≠ [] := fun z => h3 (List.eq_nil_of_length_eq_zero (by rw [← rr.len, z]; rfl))
        refine .inr (.inl ⟨a, k, xs, rfl, rfl, sqT (J.b.sub _ _ e), hne, by omega, h2, by rw [rr.len]; exact h4, fun p hn => ?_⟩)
        have k2 : Same F (upd F p (.tup (List.replicate k.toNat xs).flatten)) := same_upd (J.b.fnone hn)
        exact fin (.ref p) (.d _) _ _ (J.alloc hn _) k2 (Rq.tup upd_same ((rep_rel rr _).same k2)) hp
  · rename_i ds k
    obtain ⟨h1, h2, h4, hp⟩ := hp
    cases ry
    cases rx with
    | @lst a xs _ e rr =>
      refine .inr (.inr ⟨a, k, xs, rfl, rfl, J.b.sub _ _ e, by omega, by omega, ?_, fun p hn => ?_⟩)
      · rw [rr.len, sizeLine_eq]
        have : ds.length * k.toNat ≤ 1000 * 1000 := Nat.mul_le_mul h4 (by omega)
        omega
      · have k2 : Same F (upd F p (.lst (List.replicate k.toNat xs).flatten)) := same_upd (J.b.fnone hn)
        exact fin (.ref p) (.d _) _ _ (J.alloc hn _) k2 (Rq.lst upd_same ((rep_rel rr _).same k2)) hp
  · exact hp.elim
end
end Px
namespace Px
open PySem PySem.Spec PyProof.Rows L2 Lx
/-! ### one's own list lent to an expression -/
mutual
/-- neither lists nor dicts in it -/
def noL : PyData → Bool
  | .list _ => false
  | .dict _ => false
  | .tuple xs => noLs xs
  | _ => true
def noLs : List PyData → Bool
  | [] => true
  | x :: xs => noL x && noLs xs
end
/-- all but q -/
def without (F : Hp) (q : Addr) : Hp := fun b => if b = q then none else F b
theorem without_ne {F : Hp} {q b : Addr} (h : b ≠ q) : without F q b = F b := if_neg h
theorem without_same {F : Hp} {q : Addr} : without F q q = none := if_pos rfl
mutual
theorem Rq.without {F : Hp} {q : Addr} {ys : List V} (hq : F q = some (.lst ys)) : ∀ {v : V} {d : PyData}, Rq F v d → noL d = true → Rq (Px.without F q) v d
  | _, _, .non, _ => .non
  | _, _, .bl b, _ => .bl b
  | _, _, .int i, _ => .int i
  | _, _, .str x, _ => .str x
  | _, _, .lst e r, h => by simp [noL] at h
  | _, _, .tup e r, h => .tup (by rw [without_ne fun z => by rw [z, hq] at e; cases e]; exact e) (RqAll.without hq r (by simpa [noL] using h))
  | _, _, .dct e q r, h => by simp [noL] at h
theorem RqAll.without {F : Hp} {q : Addr} {ys : List V} (hq : F q = some (.lst ys)) : ∀ {vs : List V} {ds : List PyData}, RqAll F vs ds → noLs ds = true → RqAll (Px.without F q) vs ds
  | _, _, .nil, _ => .nil
  | _, _, .cons a b, h => by
    rw [noLs, Bool.and_eq_true] at h
    exact .cons (Rq.without hq a h.1) (RqAll.without hq b h.2)
end
section
variable {c : Cc} {H0 F0 F H : Hp} {env : Ev} {σ : St}
/-- lent: for the time of an inner step all see the list; then it is one's own again -/
theorem Rel.lend (R : Rel c H0 F0 env F σ H) {i : Nat} {ds : List PyData} (h : nth env i = some (.own ds)) : ∃ (q : Addr) (ys : List V) (F1 : Hp), F1 q = some (.lst ys) ∧ F q = none ∧ Rel c H F1 (noOwn (env.set i (some (.d (.list ds))))) F1 σ H ∧
    ∀ F' H', Bas c H F1 F' H' → F' q = some (.lst ys) ∧ Rel c H0 F0 env (Px.without F' q) σ H' ∧ Same F (Px.without F' q) := by
  obtain ⟨ov, e1, q, ys, e2, hF, h0, hq, r⟩ := R.get (nth_eq _ _ h)
  subst e2
  have k : Same F (upd F q (.lst ys)) := same_upd hF
  obtain ⟨F2, R2, _⟩ := R.show h
  refine ⟨q, ys, upd F q (.lst ys), upd_same, hF, ?_, fun F' H' A => ?_⟩
  · have R3 : Rel c H0 F0 (env.set i (some (.d (.list ds)))) (upd F q (.lst ys)) σ H := by
      refine ⟨R.b.freeze hq hF h0, R2.len, fun j ov s' e3 e4 => ?_, fun j l p xs zs e3 e4 e5 e6 => R2.sep j l p xs zs e3 e4 e5 e6⟩
      by_cases hij : i = j
      · subst hij
        have h1 : i < env.length := by
          have := (List.getElem?_eq_some_iff.mp e4).1
          simpa using this
        rw [List.getElem?_set_self h1] at e4
        cases e4
        rw [e1] at e3
        cases e3
        exact ⟨.ref q, rfl, Rq.lst upd_same (r.same k)⟩
      · rw [List.getElem?_set_ne hij] at e4
        have ne : ∀ (xs : List PyData), env[j]? = some (some (.own xs)) → σ[j]? ≠ some (some (.ref q)) := fun xs e z => hij (R.sep i j q ds xs (nth_eq _ _ h) e e1 z)
        have r2 := R.sl j ov s' e3 e4
        cases s' with
        | none => exact True.intro
        | some s' =>
          cases s' with
          | d x => obtain ⟨v, e, rv⟩ := r2; exact ⟨v, e, rv.same k⟩
          | raw v => exact r2
          | exc p C fs => exact ⟨r2.1, r2.2.same k⟩
          | obj C fs => exact ⟨r2.choose, r2.choose_spec.1, r2.choose_spec.2.same k⟩
          | slf x C fs =>
            obtain ⟨dx, gs, e, a1, a2, a3, a4, a5⟩ := r2
            have np : x ≠ q := fun z => by rw [z, hq] at a3; cases a3
            exact ⟨dx, gs, e, by rw [upd_ne np]; exact a1, a2, a3, a4, a5.same k⟩
          | tab kvs => exact ⟨r2.choose, r2.choose_spec.1, r2.choose_spec.2.same k⟩
          | ownT kvs =>
            obtain ⟨p, us, e, a1, a2, a3, a4, a5⟩ := r2
            have np : p ≠ q := fun z => by rw [z, hq] at a3; cases a3
            exact ⟨p, us, e, by rw [upd_ne np]; exact a1, a2, a3, a4, a5.same k⟩
          | own xs =>
            obtain ⟨p, us, e, a1, a2, a3, a4⟩ := r2
            have np : p ≠ q := fun z => ne xs e4 (by rw [e3, e, z])
            exact ⟨p, us, e, by rw [upd_ne np]; exact a1, a2, a3, a4.same k⟩
    exact R3.inner
  · have fq : F' q = some (.lst ys) := A.fF q _ upd_same
    have nq : ∀ {b u}, F b = some u → b ≠ q := fun e z => by rw [z, hF] at e; cases e
    have kG : Same F (Px.without F' q) := fun b u e => by rw [without_ne (nq e)]; exact A.fF b u (by rw [upd_ne (nq e)]; exact e)
    have B : Bas c H0 F0 (Px.without F' q) H' := by
      refine ⟨fun b u e => ?_, fun b hb => ?_, ?_, A.tab, fun b o n m e => A.fr b o n m (R.b.fr b o n m e), same_trans R.b.fF kG, fun b n => ?_, fun b ps e => ?_, R.b.ou⟩
      · by_cases z : b = q
        · rw [z, without_same] at e; cases e
        · rw [without_ne z] at e; exact A.sub b u e
      · by_cases z : b = q
        · rw [z, without_same]
        · rw [without_ne z]; exact A.fx b hb
      · obtain ⟨ns, a, d, k, f, e1', e3⟩ := A.pen
        refine ⟨ns, a, d, k, f, e1', ?_⟩
        obtain ⟨ns0, _, _, _, _, _, e0⟩ := R.b.pen
        rw [without_ne (nq e0)]; exact e3
      · have n' : F' b ≠ none := fun z => n (by by_cases y : b = q <;> simp [Px.without, y, z])
        have bq : b ≠ q := fun z => n (by rw [z, without_same])
        rcases A.fN b n' with z | z
        · rw [upd_ne bq] at z
          exact R.b.fN b z
        · refine .inr fun o e => ?_
          by_cases m : ∃ ps, o = .tbl ps
          · exact .inl m
          · exact z o (R.b.fr b o (fun hb => n' (A.fx b hb)) (fun ps h => m ⟨ps, h⟩) e)
      · by_cases z : b = q
        · rw [z, without_same] at e; cases e
        · rw [without_ne z] at e; exact A.fT b ps e
    refine ⟨fq, ?_, kG⟩
    refine R.move B kG fun b o ho e1 e2 e3 => ⟨?_, A.fr b _ (R.b.noutO ho e3) ho.nt e3⟩
    by_cases z : b = q
    · rw [z, without_same]
    · rw [without_ne z]
      cases e : F' b with
      | none => rfl
      | some o' =>
        rcases A.fN b (by rw [e]; simp) with z' | z'
        · rw [upd_ne z] at z'; exact absurd e1 z'
        · rcases z' _ e3 with ⟨ps, z'⟩ | ⟨ps, z'⟩
          · exact absurd z' (ho.nt ps)
          · exact absurd z' (ho.ntp ps)
end
/-- the own list i stands as data within e; what comes of e holds no list -/
def pLend (i : Nat) (pe : PTE) : PTE := fun env R E => match nth env i with
  | some (.own ds) => pe (noOwn (env.set i (some (.d (.list ds))))) (fun s => match s with
    | .d d => noL d = true ∧ R (.d d)
    | _ => False) ENo
  | _ => False
def pLendN (i : Nat) (pn : PTN) : PTN := fun env R E => match nth env i with
  | some (.own ds) => pn (noOwn (env.set i (some (.d (.list ds))))) (fun es => noLs es = true ∧ R es) ENo
  | _ => False
section
variable {X : Cx} {c : Cc} {W : WX}
theorem rd_lend (i : Nat) {t : TE} {pe : PTE} (r : Rd c W t pe) : Rd c W t (pLend i pe) := by
  refine fun H0 F0 env F σ H R E Q J L h fin => ?_
  unfold pLend at h
  split at h
  · rename_i ds hn
    obtain ⟨q, ys, F1, f1, fq, J1, back⟩ := J.lend hn
    refine r _ _ _ _ _ _ _ _ _ J1 link_no h fun v s F2 H2 J2 k2 rv h2 => ?_
    split at h2
    · obtain ⟨f2, J3, k3⟩ := back F2 H2 J2.b
      exact fin v (.d _) _ H2 J3 k3 (Rq.without f2 rv h2.1) h2.2
    · exact h2.elim
  · exact h.elim
theorem pu_lend (i : Nat) {e : Expr} {pe : PTE} (h : PuE X c W e pe) : PuE X c W e (pLend i pe) := let ⟨t, ht, r⟩ := h; ⟨t, ht, rd_lend i r⟩
theorem rdN_lend (i : Nat) {t : TE} {pn : PTN} (r : RdN c W t pn) : RdN c W t (pLendN i pn) := by
  refine fun H0 F0 env F σ H R E Q J L h fin => ?_
  unfold pLendN at h
  split at h
  · rename_i ds hn
    obtain ⟨q, ys, F1, f1, fq, J1, back⟩ := J.lend hn
    refine r _ _ _ _ _ _ _ _ _ J1 link_no h fun p zs es F2 H2 J2 k2 fp np hp rz ne h2 => ?_
    obtain ⟨f2, J3, k3⟩ := back F2 H2 J2.b
    have pq : p ≠ q := fun z => by rw [z, f2] at fp; cases fp
    have n0 : Nw H0 p := fun o e => by
      by_cases m : ∃ ps, o = .tbl ps
      · exact m
      · exact np o (J.b.fr p o (J2.b.noutL hp) (fun ps z => m ⟨ps, z⟩) e)
    refine fin p zs es _ H2 J3 k3 (by rw [without_ne pq]; exact fp) n0 hp (rz.without f2 h2.1) (fun j xs e1 e2 => ?_) h2.2
    obtain ⟨ov, e3, p', us, e4, _, _, hq', _⟩ := J.get e1
    rw [e2] at e3
    cases e3
    cases e4
    obtain ⟨ps, z⟩ := np _ hq'
    cases z
  · exact h.elim
theorem pun_lend (i : Nat) {e : Expr} {pn : PTN} (h : PuN X c W e pn) : PuN X c W e (pLendN i pn) := let ⟨t, ht, r⟩ := h; ⟨t, ht, rdN_lend i r⟩

/-! ### list(range(..)) -/
def RdRg (c : Cc) (W : WX) (t : St → Hp → (Int → Int → Hp → Prop) → Prop) (pt : Ev → (Int → Int → Prop) → XP → Prop) : Prop := ∀ (H0 F0 : Hp) (env : Ev) (F : Hp) (σ : St) (H : Hp) (R : Int → Int → Prop) (E : XP) (Q : Int → Int → Hp → Prop), Rel c H0 F0 env F σ H → LinkX c H0 F0 W E → pt env R E →
  (∀ a b F' H', Rel c H0 F0 env F' σ H' → Same F F' → R a b → Q a b H') → t σ H Q
def PuRg (X : Cx) (c : Cc) (W : WX) (e : Expr) (pt : Ev → (Int → Int → Prop) → XP → Prop) : Prop := ∃ t, PRg X e t ∧ RdRg c W t pt
def pRg1 (pa : PTE) : Ev → (Int → Int → Prop) → XP → Prop := fun env R E => pa env (fun s => match s with | .d (.int n) => R 0 n | _ => False) E
def pRg2 (pa pb : PTE) : Ev → (Int → Int → Prop) → XP → Prop := fun env R E => pa env (fun s => pb env (fun u => match s, u with | .d (.int a), .d (.int b) => R a b | _, _ => False) E) E
theorem purg_1 {a : Expr} {p pos : Pos} {pa : PTE} (hm : X.mg "range" = none) (ha : PuE X c W a pa) (hg : Gl X "range" := by rfl) (na : starEach [a] X.env = (false, eval a X.env) :: starEach [] X.env := by rfl) : PuRg X c W (.Call (.Name "range" p) [a] [] pos) (pRg1 pa) := by
  obtain ⟨ta, ha, ra⟩ := ha
  refine ⟨_, prg_1 hg hm ha na, fun H0 F0 env F σ H R E Q J L h fin => ra _ _ _ _ _ _ _ _ _ J L h fun v s F1 H1 J1 k1 r1 h1 => ?_⟩
  split at h1
  · cases r1
    exact ⟨_, rfl, fin _ _ F1 H1 J1 k1 h1⟩
  · exact h1.elim
theorem purg_2 {a b : Expr} {p pos : Pos} {pa pb : PTE} (hm : X.mg "range" = none) (ha : PuE X c W a pa) (hb : PuE X c W b pb) (hg : Gl X "range" := by rfl) (na : starEach [a, b] X.env = (false, eval a X.env) :: starEach [b] X.env := by rfl)
    (nb : starEach [b] X.env = (false, eval b X.env) :: starEach [] X.env := by rfl) (hp : (backTo pos (starEach [b] X.env)).any (·.1) = false := by rfl) : PuRg X c W (.Call (.Name "range" p) [a, b] [] pos) (pRg2 pa pb) := by
  obtain ⟨ta, ha, ra⟩ := ha
  obtain ⟨tb, hb, rb⟩ := hb
  refine ⟨_, prg_2 hg hm ha hb na nb hp, fun H0 F0 env F σ H R E Q J L h fin => ra _ _ _ _ _ _ _ _ _ J L h fun v s F1 H1 J1 k1 r1 h1 => ?_⟩
  refine rb _ _ _ _ _ _ _ _ _ J1 L h1 fun w u F2 H2 J2 k2 r2 h2 => ?_
  split at h2
  · cases r1
    cases r2
    exact ⟨_, _, rfl, rfl, fin _ _ F2 H2 J2 (same_trans k1 k2) h2⟩
  · exact h2.elim
def rgD (a b : Int) : List PyData := rangeD a (b - a).toNat
theorem rel_rg {F : Hp} (a b : Int) : RqAll F (rgV a b) (rgD a b) := by
  unfold rgV rgD rangeD
  generalize List.range (b - a).toNat = l
  induction l with
  | nil => exact .nil
  | cons x l ih => exact .cons (.int _) ih
def pLr (pt : Ev → (Int → Int → Prop) → XP → Prop) : PTE := fun env R E => pt env (fun a b => (-1000 ≤ a ∧ a ≤ 1000 ∧ -1000 ≤ b ∧ b ≤ 1000) ∧ R (.d (.list (rgD a b)))) E
theorem pu_listRg {e : Expr} {p pos : Pos} {pt : Ev → (Int → Int → Prop) → XP → Prop} (hc : X.calm = true) (hm : X.mg "list" = none) (he : PuRg X c W e pt) (hg : Gl X "list" := by rfl) (na : starEach [e] X.env = (false, eval e X.env) :: starEach [] X.env := by rfl) : PuE X c W (.Call (.Name "list" p) [e] [] pos) (pLr pt) := by
  obtain ⟨t, ht, rt⟩ := he
  refine ⟨_, pe_listRg hc hg hm ht na, fun H0 F0 env F σ H R E Q J L h fin => rt _ _ _ _ _ _ _ _ _ J L h fun a b F1 H1 J1 k1 h1 => ?_⟩
  obtain ⟨⟨b1, b2, b3, b4⟩, h1⟩ := h1
  refine ⟨⟨by omega, by omega, by omega, by omega, by omega⟩, fun q hq => ?_⟩
  have k2 : Same F1 (upd F1 q (.lst (rgV a b))) := same_upd (J1.b.fnone hq)
  exact fin (.ref q) (.d _) _ _ (J1.alloc hq _) (same_trans k1 k2) (Rq.lst upd_same (rel_rg a b)) h1
end

/-! ### zip(t, l) -/
def ItzTL (K : PySem.W.Frag) (a b : Addr) : It :=
  ⟨fun i H => ∃ (us vs : List V) (u v : V), SqT K H a us ∧ SqL K H b vs ∧ us[i]? = some u ∧ vs[i]? = some v,
    fun i H r H' => ∃ T u v, r = .ref T ∧ H T = none ∧ H' = upd H T (.tup [u, v]) ∧ (∀ us, SqT K H a us → us[i]? = some u) ∧ ∀ vs, SqL K H b vs → vs[i]? = some v,
    fun i H => ∃ us vs : List V, SqT K H a us ∧ SqL K H b vs ∧ (us.length ≤ i ∨ vs.length ≤ i)⟩
theorem turn_zipTL {P : Program} {w : World} {K : PySem.W.Frag} {elts : List Expr} {kk : Nat} {tpos : Pos} {a b : Addr} {n : Nat} (ha : a < n) (hb : b < n) :
    Turn P w K (.Tuple elts kk tpos) (ItzTL K a b) (zFive n) (n + 4) (fun i h => IsZip h (n + 4) (n + 2) (n + 3) .none ∧ IsPair h (n + 2) (.ref n) (.ref (n + 1)) ∧ (∃ x y, IsPair h (n + 3) x y) ∧ h.IsTupleIter n a i ∧ h.IsListIter (n + 1) b i) where
  mem := List.mem_cons_self
  obj := fun i h st d hd => by
    obtain ⟨q1, q2, ⟨x, y, q3⟩, ⟨o1, e1, _, f1⟩, ⟨o2, e2, _, f2⟩⟩ := st
    simp only [List.mem_cons, List.not_mem_nil, or_false] at hd
    rcases hd with rfl | rfl | rfl | rfl | rfl
    · exact ⟨_, q1, fun v z => nomatch z⟩
    · exact ⟨_, q2, fun v z => nomatch z⟩
    · exact ⟨_, q3, fun v z => nomatch z⟩
    · exact ⟨o1, e1, fun v z => by rw [f1] at z; cases z⟩
    · exact ⟨o2, e2, fun v z => by rw [f2] at z; cases z⟩
  keep := fun i h g st k => by
    obtain ⟨q1, q2, ⟨x, y, q3⟩, q4, q5⟩ := st
    exact ⟨k _ (by simp) _ q1, k _ (by simp) _ q2, ⟨x, y, k _ (by simp) _ q3⟩, q4.at fun o e => k _ (by simp) o e, q5.at fun o e => k _ (by simp) o e⟩
  item := by
    intro X hP hw hK hc i pins s σ H E I hf st hg
    subst hP hw hK
    obtain ⟨q1, q2, ⟨x0, y0, q3⟩, q4, q5⟩ := st
    obtain ⟨us, vs, u, v, su, sv, eu, ev⟩ := hg
    obtain ⟨its, ru, pu, _⟩ := I.tuple su
    obtain ⟨jts, rv, pv, _⟩ := I.list sv
    obtain ⟨cu, hcu, rcu⟩ := ru.get eu
    obtain ⟨cv, hcv, rcv⟩ := rv.get ev
    have D := PySem.W.ktu_apart n a b ha hb
    have small : ∀ d ∈ zFive n, d < s.heap.objs.size := fun d hd => by
      simp only [List.mem_cons, List.not_mem_nil, or_false] at hd
      rcases hd with rfl | rfl | rfl | rfl | rfl
      · exact Heap.lt_size q1
      · exact Heap.lt_size q2
      · exact Heap.lt_size q3
      · obtain ⟨_, e, _⟩ := q4; exact Heap.lt_size e
      · obtain ⟨_, e, _⟩ := q5; exact Heap.lt_size e
    refine zu_next D q1 q2 q3 (src_tuple its.toArray D.l1i1) (src_list jts.toArray D.l2i2) ⟨q4, pu⟩ ⟨q5, pv.isList⟩ (x := cu) (y := cv) (by simpa using hcu) (by simpa using hcv) fun g gz gu g1 g2 gp gs gk => ?_
    refine ⟨_, rfl, wpAny_letOwnedTupleGo_zip (s := { s with heap := g }) gz fun g' gz' sb => ?_⟩
    have big : ∀ d ∈ zFive n, s.heap.objs.size ≠ d := fun d hd => Nat.ne_of_gt (small d hd)
    have gp' : g'.get? s.heap.objs.size = some { cls := .type "tuple", data := .seq #[cu, cv] } := (sb.2 _ (big _ (by simp))).trans gp
    have new : ObjOk X.prog X.w (upd H s.heap.objs.size (.tup [u, v])) g' s.heap.objs.size (.tup [u, v]) := ⟨by show 2 ≤ sizeLine; decide, [cu, cv], .cons rcu (.cons rcv .nil), ⟨_, gp', rfl, _, rfl⟩⟩
    have J := I.turnedNew (t' := s.toks) (ch := zFive n) (fun d o hd q => (sb.2 d fun z => hd (by simp [z])).trans (gk d o (fun z => hd (by simp [z])) (fun z => hd (by simp [z])) (fun z => hd (by simp [z])) (fun z => hd (by simp [z])) q)) hf (Nat.le_refl _) new
    refine ⟨.ref s.heap.objs.size, _, J, rfl, ⟨_, u, v, rfl, I.hok.fresh (Nat.le_refl _), rfl, fun l hl => by rw [I.tuple_inj hl su]; exact eu, fun l hl => by rw [I.list_inj hl sv]; exact ev⟩, ⟨gz', ?_, ⟨cu, cv, ?_⟩, ?_, ?_⟩, fun d hd => ?_⟩
    · exact (sb.2 _ D.TIz).trans (gk _ _ D.TIz D.TITO D.TIi1 D.TIi2 q2)
    · exact (sb.2 _ D.TOz).trans gu
    · exact g1.1.at fun o q => (sb.2 _ D.i1z).trans q
    · exact g2.1.at fun o q => (sb.2 _ D.i2z).trans q
    · rw [upd_ne fun z => big d hd z.symm]
      exact (hf d hd).1
  done := by
    intro X hP hw hK hc i pins s σ H E I hf st hg
    subst hP hw hK
    obtain ⟨q1, q2, ⟨x0, y0, q3⟩, q4, q5⟩ := st
    obtain ⟨us, vs, su, sv, hend⟩ := hg
    obtain ⟨its, ru, pu, _⟩ := I.tuple su
    obtain ⟨jts, rv, pv, _⟩ := I.list sv
    have l1 := ru.length
    have l2 := rv.length
    have D := PySem.W.ktu_apart n a b ha hb
    have he : its.toArray[i]? = none ∨ jts.toArray[i]? = none := hend.imp (fun q => by simp; omega) fun q => by simp; omega
    exact zu_stop (I.ok.hd hc) D q1 q2 q3 (src_tuple its.toArray D.l1i1) (src_list jts.toArray D.l2i2) ⟨q4, pu⟩ ⟨q5, pv.isList⟩ he fun g gk => ⟨rfl, I.turnedL (t' := s.toks) (ch := zFive n) (fun d o hd q => gk d o (fun z => hd (by simp [z])) (fun z => hd (by simp [z])) (fun z => hd (by simp [z])) (fun z => hd (by simp [z])) q) hf⟩
  self := fun A i s Q E st h => wpAny_pyIter_zip st.1 h
abbrev zr1 (h : Heap) (a : Addr) : Heap := h.push { cls := .type "tuple_iterator", data := .fields #[.ref a, .int 0 0] }
abbrev zr2 (h : Heap) (a b : Addr) : Heap := (zr1 h a).push { cls := .type "list_iterator", data := .fields #[.ref b, .int 0 0] }
abbrev zr3 (h : Heap) (a b : Addr) : Heap := (zr2 h a b).push { cls := .type "tuple", data := .seq #[.ref h.objs.size, .ref (zr1 h a).objs.size] }
abbrev zr4 (h : Heap) (a b : Addr) : Heap := (zr3 h a b).push { cls := .type "tuple", data := .seq #[.none, .none] }
abbrev zr5 (h : Heap) (a b : Addr) : Heap := (zr4 h a b).push { cls := .type "zip", data := .fields #[.none, .bool false, .bool false, .ref (zr2 h a b).objs.size, .ref (zr3 h a b).objs.size] }
theorem zr_meets (a b : Addr) (us vs : Array Value) : Meets (Builtin.«zip.__new__» ⟨[.type "zip", .ref a, .ref b], []⟩) (fun _ R s => s.heap.IsTuple a us ∧ s.heap.IsList b vs ∧ R (.ok (.ret (.ref (zr4 s.heap a b).objs.size))) { s with heap := zr5 s.heap a b }) :=
  .of_wp fun prog w A R s h => by
    obtain ⟨hp, g, d, tk, os⟩ := s
    obtain ⟨pa, pb, h⟩ := h
    have hsub := sub_zip
    have la : Heap.IsTuple (Shared.heap ⟨hp, g, d, tk, os⟩) a us := pa
    have tb : Heap.IsList (Shared.heap ⟨hp.push { cls := .type "tuple_iterator", data := .fields #[.ref a, .int 0 0] }, g, d, tk, os⟩) b vs := Heap.IsList.push pb _
    wp_walk using wpAny_pyIter_tuple la, wpAny_pyIter_list tb
    exact ⟨_, rfl, h⟩
theorem zr_call {prog : Program} {w : World} {A : Around} {E : Value → Shared → Prop} {s : Shared} {a b : Addr} {us vs : Array Value} {Q : Value → Shared → Prop} (pa : s.heap.IsTuple a us) (pb : s.heap.IsList b vs) {n : Nat} (hn : s.heap.objs.size = n)
    (fin : ∀ g, IsZip g (n + 4) (n + 2) (n + 3) .none → IsPair g (n + 2) (.ref n) (.ref (n + 1)) → IsPair g (n + 3) .none .none → g.IsTupleIter n a 0 → g.IsListIter (n + 1) b 0 → (∀ d o, s.heap.get? d = some o → g.get? d = some o) → Q (.ref (n + 4)) { s with heap := g }) :
    wpAny (model prog w) A (call (.type "zip") [.ref a, .ref b]) Q E s := by
  have e1 : (zr1 s.heap a).objs.size = n + 1 := by rw [Heap.size_push, hn]
  have e2 : (zr2 s.heap a b).objs.size = n + 2 := by rw [Heap.size_push, e1]
  have e3 : (zr3 s.heap a b).objs.size = n + 3 := by rw [Heap.size_push, e2]
  have e4 : (zr4 s.heap a b).objs.size = n + 4 := by rw [Heap.size_push, e3]
  have up : ∀ (h : Heap) (o : Obj) (d : Addr) (u : Obj), h.get? d = some u → (h.push o).get? d = some u := fun h o d u q => Heap.get?_push_of_some _ q
  have r5 : (zr5 s.heap a b).get? (zr4 s.heap a b).objs.size = some _ := Heap.get?_push_size _ rfl
  have r4 : (zr5 s.heap a b).get? (zr3 s.heap a b).objs.size = some _ := up _ _ _ _ (Heap.get?_push_size _ rfl)
  have r3 : (zr5 s.heap a b).get? (zr2 s.heap a b).objs.size = some _ := up _ _ _ _ (up _ _ _ _ (Heap.get?_push_size _ rfl))
  have r2 : (zr5 s.heap a b).get? (zr1 s.heap a).objs.size = some _ := up _ _ _ _ (up _ _ _ _ (up _ _ _ _ (Heap.get?_push_size _ rfl)))
  have r1 : (zr5 s.heap a b).get? s.heap.objs.size = some _ := up _ _ _ _ (up _ _ _ _ (up _ _ _ _ (up _ _ _ _ (Heap.get?_push_size _ rfl))))
  rw [e4, e3, e2] at r5
  rw [e3] at r4
  rw [e2, e1, hn] at r3
  rw [e1] at r2
  rw [hn] at r1
  refine callType_new F.called_zip (by decide) (F.typeCall_zip_2 _ _) (F.newCall_zip_2 _ _) (fun obj => F.args_object_init_3 obj _ _) F.entry_zip_new (zr_meets a b us vs) ⟨pa, pb, ?_⟩
  show _ ∧ _
  rw [e4]
  exact ⟨⟨_, r5, rfl⟩, fin _ r5 r3 r4 ⟨_, r1, rfl, rfl⟩ ⟨_, r2, rfl, rfl⟩ fun d o q => up _ _ _ _ (up _ _ _ _ (up _ _ _ _ (up _ _ _ _ (up _ _ _ _ q))))⟩
section
variable {X : Cx} {c : Cc} {W : WX} {e e2 : Expr} {p pos tpos : Pos} {elts : List Expr} {kk : Nat}
def iZr (K : PySem.W.Frag) (ta : TA) : TI := fun σ H R => ta σ H fun ws H1 => ∃ a b us vs, ws = [.ref a, .ref b] ∧ SqT K H1 a us ∧ SqL K H1 b vs ∧ R (ItzTL K a b) H1
theorem pi_zr {ta : TA} (hg : Gl X "zip") (hm : X.mg "zip" = none) (ha : PA X [e, e2] ta)
    (hs : starEach [e, e2] X.env = (false, eval e X.env) :: starEach [e2] X.env := by rfl) (hpl : (backTo pos (starEach [e2] X.env)).any (·.1) = false := by rfl) : PI X (.Tuple elts kk tpos) (.Call (.Name "zip" p) [e, e2] [] pos) (iZr X.K ta) := by
  refine ⟨fun pins s σ H R I h => ?_⟩
  refine Call_ (ld_blt I hg hm PyProof.Rows.boot_zip (PyProof.Rows.callWith_type1 (thn (ha.run pos pins s σ H _ I h) fun cs s1 ⟨ws, H1, I1, r1, q1⟩ => ?_) hs hpl))
  obtain ⟨a, b, us, vs, ew, sa, sb, q⟩ := q1
  subst ew
  obtain ⟨u1, u2, rfl, ra, rb⟩ := vals2 r1
  cases ra
  cases rb
  have fresh : ∀ d ∈ zFive s1.heap.objs.size, FpOk X pins H1 d := fun d hd => by
    have hle : s1.heap.objs.size ≤ d := by
      simp only [List.mem_cons, List.not_mem_nil, or_false] at hd
      rcases hd with rfl | rfl | rfl | rfl | rfl
      · exact Nat.le_add_right _ 4
      · exact Nat.le_add_right _ 2
      · exact Nat.le_add_right _ 3
      · exact Nat.le_refl _
      · exact Nat.le_add_right _ 1
    exact I1.fpOk hle (I1.hok.fresh hle)
  obtain ⟨its, _, pa, _⟩ := I1.tuple sa
  obtain ⟨jts, _, pb, _⟩ := I1.list sb
  refine zr_call (show s1.heap.IsTuple a its.toArray from pa) pb.isList rfl fun g gz gi gu g1 g2 gk => wpAny_pyIter_zip gz ?_
  exact ⟨s1.heap.objs.size + 4, zFive s1.heap.objs.size, _, _, H1, rfl, I1.kept (t' := s1.toks) gk, turn_zipTL pa.lt pb.lt, ⟨gz, gi, ⟨_, _, gu⟩, g1, g2⟩, fresh, q⟩
theorem walk_ztl {K : PySem.W.Frag} {F : Hp} {a b : Addr} {xs ys : List V} {ds es : List PyData} (ea : F a = some (.tup xs)) (ra : RqAll F xs ds) (eb : F b = some (.lst ys)) (rb : RqAll F ys es) : Walk c (ItzTL K a b) F (zipD ds es) where
  stop := fun H0 F0 env F' σ H J k => ⟨xs, ys, sqT (J.b.sub _ _ (k _ _ ea)), sqL (J.b.sub _ _ (k _ _ eb)), by rw [ra.len, rb.len]; exact zipD_end⟩
  go := fun H0 F0 env F' σ H i d J k h => by
    obtain ⟨x, y, h1, h2, rfl⟩ := zipD_at h
    obtain ⟨v, e1, rv⟩ := ra.get h1
    obtain ⟨w, e2, rw⟩ := rb.get h2
    have qa : SqT K H a xs := sqT (J.b.sub _ _ (k _ _ ea))
    have qb : SqL K H b ys := sqL (J.b.sub _ _ (k _ _ eb))
    refine ⟨⟨xs, ys, v, w, qa, qb, e1, e2⟩, fun z H3 hy => ?_⟩
    obtain ⟨T, v', w', rfl, hT, rfl, f1, f2⟩ := hy
    have g1 := f1 xs qa
    have g2 := f2 ys qb
    rw [e1] at g1
    rw [e2] at g2
    cases g1
    cases g2
    have k2 : Same F' (upd F' T (.tup [v, w])) := same_upd (J.b.fnone hT)
    exact ⟨_, J.alloc hT _, k2, Rq.tup upd_same (.cons ((rv.same k).same k2) (.cons ((rw.same k).same k2) .nil))⟩
def iZipTL (a : PTA) : PTI := fun env R E => a env (fun ss => match ss with
  | [.d (.tuple ds), .d (.list es)] => R (zipD ds es)
  | _ => False) E
theorem pui_zipTL {pa : PTA} (hm : X.mg "zip" = none) (ha : PuA X c W [e, e2] pa) (hg : Gl X "zip" := by rfl)
    (hs : starEach [e, e2] X.env = (false, eval e X.env) :: starEach [e2] X.env := by rfl) (hpl : (backTo pos (starEach [e2] X.env)).any (·.1) = false := by rfl) :
    PuI X c W (.Tuple elts kk tpos) (.Call (.Name "zip" p) [e, e2] [] pos) (iZipTL pa) := by
  obtain ⟨ta, ha, ra⟩ := ha
  refine ⟨_, pi_zr hg hm ha hs hpl, fun H0 F0 env F σ H R E Q J L hp fin => ra _ _ _ _ _ _ _ _ _ J L hp fun vs ss F1 H1 J1 k1 r1 h1 => ?_⟩
  split at h1
  · obtain ⟨v, w, rfl, rv, rw⟩ := rs2 r1
    cases rv with
    | tup ea ra =>
      cases rw with
      | lst eb rb => exact ⟨_, _, _, _, rfl, sqT (J1.b.sub _ _ ea), sqL (J1.b.sub _ _ eb), fin _ F1 H1 _ J1 k1 (walk_ztl ea ra eb rb) h1⟩
  · exact h1.elim
end
end Px
namespace Px
open PySem PySem.Spec PyProof.Rows L2 Lx
/-- a comprehension within a comprehension -/
theorem relabel_lk {env : Env} : ∀ {names : List (Str × NameKind)} {x : Str}, names.lookup x = some .cell ∨ names.lookup x = some .free →
    (names.map fun (n, k) => if (k == NameKind.free && env.scope.kind == .function && env.kindOf n == some .cell) then (n, NameKind.cell) else (n, k)).lookup x = some .cell ∨ (names.map fun (n, k) => if (k == NameKind.free && env.scope.kind == .function && env.kindOf n == some .cell) then (n, NameKind.cell) else (n, k)).lookup x = some .free
  | [], _, h => by simp at h
  | (n, k) :: r, x, h => by
    have ih := @relabel_lk env r x
    show List.lookup x ((if (k == NameKind.free && env.scope.kind == .function && env.kindOf n == some .cell) = true then (n, NameKind.cell) else (n, k)) :: _) = _ ∨ List.lookup x ((if (k == NameKind.free && env.scope.kind == .function && env.kindOf n == some .cell) = true then (n, NameKind.cell) else (n, k)) :: _) = _
    rw [List.lookup_cons] at h
    cases e : x == n with
    | true =>
      rw [e] at h
      split
      · rw [List.lookup_cons, e]; exact .inl rfl
      · rw [List.lookup_cons, e]; exact h
    | false =>
      rw [e] at h
      split <;> (rw [List.lookup_cons, e]; exact ih h)
theorem blkOk_in {X : Cx} {scope0 scope : Scope} {i : CI} {own : List (Str × Nat)} {N : List Str} (h : blkC N scope0 scope own = true) : BlkOk N (i.blk X scope0).env.scope scope own := by
  have B := blkOk_by h
  exact ⟨B.kind, B.uniq, B.ix, fun y hy e => relabel_lk (B.free y hy e), B.own⟩
/-! ### x = [..] on one line -/
section
variable {X : Cx} {c : Cc} {W : WX}
theorem pus_setLc {i : Nat} {y : Str} {py : Pos} {elt tg iter : Expr} {scope : Scope} {own : List (Str × Nat)} {pos spos : Pos} {pi : PTI} {pg : PTG} {is : List Nat} {pe : PTE} (hc : X.calm = true) (hN : X.N.Nodup) (hi : PuI X c W tg iter pi) (ok : BlkOk X.N X.env.scope scope own) (hg : ∀ i : CI, PuG (i.blk X scope) c tg pg is)
    (he : ∀ i : CI, PuE (i.blk X scope) c WNo elt pe) (hy : X.N[i]? = some y := by rfl) (hyl : X.env.scope.names.lookup y = some .local := by rfl) (hk : X.env.scope.kind = .function := by rfl) (hl : (py.line == pos.line) = true := by rfl)
    (hz : (scope.names.any fun (n, k) => n == y && (k == .local || k == .cell)) = false := by rfl) (hsub : ∀ i ∈ is, i ∈ own.map (·.2) := by decide) (hs : ∀ x, foldedSetIterable iter X.env x = pure x := by intro _; rfl) : PuS X c W (.Assign [.Name y py] (.ListComp elt [⟨tg, iter, [], 0⟩] scope pos) spos) (psSet i (pLc pi pg pYes pe (own.map (·.2)))) := by
  obtain ⟨wi, hi, ri⟩ := hi
  obtain ⟨g, hg, rg⟩ := unifG hg
  obtain ⟨te, he, re⟩ := unifE he
  have rd := rd_lc (W := W) ri rg hsub (fun H0 F0 env F σ H R E Q J L hp fin => fin true F H J (same_refl F) hp) re
  refine ⟨_, ps_setLc hc hN hy hyl (sw_true hk hyl hl hz) hi ok (fun s H C cl fp => hg ⟨s, H, C, cl, fp⟩) (fun _ _ _ _ _ => pts_nil) (fun s H C cl fp => he ⟨s, H, C, cl, fp⟩) hs, fun H0 F0 env F σ H D P J L h => ?_⟩
  exact rd _ _ _ _ _ _ _ _ _ J L.ex h fun v s F1 H1 J1 k1 r1 h1 => L.nx _ F1 _ H1 (J1.set i r1) k1 h1
/-- the list one's own; j is lent to the comprehension -/
theorem pus_ownLc {i : Nat} (j : Nat) {y : Str} {py : Pos} {elt tg iter : Expr} {scope : Scope} {own : List (Str × Nat)} {pos spos : Pos} {pi : PTI} {pg : PTG} {is : List Nat} {pe : PTE} (hc : X.calm = true) (hN : X.N.Nodup) (hi : PuI X c W tg iter pi) (ok : BlkOk X.N X.env.scope scope own) (hg : ∀ i : CI, PuG (i.blk X scope) c tg pg is)
    (he : ∀ i : CI, PuE (i.blk X scope) c WNo elt pe) (hy : X.N[i]? = some y := by rfl) (hyl : X.env.scope.names.lookup y = some .local := by rfl) (hk : X.env.scope.kind = .function := by rfl) (hl : (py.line == pos.line) = true := by rfl)
    (hz : (scope.names.any fun (n, k) => n == y && (k == .local || k == .cell)) = false := by rfl) (hsub : ∀ i ∈ is, i ∈ own.map (·.2) := by decide) (hs : ∀ x, foldedSetIterable iter X.env x = pure x := by intro _; rfl) : PuS X c W (.Assign [.Name y py] (.ListComp elt [⟨tg, iter, [], 0⟩] scope pos) spos) (psOwnN i (pLendN j (pLcN pi pg pYes pe (own.map (·.2))))) := by
  obtain ⟨wi, hi, ri⟩ := hi
  obtain ⟨g, hg, rg⟩ := unifG hg
  obtain ⟨te, he, re⟩ := unifE he
  have rd := rdN_lend j (rd_lcN (W := W) ri rg hsub (fun H0 F0 env F σ H R E Q J L hp fin => fin true F H J (same_refl F) hp) re)
  refine ⟨_, ps_setLc hc hN hy hyl (sw_true hk hyl hl hz) hi ok (fun s H C cl fp => hg ⟨s, H, C, cl, fp⟩) (fun _ _ _ _ _ => pts_nil) (fun s H C cl fp => he ⟨s, H, C, cl, fp⟩) hs, fun H0 F0 env F σ H D P J L h => ?_⟩
  refine rd _ _ _ _ _ _ _ _ _ J L.ex h fun q ys ds F1 H1 J1 k1 f1 n1 h1 r1 ne hp => ?_
  exact L.nx _ F1 _ _ (J1.own i f1 n1 h1 r1 fun j xs _ e1 e2 => ne j xs e1 e2) k1 hp
end
/-! a method's contract -/
section
variable {P : Program} {w : World} {K : PySem.W.Frag} {mg : Str → Option Value} {base : Heap} {y qual : Str} {st : Stmt} {N ps : List Str} {k : Nat} {sp : PSp} {c : Cc} {f : Addr} {fd : FuncData}
theorem keepM (Fu : Fun K y qual st f fd) (S : FnScope N ps (defScope st))
    (hbody : ∀ (f : Addr) (cdv : Value) (A : Around) (outer : List Env) (s : Shared) (H : Hp) (E : XK), Room k (A.deeper (envOfC qual (defScope st) s.heap.objs.size f cdv)) →
      ∃ pt, PuSs (cxOf (L2.CX P w) P w K mg base N qual (defScope st) f cdv A outer s H E) c (WF E) (defBody st) pt ∧ ∀ ss R EX, ss.length = ps.length → sp ss R EX → pt (pdOf R EX) (startP N ss)) :
    FnOk P w K mg base (L2.CX P w) (k + 1) f fd ps (lift c ps.length sp) := by
  refine Fu.okX S (fun vs H Q E h => ?_) (fun cdv A outer s H vs Q E hr h => ?_)
  · obtain ⟨F, ss, R, EX, _, rs, hl, _⟩ := h
    rw [rs.len, hl]
  · obtain ⟨G, ss, R, EX, B, rs, hl, hp, hq, he⟩ := h
    obtain ⟨pt, ⟨t, ht, hrd⟩, hpure⟩ := hbody f cdv A outer s H E hr
    refine ⟨t, ht, hrd H G (startP N ss) G (L2.start N vs) H _ (pdOf R EX) (rel_start B rs N) ⟨?_, ?_, ?_, ?_, ?_⟩ (hpure ss R EX hl hp)⟩
    · exact fun env' F' σ' H' J _ q => hq .non (.d .none) F' H' J.b Rq.non q
    · exact fun v s F' H' B' rv q => hq v s F' H' B' rv q
    · exact fun env' F' σ' H' J _ q => q.elim
    · exact fun env' F' σ' H' J _ q => q.elim
    · exact fun env' F' σ' H' C d ds J x q => he C d ds F' H' J.b x q
end
end Px
namespace Px
open PySem PySem.Spec PyProof.Rows L2 Lx
/-! ### steps: comprehensions that map, fields, loops that fold -/
theorem lc_map {g : PTG} {pe : PTE} {envI : Ev} {ds : List PyData} {K : List PyData → Prop} (f : PyData → PyData) (hl : ds.length ≤ 1000000) (hs : ∀ d ∈ ds, ∀ R : Sl → Prop, R (.d (f d)) → g (.d d) envI fun env1 => pe env1 R ENo) (hK : K (ds.map f)) : pLcL g pYes pe envI ds [] K := by
  refine pLcL_ind (fun i acc => acc = (ds.take i).map f) rfl (fun i d acc N hi hacc hN => ?_) fun acc h => ?_
  · subst hacc
    have hlt := (List.getElem?_eq_some_iff.mp hi).1
    have hm : d ∈ ds := List.mem_of_getElem? hi
    have he : ds.take (i + 1) = ds.take i ++ [d] := by rw [List.take_add_one, hi]; rfl
    have key : ∀ (R : Sl → Prop), R (.d (f d)) → g (.d d) envI fun env1 => pYes env1 (fun b => (b = true → pe env1 R ENo) ∧ (b = false → N ((ds.take i).map f))) ENo := by
      intro R hR
      have := hs d hm R hR
      have e : (fun env1 => pYes env1 (fun b => (b = true → pe env1 R ENo) ∧ (b = false → N ((ds.take i).map f))) ENo) = fun env1 => pe env1 R ENo := by
        funext env1
        exact propext ⟨fun h => h.1 rfl, fun h => ⟨fun _ => h, fun z => Bool.noConfusion z⟩⟩
      rw [e]; exact this
    refine key _ ⟨by rw [List.length_map, List.length_take]; omega, hN _ ?_⟩
    rw [he, List.map_append]; rfl
  · subst h
    rw [List.take_length]; exact hK
theorem lc_mapT {g : PTG} {pe : PTE} {envI : Ev} {K : List PyData → Prop} {α : Type} (t f : α → PyData) {xs : List α} (hl : xs.length ≤ 1000000) (hs : ∀ x ∈ xs, ∀ R : Sl → Prop, R (.d (f x)) → g (.d (t x)) envI fun env1 => pe env1 R ENo) (hK : K (xs.map f)) : pLcL g pYes pe envI (xs.map t) [] K := by
  have go : ∀ (xs : List α) (acc : List PyData), acc.length + xs.length ≤ 1000000 → (∀ x ∈ xs, ∀ R : Sl → Prop, R (.d (f x)) → g (.d (t x)) envI fun env1 => pe env1 R ENo) → K (acc ++ xs.map f) → pLcL g pYes pe envI (xs.map t) acc K := by
    intro xs
    induction xs with
    | nil => intro acc _ _ hK; simpa [pLcL] using hK
    | cons x xs ih =>
      intro acc hl hs hK
      have hl' : acc.length + (xs.length + 1) ≤ 1000000 := hl
      rw [List.map_cons]
      unfold pLcL
      have key : ∀ (R : Sl → Prop) (N : Prop), R (.d (f x)) → g (.d (t x)) envI fun env1 => pYes env1 (fun b => (b = true → pe env1 R ENo) ∧ (b = false → N)) ENo := by
        intro R N hR
        have := hs x List.mem_cons_self R hR
        have e : (fun env1 => pYes env1 (fun b => (b = true → pe env1 R ENo) ∧ (b = false → N)) ENo) = fun env1 => pe env1 R ENo := by
          funext env1
          exact propext ⟨fun h => h.1 rfl, fun h => ⟨fun _ => h, fun z => Bool.noConfusion z⟩⟩
        rw [e]; exact this
      refine key _ _ ⟨by omega, ih (acc ++ [f x]) (by rw [List.length_append]; simp only [List.length_cons, List.length_nil]; omega) (fun y hy => hs y (List.mem_cons_of_mem _ hy)) ?_⟩
      rw [List.append_assoc]; exact hK
  exact go xs [] (by simpa using hl) hs (by simpa using hK)
/-- each item one of many -/
theorem lc_rel {g : PTG} {pe : PTE} {envI : Ev} {ds : List PyData} {K : List PyData → Prop} {α : Type} (t : α → PyData) (P : Nat → α → Prop) (hl : ds.length ≤ 1000000) (hs : ∀ (i : Nat) (d : PyData), ds[i]? = some d → ∀ R : Sl → Prop, (∀ x, P i x → R (.d (t x))) → g (.d d) envI fun env1 => pe env1 R ENo)
    (hK : ∀ xs : List α, xs.length = ds.length → (∀ i x, xs[i]? = some x → P i x) → K (xs.map t)) : pLcL g pYes pe envI ds [] K := by
  refine pLcL_ind (fun i acc => ∃ xs : List α, acc = xs.map t ∧ xs.length = i ∧ ∀ j x, xs[j]? = some x → P j x) ⟨[], rfl, rfl, fun j x h => by simp at h⟩ (fun i d acc N hi hacc hN => ?_) fun acc h => ?_
  · obtain ⟨xs, rfl, hx, hp⟩ := hacc
    have hlt := (List.getElem?_eq_some_iff.mp hi).1
    have key : ∀ (R : Sl → Prop), (∀ x, P i x → R (.d (t x))) → g (.d d) envI fun env1 => pYes env1 (fun b => (b = true → pe env1 R ENo) ∧ (b = false → N (xs.map t))) ENo := by
      intro R hR
      have := hs i d hi R hR
      have e : (fun env1 => pYes env1 (fun b => (b = true → pe env1 R ENo) ∧ (b = false → N (xs.map t))) ENo) = fun env1 => pe env1 R ENo := by
        funext env1
        exact propext ⟨fun h => h.1 rfl, fun h => ⟨fun _ => h, fun z => Bool.noConfusion z⟩⟩
      rw [e]; exact this
    refine key _ fun x hx' => ⟨by rw [List.length_map]; omega, hN _ ⟨xs ++ [x], by rw [List.map_append]; rfl, by rw [List.length_append, hx]; rfl, fun j y hj => ?_⟩⟩
    rcases Nat.lt_or_ge j xs.length with h1 | h1
    · rw [List.getElem?_append_left h1] at hj; exact hp j y hj
    · rw [List.getElem?_append_right h1] at hj
      have : j - xs.length = 0 := by
        rcases Nat.eq_zero_or_pos (j - xs.length) with z | z
        · exact z
        · rw [List.getElem?_eq_none (by simp; omega)] at hj; cases hj
      rw [this] at hj
      cases hj
      rw [show j = i by omega]; exact hx'
  · obtain ⟨xs, rfl, hx, hp⟩ := h
    exact hK xs hx hp
theorem fld_i {C : Addr} {i : Nat} {fns : List Str} {f : Str} {pa : PTE} {P : PD} {env : Ev} {x : Addr} {ds : FD} (d : PyData) (hn : nth env i = some (.slf x C ds)) (h1 : ∀ R : Sl → Prop, R (.d d) → pa env R P.ex) (hf : f ∉ ds.map (·.1)) (hm : f ∈ fns) (hl : ds.length < 1000) (hS : noS (env.set i none) = true)
    (h2 : P.nx (env.set i (some (.slf x C (ds ++ [(f, d)]))))) : ofC C i (psFld i fns f pa) P env := by
  refine ⟨⟨x, ds, hn⟩, h1 _ ?_⟩
  show match nth env i with | some (.slf y C ds) => _ | _ => False
  rw [hn]
  exact ⟨hf, hm, hl, hS, h2⟩
theorem seq_i {a b : PTS} {P : PD} {env : Ev} (h : a { P with nx := b P } env) : psSeq a b P env := h
/-- a loop that steps from st a to st (f a d) -/
theorem for_fold {g : PTG} {B : PTS} {P : PD} {α : Type} (E : Nat → α → Ev → Prop) (f : α → PyData → α) {ds : List PyData} {a0 : α} {env : Ev} (h0 : E 0 a0 env)
    (hs : ∀ (i : Nat) (d : PyData) (env : Ev) (N : Ev → Prop), ds[i]? = some d → E i ((ds.take i).foldl f a0) env → (∀ env', E (i + 1) (f ((ds.take i).foldl f a0) d) env' → N env') → g (.d d) env fun env' => B { P with nx := N, ct := N, bk := P.nx } env')
    (he : ∀ env, E ds.length (ds.foldl f a0) env → P.nx env) : pForL g B ds P env := by
  refine pForL_ind (fun i env => E i ((ds.take i).foldl f a0) env) h0 (fun i d env N hi hE hN => hs i d env N hi hE fun env' h => hN env' ?_) fun env h => ?_
  · have e : ds.take (i + 1) = ds.take i ++ [d] := by rw [List.take_add_one, hi]; rfl
    rw [e, List.foldl_append]
    exact h
  · rw [List.take_length] at h; exact he env h
theorem for_foldT {g : PTG} {B : PTS} {P : PD} {α β : Type} (t : β → PyData) (E : Nat → α → Ev → Prop) (f : α → β → α) {xs : List β} {a0 : α} {env : Ev} (h0 : E 0 a0 env)
    (hs : ∀ (i : Nat) (x : β) (env : Ev) (N : Ev → Prop), xs[i]? = some x → E i ((xs.take i).foldl f a0) env → (∀ env', E (i + 1) (f ((xs.take i).foldl f a0) x) env' → N env') → g (.d (t x)) env fun env' => B { P with nx := N, ct := N, bk := P.nx } env')
    (he : ∀ env, E xs.length (xs.foldl f a0) env → P.nx env) : pForL g B (xs.map t) P env := by
  refine pForL_ind (fun i env => E i ((xs.take i).foldl f a0) env) h0 (fun i d env N hi hE hN => ?_) fun env h => ?_
  · rw [List.getElem?_map] at hi
    cases e : xs[i]? with
    | none => rw [e] at hi; cases hi
    | some x =>
      rw [e] at hi
      cases hi
      refine hs i x env N e hE fun env' h => hN env' ?_
      have e : xs.take (i + 1) = xs.take i ++ [x] := by rw [List.take_add_one, e]; rfl
      rw [e, List.foldl_append]
      exact h
  · rw [List.length_map, List.take_length] at h; exact he env h
theorem for_step {pi : PTI} {g : PTG} {B rest : PTS} {P : PD} {env : Ev} (ds : List PyData) (h1 : ∀ R : List PyData → Prop, R ds → pi env R P.ex) (h2 : pForL g B ds { P with nx := rest P } env) : psSeq (psFor pi g B) rest P env := h1 _ h2
theorem for_last {pi : PTI} {g : PTG} {B : PTS} {P : PD} {env : Ev} (ds : List PyData) (h1 : ∀ R : List PyData → Prop, R ds → pi env R P.ex) (h2 : pForL g B ds P env) : psFor pi g B P env := h1 _ h2
end Px
namespace Px
open PySem PySem.Spec PyProof.Rows L2 Lx
/-! ### sorted(t), t a tuple of ints -/
section
variable {prog : Program} {w : World} {A : Around} {E : Value → Shared → Prop} {s : Shared}
/-- the heap with the list that a tuple was gathered in -/
abbrev gatH (h : Heap) (its : List Value) : Heap := (h.push (seqObj "list" #[] 0)).update h.objs.size (Obj.mapSeq fun z => z ++ its.toArray)
theorem gather_tup {t : Addr} {its : List Value} {Q : List Value → Shared → Prop} (ht : s.heap.IsTuple t its.toArray) (hz : its.length ≤ sizeLine) (hQ : Q its { s with heap := gatH s.heap its }) : wpAny (model prog w) A (collect (.ref t)) Q E s := by
  obtain ⟨ob, e1, e2, k, e3⟩ := id ht
  unfold collect
  refine wpAny_bind (wpAny_runValue (codeAny_builtin entry_proto_collect' ?_))
  show wpAny _ _ (newList [] >>= fun nl => again (.builtin "list.__iadd__" ⟨[nl, .ref t], []⟩)) _ _ s
  refine wpAny_bind (wpAny_newList ?_)
  refine wpAny_pure ⟨Code.quiet_builtin _ (by decide +kernel), codeAny_builtin entry_list_iadd' ?_⟩
  have g0 : (s.heap.push (seqObj "list" #[] 0)).get? s.heap.objs.size = some (seqObj "list" #[] 0) := Heap.get?_push_size _ rfl
  have g1 : (s.heap.push (seqObj "list" #[] 0)).get? t = some ob := Heap.get?_push_of_some _ e1
  show wpAny _ _ (Builtin.List.listExtendWith (Value.ref s.heap.objs.size) (Value.ref t) (Value.ref s.heap.objs.size)) _ _ ({ s with heap := s.heap.push (seqObj "list" #[] 0) } : Shared)
  unfold Builtin.List.listExtendWith
  refine wpAny_bind (wpAny_typeOf (T := "tuple") ⟨ob, g1, e2⟩ ?_)
  have tt : (Value.type "tuple" == Value.type "list" || Value.type "tuple" == Value.type "tuple") = true := by rfl
  rw [if_pos (by simpa using tt)]
  refine wpAny_bind (listItems_at g1 e3 ?_)
  refine wpAny_bind (listItems_at (n := 0) (xs := #[]) g0 rfl ?_)
  rw [if_neg (by simp)]
  refine wpAny_bind (listUpdate_at (n := 0) (xs := #[]) g0 rfl ?_ (Nat.zero_le _) (by
    show ((#[] : Array Value) ++ its.toArray).size ≤ sizeLine + 1
    simp only [Array.size_append, List.size_toArray, List.length_nil]
    omega))
  refine wpAny_pure ?_
  show wpAny (model prog w) A (load s.heap.objs.size >>= fun o => match o.data with | .seq xs _ => pure xs.toList | _ => unsupported "internal:collect") Q E ({ s with heap := gatH s.heap its } : Shared)
  refine wpAny_bind (wpAny_load (get?_update_seq g0 _) ?_)
  show wpAny _ _ (pure ((#[] : Array Value) ++ its.toArray).toList) Q E _
  have el : ((#[] : Array Value) ++ its.toArray).toList = its := by simp
  rw [el]
  exact wpAny_pure hQ
theorem sorted_tup {t : Addr} {vs : List Value} {ns : List Int} {Q : Value → Shared → Prop} (ht : s.heap.IsTuple t vs.toArray) (hI : IntsAre vs ns) (hz : vs.length ≤ sizeLine)
    (h : ∀ (out : List Value) (h' : Heap) (p : Addr) (ep : Nat), SrtO.Srtd SrtO.ltIv out → SrtO.Stb SrtO.ltIv out vs → (∀ b o, s.heap.get? b = some o → h'.get? b = some o) → s.heap.objs.size ≤ p → h'.get? p = some (seqObj "list" out.toArray ep) → Q (.ref p) { s with heap := h' }) :
    wpAny (model prog w) A (call (.builtin "sorted") [.ref t]) Q E s := by
  refine Calls.call_function_entry kind_sorted plain_sorted entry_sorted (args_sorted1 _) ?_
  unfold Builtin.«sorted»
  refine wpAny_bind (m := checkCount "sorted" 1 1 _) (wpAny_pure ?_)
  refine wpAny_bind (gather_tup ht hz ?_)
  refine wpAny_bind (wpAny_newList ?_ hz)
  have z1 : (gatH s.heap vs).objs.size = s.heap.objs.size + 1 := by rw [Heap.size_update, Heap.size_push]
  have z2 : ((gatH s.heap vs).push (seqObj "list" vs.toArray 0)).get? (s.heap.objs.size + 1) = some (seqObj "list" vs.toArray 0) := by
    rw [← z1]; exact Heap.get?_push_size _ rfl
  have old : ∀ b o, s.heap.get? b = some o → ((gatH s.heap vs).push (seqObj "list" vs.toArray 0)).get? b = some o := fun b o q => by
    have lt : b < s.heap.objs.size := Heap.lt_size q
    refine Heap.get?_push_of_some _ ?_
    rw [Heap.get?_update_ne _ _ _ _ (Nat.ne_of_lt lt)]
    exact Heap.get?_push_of_some _ q
  show wpAny _ _ _ _ _ ({ s with heap := (gatH s.heap vs).push (seqObj "list" vs.toArray 0) } : Shared)
  rw [z1]
  refine wpAny_bind (wpAny_holding (wpAny_call_entry slot_list_sort ⟨_, z2, rfl⟩ entry_list_sort (SrtO.list_sort_ord SrtO.swo_int z2 hz (fun h2 => SrtO.ints_sortable hI h2) fun out hs hb => ⟨_, rfl, ?_⟩) (args_list_sort _)))
  obtain ⟨ep, e⟩ := sortedHeap_at (out := out.toArray) z2
  refine wpAny_pure ⟨_, rfl, h out _ _ ep hs hb (fun b o q => ?_) (Nat.le_succ _) e⟩
  have lt : b < s.heap.objs.size := Heap.lt_size q
  rw [sortedHeap_old (Nat.ne_of_lt (Nat.lt_succ_of_lt lt)) (by rw [Heap.size_push, z1]; exact Nat.lt_succ_of_lt (Nat.lt_succ_of_lt lt))]
  exact old b o q
end
def rSort2 (K : PySem.W.Frag) : List V → Hp → VK → Prop := fun vs H Q => ∃ (a : Addr) (ns : List Int), vs = [V.ref a] ∧ (SqL K H a (ns.map V.int) ∨ SqT K H a (ns.map V.int)) ∧
  ∀ (ns' : List Int) (p : Addr), ns'.Perm ns → ns'.Pairwise (· ≤ ·) → H p = none → Q (.ref p) (upd H p (.lst (ns'.map V.int)))
theorem cr_sorted2 {X : Cx} : CallR X (.builtin "sorted") (rSort2 X.K) := by
  intro pins s σ H vs us Q I r h
  obtain ⟨a, ns, rfl, hs | hs, q⟩ := h
  · exact cr_sortedI pins s σ H _ us Q I r ⟨a, ns, rfl, hs, q⟩
  · obtain ⟨its, rv, pt, hz⟩ := I.tuple hs
    rw [Vals.ref1 r]
    have hi := rv.ints
    refine sorted_tup (show s.heap.IsTuple a its.toArray from pt) hi (by rw [← rv.length]; exact hz) fun out h' p ep h1 h2 keep le e => ?_
    obtain ⟨k1, k2, k3⟩ := SrtO.ints_out hi h1 h2
    have hlen : ((out.map SrtO.iv).map V.int).length ≤ sizeLine := by
      rw [List.length_map, k2.length_eq]
      rw [List.length_map] at hz
      exact hz
    exact ⟨.ref p, upd H p (.lst ((out.map SrtO.iv).map V.int)), I.laid (t' := s.toks) keep le ⟨hlen, out, ep, vals_of_ints k1, e⟩, rfl, q _ _ k2 k3 (I.hok.fresh le)⟩
def intsD (ns : List Int) : List PyData := ns.map PyData.int
theorem rel_ints {F : Hp} : ∀ ns : List Int, RqAll F (ns.map V.int) (intsD ns)
  | [] => .nil
  | n :: ns => .cons (.int n) (rel_ints ns)
theorem ints_of {F : Hp} : ∀ {vs : List V} {ns : List Int}, RqAll F vs (intsD ns) → vs = ns.map V.int
  | _, [], h => by cases h; rfl
  | _, n :: ns, h => by
    cases h with
    | cons a b =>
      cases a
      rw [ints_of b]
      rfl
def bSorted : PB := fun ss R => ∃ (x : PyData) (ns : List Int), ss = [.d x] ∧ (x = .list (intsD ns) ∨ x = .tuple (intsD ns)) ∧ ∀ ns' : List Int, ns'.Perm ns → ns'.Pairwise (· ≤ ·) → R (.d (.list (intsD ns')))
theorem rb_sorted {c : Cc} {K : PySem.W.Frag} : RB c (rSort2 K) bSorted := by
  intro H0 F0 env F σ H vs ss R Q J r h fin
  obtain ⟨x, ns, rfl, hx, h⟩ := h
  obtain ⟨v, rfl, rv⟩ := rs1 r
  have go : ∀ (a : Addr), (SqL K H a (ns.map V.int) ∨ SqT K H a (ns.map V.int)) → rSort2 K [V.ref a] H Q := fun a hs => ⟨a, ns, rfl, hs, fun ns' p h1 h2 hp => fin (.ref p) (.d _) _ _ (J.alloc hp _) (same_upd (J.b.fnone hp)) (Rq.lst upd_same (rel_ints ns')) (h ns' h1 h2)⟩
  rcases hx with rfl | rfl
  · cases rv with
    | lst e rr => rw [ints_of rr] at e; exact go _ (.inl (sqL (J.b.sub _ _ e)))
  · cases rv with
    | tup e rr => rw [ints_of rr] at e; exact go _ (.inr (sqT (J.b.sub _ _ e)))
/-! ### a list of one's own by a comprehension, nothing lent -/
section
variable {X : Cx} {c : Cc} {W : WX}
theorem pus_ownLc0 {i : Nat} {y : Str} {py : Pos} {elt tg iter : Expr} {scope : Scope} {own : List (Str × Nat)} {pos spos : Pos} {pi : PTI} {pg : PTG} {is : List Nat} {pe : PTE} (hc : X.calm = true) (hN : X.N.Nodup) (hi : PuI X c W tg iter pi) (ok : BlkOk X.N X.env.scope scope own) (hg : ∀ i : CI, PuG (i.blk X scope) c tg pg is)
    (he : ∀ i : CI, PuE (i.blk X scope) c WNo elt pe) (hy : X.N[i]? = some y := by rfl) (hyl : X.env.scope.names.lookup y = some .local := by rfl) (hk : X.env.scope.kind = .function := by rfl) (hl : (py.line == pos.line) = true := by rfl)
    (hz : (scope.names.any fun (n, k) => n == y && (k == .local || k == .cell)) = false := by rfl) (hsub : ∀ i ∈ is, i ∈ own.map (·.2) := by decide) (hs : ∀ x, foldedSetIterable iter X.env x = pure x := by intro _; rfl) : PuS X c W (.Assign [.Name y py] (.ListComp elt [⟨tg, iter, [], 0⟩] scope pos) spos) (psOwnN i (pLcN pi pg pYes pe (own.map (·.2)))) := by
  obtain ⟨wi, hi, ri⟩ := hi
  obtain ⟨g, hg, rg⟩ := unifG hg
  obtain ⟨te, he, re⟩ := unifE he
  have rd := rd_lcN (W := W) ri rg hsub (fun H0 F0 env F σ H R E Q J L hp fin => fin true F H J (same_refl F) hp) re
  refine ⟨_, ps_setLc hc hN hy hyl (sw_true hk hyl hl hz) hi ok (fun s H C cl fp => hg ⟨s, H, C, cl, fp⟩) (fun _ _ _ _ _ => pts_nil) (fun s H C cl fp => he ⟨s, H, C, cl, fp⟩) hs, fun H0 F0 env F σ H D P J L h => ?_⟩
  refine rd _ _ _ _ _ _ _ _ _ J L.ex h fun q ys ds F1 H1 J1 k1 f1 n1 h1 r1 ne hp => ?_
  exact L.nx _ F1 _ _ (J1.own i f1 n1 h1 r1 fun j xs _ e1 e2 => ne j xs e1 e2) k1 hp
/-! ### a comprehension over a tuple of whatever: the list one's own -/
def pLcLS (g : PTG) (pe : PTE) (envI : Ev) : List Sl → List PyData → (List PyData → Prop) → Prop
  | [], acc, K => K acc
  | d :: l, acc, K => g d envI fun env1 => pe env1 (fun s => match s with
      | .d x => acc.length ≤ 1000000 ∧ pLcLS g pe envI l (acc ++ [x]) K
      | _ => False) ENo
def pLcSN (it : PTIs) (g : PTG) (pe : PTE) (vs : List Nat) : PTN := fun env R E => it env (fun ds => pLcLS g pe (wipeE (noOwn env) vs) ds [] R) E
theorem rd_lcSN {wi : TI} {pi : PTIs} {g : TG} {pg : PTG} {is : List Nat} {tt : TT} {te : TE} {pe : PTE} {vs : List Nat} (ri : RdIs c W wi pi) (rg : RdG c g pg is) (hsub : ∀ i ∈ is, i ∈ vs) (rt : RdT c WNo tt pYes) (re : Rd c WNo te pe) : RdN c W (tLc wi g tt te vs) (pLcSN pi pg pe vs) := by
  intro H0 F0 env F σ H R E Q J L hp fin
  refine ri _ _ _ _ _ _ _ _ _ J L hp fun I F1 H1 ds J1 k1 wk h1 => ?_
  intro D hD
  have hown := own_ne J1 hD
  have J2 := J1.new hD (.lst [])
  have h0 : Nw H0 D := J1.b.h0 hD
  have fD : F1 D = none := J1.b.fnone hD
  refine ⟨fun i m H => i + m = ds.length ∧ ∃ (F' : Hp) (acc : List V) (ad : List PyData), Rel c H0 F0 env F' σ H ∧ Same F1 F' ∧ F' D = none ∧ H D = some (.lst acc) ∧ RqAll F' acc ad ∧ pLcLS pg pe (wipeE (noOwn env) vs) (ds.drop i) ad R,
    ⟨ds.length, by omega, F1, [], [], J2, same_refl F1, fD, upd_same, .nil, by simpa using h1⟩, ?_⟩
  rintro i m H2 ⟨hm, F2, acc, ad, J3, k2, fD2, hD2, ra, h2⟩
  cases m with
  | zero =>
    have hi : i = ds.length := by omega
    subst hi
    rw [List.drop_length] at h2
    refine .inl ⟨wk.stop _ _ _ _ _ _ J3 k2, ?_⟩
    exact fin D acc ad F2 H2 J3 (same_trans k1 k2) fD2 h0 hD2 ra hown h2
  | succ m =>
    have hi : i < ds.length := by omega
    have ed : ds.drop i = ds[i] :: ds.drop (i + 1) := List.drop_eq_getElem_cons hi
    rw [ed] at h2
    obtain ⟨go, yl⟩ := wk.go _ _ _ _ _ _ i ds[i] J3 k2 (List.getElem?_eq_getElem hi)
    refine .inr ⟨go, fun H' => ∃ (F' : Hp) (acc : List V) (ad : List PyData), Rel c H0 F0 env F' σ H' ∧ Same F1 F' ∧ F' D = none ∧ H' D = some (.lst acc) ∧ RqAll F' acc ad ∧ pLcLS pg pe (wipeE (noOwn env) vs) (ds.drop (i + 1)) ad R,
      fun H' ⟨a1, a2, a3, a4⟩ => ⟨m, by omega, by omega, a1, a2, a3, a4⟩, fun x H3 hy => ?_⟩
    have JI := (J3.inner).wipe vs
    obtain ⟨F3, J4, k3, r3⟩ := (wk.go _ _ _ _ _ _ i ds[i] JI k2 (List.getElem?_eq_getElem hi)).2 x H3 hy
    refine rg _ _ _ _ _ _ _ ds[i] _ _ J4 r3 h2 fun env4 σ4 J5 l4 o4 h4 => ?_
    refine ⟨wipe_eq (by rw [l4, L2.wipe_length]) fun j hj => o4 j fun z => hj (hsub j z), ?_⟩
    refine rt _ _ _ _ _ _ (fun b => b = true) ENo _ J5 link_no rfl fun b F5 H5 J6 k5 hb => ?_
    cases hb
    have nD : ∀ {G H' : Hp} {e : Ev} {τ : St}, Rel c H2 F2 e G τ H' → H' D = some (.lst acc) ∧ G D = none := fun {G H' e τ} J' => by
      refine ⟨J'.b.fr D _ (J3.b.noutL hD2) (fun ps z => by cases z) hD2, ?_⟩
      cases e' : G D with
      | none => rfl
      | some o =>
        rcases J'.b.fN D (by rw [e']; simp) with z | z
        · exact absurd fD2 z
        · rcases z _ hD2 with ⟨ps, z⟩ | ⟨ps, z⟩ <;> cases z
    show te σ4 H5 _
    refine re _ _ _ _ _ _ _ _ _ J6 link_no h4 fun v s F7 H7 J7 k7 r7 h7 => ?_
    have B := J7.b
    have k6 : Same F2 F7 := B.fF
    split at h7
    · have J8 := (J3.after B).wrAt (zs := acc ++ [v]) (nD J7).1 (nD J7).2 h0 hown
      refine ⟨acc, (nD J7).1, ?_, F7, acc ++ [v], _, J8, same_trans k2 k6, (nD J7).2, upd_same, (ra.same k6).app (.cons r7 .nil), h7.2⟩
      rw [ra.len]
      exact Nat.lt_of_le_of_lt h7.1 (by decide)
    · exact h7.elim
/-- x = [e for y in (f, g, ..)] on one line, x one's own -/
theorem pus_ownLcS {i : Nat} {y : Str} {py : Pos} {elt tg iter : Expr} {scope : Scope} {own : List (Str × Nat)} {pos spos : Pos} {pi : PTIs} {pg : PTG} {is : List Nat} {pe : PTE} (hc : X.calm = true) (hN : X.N.Nodup) (hi : PuIs X c W tg iter pi) (ok : BlkOk X.N X.env.scope scope own) (hg : ∀ i : CI, PuG (i.blk X scope) c tg pg is)
    (he : ∀ i : CI, PuE (i.blk X scope) c WNo elt pe) (hy : X.N[i]? = some y := by rfl) (hyl : X.env.scope.names.lookup y = some .local := by rfl) (hk : X.env.scope.kind = .function := by rfl) (hl : (py.line == pos.line) = true := by rfl)
    (hz : (scope.names.any fun (n, k) => n == y && (k == .local || k == .cell)) = false := by rfl) (hsub : ∀ i ∈ is, i ∈ own.map (·.2) := by decide) (hs : ∀ x, foldedSetIterable iter X.env x = pure x := by intro _; rfl) : PuS X c W (.Assign [.Name y py] (.ListComp elt [⟨tg, iter, [], 0⟩] scope pos) spos) (psOwnN i (pLcSN pi pg pe (own.map (·.2)))) := by
  obtain ⟨wi, hi, ri⟩ := hi
  obtain ⟨g, hg, rg⟩ := unifG hg
  obtain ⟨te, he, re⟩ := unifE he
  have rd := rd_lcSN (W := W) ri rg hsub (fun H0 F0 env F σ H R E Q J L hp fin => fin true F H J (same_refl F) hp) re
  refine ⟨_, ps_setLc hc hN hy hyl (sw_true hk hyl hl hz) hi ok (fun s H C cl fp => hg ⟨s, H, C, cl, fp⟩) (fun _ _ _ _ _ => pts_nil) (fun s H C cl fp => he ⟨s, H, C, cl, fp⟩) hs, fun H0 F0 env F σ H D P J L h => ?_⟩
  refine rd _ _ _ _ _ _ _ _ _ J L.ex h fun q ys ds F1 H1 J1 k1 f1 n1 h1 r1 ne hp => ?_
  exact L.nx _ F1 _ _ (J1.own i f1 n1 h1 r1 fun j xs _ e1 e2 => ne j xs e1 e2) k1 hp

/-! ### a def held in a name, each by its own contract -/
def pCallRf (i n : Nat) (ok : Addr → Prop) (sp : Addr → PSp) (a : PTA) : PTE := fun env R E => ∃ f, nth env i = some (.raw (.ref f)) ∧ ok f ∧ a env (fun ss => ss.length = n ∧ sp f ss R (E env)) E
theorem pe_callRawF {k i : Nat} {ok : Addr → Prop} {sp : Addr → Sp} {E : St → XK} {x : Str} {e : Expr} {es : List Expr} {t : TA} {p pos : Pos} (hf : ∀ f, ok f → (∃ fd ps, FnOk X.prog X.w X.K X.mg X.base (L2.CX X.prog X.w) k f fd ps (sp f) ∧ Binds X.K fd ps []) ∧ PySem.W.keepIn X.K (.ref f) = true) (hr : Room k X.A) (hx : ∀ σ, PassesAt (L2.CX X.prog X.w) X σ (E σ)) (hN : X.N[i]? = some x) (hv : Vis X.env.scope x) (ha : PA X (e :: es) t)
    (hd : (x == ("__debug__" : Str)) = false := by decide) (hcd : (x == ("__classdict__" : Str)) = false := by decide)
    (he : starEach (e :: es) X.env = (false, eval e X.env) :: starEach es X.env := by rfl) (hpl : (backTo pos (starEach es X.env)).any (·.1) = false := by rfl) : PE X (.Call (.Name x p) (e :: es) [] pos) (fun σ H Q => ∃ f, σ[i]? = some (some (.ref f)) ∧ ok f ∧ t σ H fun vs H1 => sp f vs H1 Q (E σ)) := by
  refine ⟨fun pins s σ H Q I h => ?_⟩
  obtain ⟨f, hs, hok, h⟩ := h
  obtain ⟨⟨fd, ps, F, hb⟩, hk⟩ := hf f hok
  refine wpAny_Call_Name_kw (thn ((pe_var (pos := p) (i := i) hN hv hd hcd).run pins s σ H (fun v H1 => v = .ref f ∧ H1 = H) I ⟨.ref f, hs, rfl, rfl⟩) fun u s1 z => ?_)
  obtain ⟨v, H1, I1, r1, ev, eH⟩ := z
  subst ev
  rw [eH] at I1
  cases r1
  exact PySem.W.callWith_K (h₀ := X.base) I.ok.mod.kin hk (thn (ha.run pos pins s1 σ H _ I1 h) fun us s2 ⟨vs, H2, I2, r, q⟩ => ⟨I2.kIn, run_fnS F hr hb (hx σ) I2 r q⟩) he hpl
theorem pu_callRf {k i n : Nat} {ok : Addr → Prop} {sp : Addr → PSp} {x : Str} {e : Expr} {es : List Expr} {pa : PTA} {p pos : Pos} (hf : ∀ f, ok f → (∃ fd ps, FnOk X.prog X.w X.K X.mg X.base (L2.CX X.prog X.w) k f fd ps (lift c n (sp f)) ∧ Binds X.K fd ps []) ∧ PySem.W.keepIn X.K (.ref f) = true) (hr : Room k X.A) (tk : Takes X W) (ha : PuA X c W (e :: es) pa)
    (hN : X.N[i]? = some x := by rfl) (hv : Vis X.env.scope x := by first | exact Or.inl rfl | exact Or.inr (Or.inl rfl) | exact Or.inr (Or.inr rfl)) (hd : (x == ("__debug__" : Str)) = false := by decide) (hcd : (x == ("__classdict__" : Str)) = false := by decide)
    (he : starEach (e :: es) X.env = (false, eval e X.env) :: starEach es X.env := by rfl) (hpl : (backTo pos (starEach es X.env)).any (·.1) = false := by rfl) : PuE X c W (.Call (.Name x p) (e :: es) [] pos) (pCallRf i n ok sp pa) := by
  obtain ⟨ta, ha, ra⟩ := ha
  refine ⟨_, pe_callRawF (sp := fun f => lift c n (sp f)) hf hr (fun σ => passAt tk σ) hN hv ha hd hcd he hpl, fun H0 F0 env F σ H R E Q J L hp fin => ?_⟩
  obtain ⟨f, hn, hok, h⟩ := hp
  obtain ⟨ov, e1, e2⟩ := J.get (nth_eq _ _ hn)
  have e2 : ov = some (.ref f) := e2
  exact ⟨f, by rw [e1, e2], hok, rd_call ra _ _ _ _ _ _ _ _ _ J L h fin⟩
/-! ### two fors in a comprehension -/
def pLcL2 (g : PTG) (pi1 : PTI) (g1 : PTG) (pe : PTE) (vs1 : List Nat) (envI : Ev) : List PyData → List PyData → (List PyData → Prop) → Prop
  | [], acc, K => K acc
  | d :: l, acc, K => g (.d d) envI fun env1 => pi1 env1 (fun ds1 => pLcL g1 pYes pe (wipeE (noOwn env1) vs1) ds1 acc fun acc' => pLcL2 g pi1 g1 pe vs1 envI l acc' K) ENo
def pLc2 (it : PTI) (g : PTG) (pi1 : PTI) (g1 : PTG) (pe : PTE) (vs vs1 : List Nat) : PTE := fun env R E => it env (fun ds => pLcL2 g pi1 g1 pe vs1 (wipeE (noOwn env) vs) ds [] fun es => R (.d (.list es))) E
/-- slots without one's own things, seen from a heap behind -/
theorem Rel.at {H0 F0 F H H' F' : Hp} {env : Ev} {σ : St} (R : Rel c H0 F0 env F σ H) (k : Same F F') (B : Bas c H' F' F' H') : Rel c H' F' (noOwn env) F' σ H' := by
  have no : ∀ (i : Nat) (xs : List PyData), (noOwn env)[i]? ≠ some (some (.own xs)) := fun i xs h => by
    unfold noOwn at h
    rw [List.getElem?_map] at h
    cases e : env[i]? with
    | none => rw [e] at h; cases h
    | some s =>
      rw [e] at h
      have h' : noOwn1 s = some (.own xs) := Option.some.inj h
      cases s with
      | none => cases h'
      | some s => cases s <;> simp [noOwn1] at h'
  refine ⟨B, by unfold noOwn; rw [List.length_map]; exact R.len, fun i ov s e1 e2 => ?_, fun i j q xs ys e1 _ _ _ => absurd e1 (no i xs)⟩
  cases s with
  | none => exact True.intro
  | some s =>
    unfold noOwn at e2
    rw [List.getElem?_map] at e2
    cases e : env[i]? with
    | none => rw [e] at e2; cases e2
    | some s' =>
      rw [e] at e2
      have h' : noOwn1 s' = some s := Option.some.inj e2
      cases s' with
      | none => cases h'
      | some s' =>
        have r := R.sl i ov _ e1 e
        cases s' with
        | own xs => cases h'
        | d x => cases h'; exact ⟨r.choose, r.choose_spec.1, r.choose_spec.2.same k⟩
        | raw v => cases h'; exact r
        | exc p C ds => cases h'; exact ⟨r.1, r.2.same k⟩
        | obj C ds => cases h'; exact ⟨r.choose, r.choose_spec.1, r.choose_spec.2.same k⟩
        | slf x C ds => cases h'
        | ownT x => cases h'
        | tab x => cases h'; exact ⟨r.choose, r.choose_spec.1, r.choose_spec.2.same k⟩
theorem rd_lc2 {wi wi1 : TI} {pi pi1 : PTI} {g g1 : TG} {pg pg1 : PTG} {is is1 : List Nat} {tt tt1 : TT} {te : TE} {pe : PTE} {vs vs1 : List Nat} (ri : RdI c W wi pi) (rg : RdG c g pg is) (hsub : ∀ i ∈ is, i ∈ vs) (rt : RdT c WNo tt pYes) (ri1 : RdI c WNo wi1 pi1) (rg1 : RdG c g1 pg1 is1) (hsub1 : ∀ i ∈ is1, i ∈ vs1) (rt1 : RdT c WNo tt1 pYes)
    (re : Rd c WNo te pe) : Rd c W (tLc2 wi g tt wi1 g1 tt1 te vs vs1) (pLc2 pi pg pi1 pg1 pe vs vs1) := by
  intro H0 F0 env F σ H R E Q J L hp fin
  refine ri _ _ _ _ _ _ _ _ _ J L hp fun I F1 H1 ds J1 k1 wk h1 => ?_
  intro D hD
  have hown := own_ne J1 hD
  have J2 := J1.new hD (.lst [])
  have h0 : Nw H0 D := J1.b.h0 hD
  have fD : F1 D = none := J1.b.fnone hD
  have step : ∀ {H2 F2 G H' : Hp} {acc : List V} {e : Ev} {τ : St} {env2 : Ev} {σ2 : St}, Rel c H0 F0 env2 F2 σ2 H2 → H2 D = some (.lst acc) → F2 D = none → Rel c H2 F2 e G τ H' → H' D = some (.lst acc) ∧ G D = none := fun {H2 F2 G H' acc e τ env2 σ2} J3 hD2 fD2 J' => by
    refine ⟨J'.b.fr D _ (J3.b.noutL hD2) (fun ps z => by cases z) hD2, ?_⟩
    cases e' : G D with
    | none => rfl
    | some o =>
      rcases J'.b.fN D (by rw [e']; simp) with z | z
      · exact absurd fD2 z
      · rcases z _ hD2 with ⟨ps, z⟩ | ⟨ps, z⟩ <;> cases z
  refine ⟨fun i m H => i + m = ds.length ∧ ∃ (F' : Hp) (acc : List V) (ad : List PyData), Rel c H0 F0 env F' σ H ∧ Same F1 F' ∧ F' D = none ∧ H D = some (.lst acc) ∧ RqAll F' acc ad ∧ pLcL2 pg pi1 pg1 pe vs1 (wipeE (noOwn env) vs) (ds.drop i) ad fun es => R (.d (.list es)),
    ⟨ds.length, by omega, F1, [], [], J2, same_refl F1, fD, upd_same, .nil, by simpa using h1⟩, ?_⟩
  rintro i m H2 ⟨hm, F2, acc, ad, J3, k2, fD2, hD2, ra, h2⟩
  cases m with
  | zero =>
    have hi : i = ds.length := by omega
    subst hi
    rw [List.drop_length] at h2
    refine .inl ⟨wk.stop _ _ _ _ _ _ J3 k2, ?_⟩
    have k3 : Same F2 (upd F2 D (.lst acc)) := same_upd fD2
    exact fin (.ref D) (.d (.list ad)) _ H2 (J3.freezeAt hD2 fD2 h0 hown) (same_trans k1 (same_trans k2 k3)) (Rq.lst upd_same (ra.same k3)) h2
  | succ m =>
    have hi : i < ds.length := by omega
    have ed : ds.drop i = ds[i] :: ds.drop (i + 1) := List.drop_eq_getElem_cons hi
    rw [ed] at h2
    obtain ⟨go, yl⟩ := wk.go _ _ _ _ _ _ i ds[i] J3 k2 (List.getElem?_eq_getElem hi)
    refine .inr ⟨go, fun H' => ∃ (F' : Hp) (acc : List V) (ad : List PyData), Rel c H0 F0 env F' σ H' ∧ Same F1 F' ∧ F' D = none ∧ H' D = some (.lst acc) ∧ RqAll F' acc ad ∧ pLcL2 pg pi1 pg1 pe vs1 (wipeE (noOwn env) vs) (ds.drop (i + 1)) ad fun es => R (.d (.list es)),
      fun H' ⟨a1, a2, a3, a4⟩ => ⟨m, by omega, by omega, a1, a2, a3, a4⟩, fun x H3 hy => ?_⟩
    have JI := (J3.inner).wipe vs
    obtain ⟨F3, J4, k3, r3⟩ := (wk.go _ _ _ _ _ _ i ds[i] JI k2 (List.getElem?_eq_getElem hi)).2 x H3 hy
    refine rg _ _ _ _ _ _ _ (.d ds[i]) _ _ J4 r3 h2 fun env4 σ4 J5 l4 o4 h4 => ?_
    refine ⟨wipe_eq (by rw [l4, L2.wipe_length]) fun j hj => o4 j fun z => hj (hsub j z), ?_⟩
    refine rt _ _ _ _ _ _ (fun b => b = true) ENo _ J5 link_no rfl fun b F5 H5 J6 k5 hb => ?_
    cases hb
    show wi1 σ4 H5 _
    refine ri1 _ _ _ _ _ _ _ _ _ J6 link_no (show pi1 env4 _ ENo from h4) fun I1 F6 H6 ds1 J7 k6 wk1 h6 => ?_
    obtain ⟨d6, f6⟩ := step J3 hD2 fD2 J7
    have k26 : Same F2 F6 := J7.b.fF
    refine ⟨fun j k H => j + k = ds1.length ∧ ∃ (F' : Hp) (acc : List V) (ad : List PyData), Rel c H0 F0 env F' σ H ∧ Same F1 F' ∧ Same F6 F' ∧ F' D = none ∧ H D = some (.lst acc) ∧ RqAll F' acc ad ∧ pLcL pg1 pYes pe (wipeE (noOwn env4) vs1) (ds1.drop j) ad fun acc' => pLcL2 pg pi1 pg1 pe vs1 (wipeE (noOwn env) vs) (ds.drop (i + 1)) acc' fun es => R (.d (.list es)),
      ⟨ds1.length, by omega, F6, acc, ad, J3.after J7.b, same_trans k2 k26, same_refl F6, f6, d6, ra.same k26, by simpa using h6⟩, ?_⟩
    rintro j k H8 ⟨hk, F8, acc8, ad8, J8, k8, k68, fD8, hD8, ra8, h8⟩
    cases k with
    | zero =>
      have hj : j = ds1.length := by omega
      subst hj
      rw [List.drop_length] at h8
      exact .inl ⟨wk1.stop _ _ _ _ _ _ J8 k68, F8, acc8, ad8, J8, k8, fD8, hD8, ra8, h8⟩
    | succ k =>
      have hj : j < ds1.length := by omega
      rw [show ds1.drop j = ds1[j] :: ds1.drop (j + 1) from List.drop_eq_getElem_cons hj] at h8
      obtain ⟨go1, _⟩ := wk1.go _ _ _ _ _ _ j ds1[j] J8 k68 (List.getElem?_eq_getElem hj)
      refine .inr ⟨go1, fun H' => ∃ (F' : Hp) (acc : List V) (ad : List PyData), Rel c H0 F0 env F' σ H' ∧ Same F1 F' ∧ Same F6 F' ∧ F' D = none ∧ H' D = some (.lst acc) ∧ RqAll F' acc ad ∧ pLcL pg1 pYes pe (wipeE (noOwn env4) vs1) (ds1.drop (j + 1)) ad fun acc' => pLcL2 pg pi1 pg1 pe vs1 (wipeE (noOwn env) vs) (ds.drop (i + 1)) acc' fun es => R (.d (.list es)),
        fun H' ⟨a1, a2, a3, a4⟩ => ⟨k, by omega, by omega, a1, a2, a3, a4⟩, fun x1 H9 hy1 => ?_⟩
      have JJ := (J7.at k68 J8.b.here).wipe vs1
      obtain ⟨F9, J9, k9, r9⟩ := (wk1.go _ _ _ _ _ _ j ds1[j] JJ k68 (List.getElem?_eq_getElem hj)).2 x1 H9 hy1
      refine rg1 _ _ _ _ _ _ _ (.d ds1[j]) _ _ J9 r9 h8 fun env10 σ10 J10 l10 o10 h10 => ?_
      refine ⟨wipe_eq (by rw [l10, L2.wipe_length]) fun j hj => o10 j fun z => hj (hsub1 j z), ?_⟩
      refine rt1 _ _ _ _ _ _ (fun b => b = true) ENo _ J10 link_no rfl fun b F11 H11 J11 k11 hb => ?_
      cases hb
      show te σ10 H11 _
      have h10 := h10.1 rfl
      refine re _ _ _ _ _ _ _ _ _ J11 link_no h10 fun v s F12 H12 J12 k12 r12 h12 => ?_
      have B := J12.b
      have kk : Same F8 F12 := B.fF
      obtain ⟨d12, f12⟩ := step J8 hD8 fD8 J12
      split at h12
      · have J13 := (J8.after B).wrAt (zs := acc8 ++ [v]) d12 f12 h0 hown
        refine ⟨acc8, d12, ?_, F12, acc8 ++ [v], _, J13, same_trans k8 kk, same_trans k68 kk, f12, upd_same, (ra8.same kk).app (.cons r12 .nil), h12.2⟩
        rw [ra8.len]
        exact Nat.lt_of_le_of_lt h12.1 (by decide)
      · exact h12.elim
theorem pu_lc2 {elt tg iter tg1 iter1 : Expr} {scope : Scope} {own : List (Str × Nat)} (vs1 : List Nat) {pos : Pos} {pi pi1 : PTI} {pg pg1 : PTG} {is is1 : List Nat} {pe : PTE} (hc : X.calm = true) (hN : X.N.Nodup) (hi : PuI X c W tg iter pi) (ok : BlkOk X.N X.env.scope scope own) (hg : ∀ i : CI, PuG (i.blk X scope) c tg pg is)
    (hi1 : ∀ i : CI, PuI (i.blk X scope) c WNo tg1 iter1 pi1) (hg1 : ∀ i : CI, PuG (i.blk X scope) c tg1 pg1 is1) (he : ∀ i : CI, PuE (i.blk X scope) c WNo elt pe) (hsub : ∀ i ∈ is, i ∈ own.map (·.2) := by decide) (hsub1 : ∀ i ∈ is1, i ∈ vs1 := by decide) (hv : ∀ i ∈ vs1, i ∈ own.map (·.2) := by decide)
    (hs : ∀ x, foldedSetIterable iter X.env x = pure x := by intro _; rfl) (hs1 : ∀ env x, foldedSetIterable iter1 env x = pure x := by intro _ _; rfl) : PuE X c W (.ListComp elt [⟨tg, iter, [], 0⟩, ⟨tg1, iter1, [], 0⟩] scope pos) (pLc2 pi pg pi1 pg1 pe (own.map (·.2)) vs1) := by
  obtain ⟨wi, hi, ri⟩ := hi
  obtain ⟨g, hg, rg⟩ := unifG hg
  obtain ⟨te, he, re⟩ := unifE he
  obtain ⟨g1, hg1, rg1⟩ := unifG hg1
  obtain ⟨wi1, hi1, ri1⟩ : ∃ w1, (∀ i : CI, PI (i.blk X scope) tg1 iter1 w1) ∧ RdI c WNo w1 pi1 :=
    ⟨fun σ H Q => ∀ i, (hi1 i).choose σ H Q, fun i => ⟨fun pins s σ H Q I q => (hi1 i).choose_spec.1.run pins s σ H Q I (q i)⟩, fun H0 F0 env F σ H R E Q J L hp fin i => (hi1 i).choose_spec.2 H0 F0 env F σ H R E Q J L hp fin⟩
  have yes : ∀ {W : WX}, RdT c W _ pYes := fun H0 F0 env F σ H R E Q J L hp fin => fin true F H J (same_refl F) hp
  exact ⟨_, pe_lc2 hc hN hi ok hv (fun s H C cl fp => hg ⟨s, H, C, cl, fp⟩) (fun _ _ _ _ _ => pts_nil) (fun s H C cl fp => hi1 ⟨s, H, C, cl, fp⟩) (fun s H C cl fp => hg1 ⟨s, H, C, cl, fp⟩) (fun _ _ _ _ _ => pts_nil) (fun s H C cl fp => he ⟨s, H, C, cl, fp⟩) hs hs1,
    rd_lc2 ri rg hsub yes ri1 rg1 hsub1 yes re⟩
end
end Px
namespace Px
open PySem PySem.Spec PyProof.Rows L2 Lx
/-! ### tuple(range(..)) -/
section
variable {X : Cx} {c : Cc} {W : WX}
def pTr (pt : Ev → (Int → Int → Prop) → XP → Prop) : PTE := fun env R E => pt env (fun a b => (-1000 ≤ a ∧ a ≤ 1000 ∧ -1000 ≤ b ∧ b ≤ 1000) ∧ R (.d (.tuple (rgD a b)))) E
theorem pu_tupRg {e : Expr} {p pos : Pos} {pt : Ev → (Int → Int → Prop) → XP → Prop} (hc : X.calm = true) (hm : X.mg "tuple" = none) (he : PuRg X c W e pt) (hg : Gl X "tuple" := by rfl) (na : starEach [e] X.env = (false, eval e X.env) :: starEach [] X.env := by rfl) : PuE X c W (.Call (.Name "tuple" p) [e] [] pos) (pTr pt) := by
  obtain ⟨t, ht, rt⟩ := he
  refine ⟨_, pe_tupRg hc hg hm ht na, fun H0 F0 env F σ H R E Q J L h fin => rt _ _ _ _ _ _ _ _ _ J L h fun a b F1 H1 J1 k1 h1 => ?_⟩
  obtain ⟨⟨b1, b2, b3, b4⟩, h1⟩ := h1
  refine ⟨⟨by omega, by omega, by omega, by omega, by omega⟩, fun q hq => ?_⟩
  have k2 : Same F1 (upd F1 q (.tup (rgV a b))) := same_upd (J1.b.fnone hq)
  exact fin (.ref q) (.d _) _ _ (J1.alloc hq _) (same_trans k1 k2) (Rq.tup upd_same (rel_rg a b)) h1
end
/-! ### steps -/
theorem drop_i {pa : PTE} {rest : PTS} {P : PD} {env : Ev} (h : pa env (fun _ => rest P env) P.ex) : psSeq (psDrop pa) rest P env := h
theorem lcons_i {a : PTE} {as : PTA} {env : Ev} {R : List Sl → Prop} {E : XP} (v : Sl) (h1 : ∀ R : Sl → Prop, R v → a env R E) (h2 : as env (fun xs => R (v :: xs)) E) : pCons a as env R E := h1 _ h2
theorem bools_map {f : PyData → Bool} : ∀ l : List PyData, boolsOf (l.map fun d => .bool (f d)) = some (l.map f)
  | [] => rfl
  | d :: l => by rw [List.map_cons]; unfold boolsOf; rw [bools_map l]; rfl
theorem all_idmap {f : PyData → Bool} (l : List PyData) : (l.map f).all id = l.all f := by rw [List.all_map]; rfl
theorem lc_mapA {g : PTG} {pe : PTE} {envI : Ev} {K : List PyData → Prop} {α : Type} (t f : α → PyData) : ∀ {xs : List α} {acc : List PyData}, acc.length + xs.length ≤ 1000000 → (∀ x ∈ xs, ∀ R : Sl → Prop, R (.d (f x)) → g (.d (t x)) envI fun env1 => pe env1 R ENo) → K (acc ++ xs.map f) → pLcL g pYes pe envI (xs.map t) acc K := by
  intro xs
  induction xs with
  | nil => intro acc _ _ hK; simpa [pLcL] using hK
  | cons x xs ih =>
    intro acc hl hs hK
    have hl' : acc.length + (xs.length + 1) ≤ 1000000 := hl
    rw [List.map_cons]
    unfold pLcL
    have key : ∀ (R : Sl → Prop) (N : Prop), R (.d (f x)) → g (.d (t x)) envI fun env1 => pYes env1 (fun b => (b = true → pe env1 R ENo) ∧ (b = false → N)) ENo := by
      intro R N hR
      have := hs x List.mem_cons_self R hR
      have e : (fun env1 => pYes env1 (fun b => (b = true → pe env1 R ENo) ∧ (b = false → N)) ENo) = fun env1 => pe env1 R ENo := by
        funext env1
        exact propext ⟨fun h => h.1 rfl, fun h => ⟨fun _ => h, fun z => Bool.noConfusion z⟩⟩
      rw [e]; exact this
    refine key _ _ ⟨by omega, ih (acc := acc ++ [f x]) (by rw [List.length_append]; simp only [List.length_cons, List.length_nil]; omega) (fun y hy => hs y (List.mem_cons_of_mem _ hy)) ?_⟩
    rw [List.append_assoc]; exact hK
/-- two fors: what each item of the first gives, laid end to end -/
theorem lc2_flat {g : PTG} {pi1 : PTI} {g1 : PTG} {pe : PTE} {vs1 : List Nat} {envI : Ev} {α β : Type} (t : α → PyData) (u : β → PyData) (f : α → List β) (v : β → PyData) {m : Nat} : ∀ {xs : List α} {K : List PyData → Prop} {acc : List PyData}, acc.length + xs.length * m ≤ 1000000 → (∀ x ∈ xs, (f x).length ≤ m) →
    (∀ x ∈ xs, ∀ (acc : List PyData) (K : List PyData → Prop), acc.length + (f x).length ≤ 1000000 → K (acc ++ (f x).map v) → g (.d (t x)) envI fun env1 => pi1 env1 (fun ds1 => pLcL g1 pYes pe (wipeE (noOwn env1) vs1) ds1 acc K) ENo) →
    K (acc ++ (xs.flatMap f).map v) → pLcL2 g pi1 g1 pe vs1 envI (xs.map t) acc K
  | [], K, acc, _, _, _, hK => by simpa [pLcL2] using hK
  | x :: xs, K, acc, hl, hm, hs, hK => by
    have h1 := hm x List.mem_cons_self
    have hl2 : acc.length + (xs.length * m + m) ≤ 1000000 := by rw [← Nat.succ_mul]; exact hl
    rw [List.map_cons]
    unfold pLcL2
    refine hs x List.mem_cons_self acc _ (by omega) (lc2_flat t u f v (by rw [List.length_append, List.length_map]; omega) (fun y hy => hm y (List.mem_cons_of_mem _ hy)) (fun y hy => hs y (List.mem_cons_of_mem _ hy)) ?_)
    rw [List.append_assoc, ← List.map_append]
    exact hK
end Px
namespace Px
open PySem PySem.Spec PyProof.Rows L2 Lx
/-- an if whose condition may go either way -/
theorem if_any {t : PTT} {a rest : PTS} {P : PD} {env : Ev} (h1 : ∀ R : Bool → Prop, (∀ x, R x) → t env R P.ex) (hT : a { P with nx := rest P } env) (hF : rest P env) : psSeq (psIf t a psNext) rest P env := h1 _ fun x => ⟨fun _ => hT, fun _ => hF⟩
theorem ixN_nat {n : Nat} {r : Int} (h0 : 0 ≤ r) (h1 : r < (n : Int)) : ixN n r = some r.toNat := by
  unfold ixN
  rw [if_pos h0, if_pos h1]
theorem ixN_last {n : Nat} (h : 0 < n) : ixN n (-1) = some (n - 1) := by
  unfold ixN
  rw [if_neg (by decide), if_pos (by omega)]
  congr 1
  omega
theorem erase_perm {α : Type} : ∀ {l : List α} {n : Nat} {y : α}, l[n]? = some y → (y :: l.eraseIdx n).Perm l
  | [], n, y, h => by simp at h
  | a :: l, 0, y, h => by
    simp at h
    subst h
    exact List.Perm.refl _
  | a :: l, n + 1, y, h => by
    have h' : l[n]? = some y := by simpa using h
    rw [List.eraseIdx_cons_succ]
    exact (List.Perm.swap a y _).trans ((erase_perm h').cons a)
end Px
namespace Px
open PySem PySem.Spec PyProof.Rows L2 Lx
/-- a comprehension with an if -/
theorem lc_filt {g : PTG} {pt : PTT} {pe : PTE} {envI : Ev} {K : List PyData → Prop} {α : Type} (t f : α → PyData) (p : α → Bool) : ∀ {xs : List α} {acc : List PyData}, acc.length + xs.length ≤ 1000000 →
    (∀ x ∈ xs, ∀ (N : Ev → Prop), (∀ env1, (∀ R : Bool → Prop, R (p x) → pt env1 R ENo) → (∀ R : Sl → Prop, R (.d (f x)) → pe env1 R ENo) → N env1) → g (.d (t x)) envI N) → K (acc ++ (xs.filter p).map f) → pLcL g pt pe envI (xs.map t) acc K
  | [], acc, _, _, hK => by simpa [pLcL] using hK
  | x :: xs, acc, hl, hs, hK => by
    have hl' : acc.length + (xs.length + 1) ≤ 1000000 := hl
    rw [List.map_cons]
    unfold pLcL
    refine hs x List.mem_cons_self _ fun env1 h1 h2 => h1 _ ?_
    rw [List.filter_cons] at hK
    refine ⟨fun e => h2 _ ⟨by omega, lc_filt t f p (acc := acc ++ [f x]) (by rw [List.length_append]; simp only [List.length_cons, List.length_nil]; omega) (fun y hy => hs y (List.mem_cons_of_mem _ hy)) ?_⟩, fun e => lc_filt t f p (acc := acc) (by omega) (fun y hy => hs y (List.mem_cons_of_mem _ hy)) ?_⟩
    · rw [if_pos e, List.map_cons] at hK
      rw [List.append_assoc]; exact hK
    · rw [if_neg (by rw [e]; decide)] at hK
      exact hK
end Px
namespace Px
open PySem PySem.Spec PyProof.Rows L2 Lx
/-! ### sum of a list or a tuple of ints -/
def rSum2 (K : PySem.W.Frag) : List V → Hp → VK → Prop := fun vs H Q => ∃ (a : Addr) (ns : List Int), vs = [V.ref a] ∧ (SqL K H a (ns.map V.int) ∨ SqT K H a (ns.map V.int)) ∧ Q (.int ns.sum) H
theorem cr_sum2 {X : Cx} (hc : X.calm = true) : CallR X (.builtin "sum") (rSum2 X.K) := by
  intro pins s σ H vs us Q I r h
  obtain ⟨a, ns, rfl, hs | hs, q⟩ := h
  · exact cr_sum hc pins s σ H _ us Q I r ⟨a, ns, rfl, hs, q⟩
  · obtain ⟨its, rv, ht, _⟩ := I.tuple hs
    rw [Vals.ref1 r]
    have hi := rv.ints
    obtain ⟨xs, e⟩ := hi.allInts.items
    have hn : numsOf (intItems xs).toList = ns := by rw [← e]; exact hi.numsOf
    rw [nums_intItems] at hn
    have ht' : s.heap.IsTuple a its.toArray := ht
    rw [e] at ht'
    refine PySem.W.ktm_sumG (I.ok.hd hc) ht' fun h' tk t' hk => ?_
    rw [preSum_eq, List.take_of_length_le (by simp), hn]
    exact ⟨.int ns.sum, H, I.kept hk, ⟨_, rfl⟩, q⟩
def bSum : PB := fun ss R => ∃ (x : PyData) (ns : List Int), ss = [.d x] ∧ (x = .list (intsD ns) ∨ x = .tuple (intsD ns)) ∧ R (.d (.int ns.sum))
theorem rb_sum {c : Cc} {K : PySem.W.Frag} : RB c (rSum2 K) bSum := by
  intro H0 F0 env F σ H vs ss R Q J r h fin
  obtain ⟨x, ns, rfl, hx, h⟩ := h
  obtain ⟨v, rfl, rv⟩ := rs1 r
  have go : ∀ (a : Addr), (SqL K H a (ns.map V.int) ∨ SqT K H a (ns.map V.int)) → rSum2 K [V.ref a] H Q := fun a hs => ⟨a, ns, rfl, hs, fin (.int ns.sum) (.d _) F H J (same_refl F) (Rq.int _) h⟩
  rcases hx with rfl | rfl
  · cases rv with
    | lst e rr => rw [ints_of rr] at e; exact go _ (.inl (sqL (J.b.sub _ _ e)))
  · cases rv with
    | tup e rr => rw [ints_of rr] at e; exact go _ (.inr (sqT (J.b.sub _ _ e)))
/-! ### tuples of ints in order -/
def rLtT (K : PySem.W.Frag) : R2 := fun x y H Q => ∃ (a b : Addr) (ns ms : List Int), x = .ref a ∧ y = .ref b ∧ SqT K H a (ns.map V.int) ∧ SqT K H b (ms.map V.int) ∧
  Q (.bl (Ob.lexAt (fun j => decide (ns.getD j 0 = ms.getD j 0)) (fun j => decide (ns.getD j 0 < ms.getD j 0)) (decide (ns.length < ms.length)) 0 (min ns.length ms.length))) H
theorem op_ltT {X : Cx} (hu : X.A.units < cLine) : OpR X (compareOp .Lt) (rLtT X.K) := by
  intro pins s σ H x y v u Q I rx ry h
  obtain ⟨a, b, ns, ms, rfl, rfl, ha, hb, q⟩ := h
  cases rx
  cases ry
  obtain ⟨its, r1, p1, _⟩ := I.tuple ha
  obtain ⟨its2, r2, p2, _⟩ := I.tuple hb
  have i1 : IntsAre its ns := Vals.ints r1
  have i2 : IntsAre its2 ms := Vals.ints r2
  have e1 : its.toArray.size = ns.length := by rw [List.size_toArray]; exact i1.length
  have e2 : its2.toArray.size = ms.length := by rw [List.size_toArray]; exact i2.length
  have at1 : ∀ j (h1 : j < its.toArray.size), ∃ t, its.toArray[j] = .int (ns.getD j 0) t := fun j h1 => PyProof.Rows.IntsAre.int_at i1 _ _ (by simp at h1; simp [h1])
  have at2 : ∀ j (h1 : j < its2.toArray.size), ∃ t, its2.toArray[j] = .int (ms.getD j 0) t := fun j h1 => PyProof.Rows.IntsAre.int_at i2 _ _ (by simp at h1; simp [h1])
  have R := Ob.RcOp.tuples_lt (A := X.A) (s := s) (e := fun j => decide (ns.getD j 0 = ms.getD j 0)) (r := fun j => decide (ns.getD j 0 < ms.getD j 0)) p1 p2 hu (fun j h1 h2 => by
    obtain ⟨t, et⟩ := at1 j h1
    obtain ⟨t', et'⟩ := at2 j h2
    rw [et, et']
    have z : (ns.getD j 0 == ms.getD j 0) = decide (ns.getD j 0 = ms.getD j 0) := by
      by_cases q : ns.getD j 0 = ms.getD j 0
      · rw [decide_eq_true q]; exact beq_iff_eq.mpr q
      · rw [decide_eq_false q]; exact beq_eq_false_iff_ne.mpr q
    rw [← z]
    exact SeqAt.EqAt.int_int _ _ _ _) (fun j h1 h2 _ => by
    obtain ⟨t, et⟩ := at1 j h1
    obtain ⟨t', et'⟩ := at2 j h2
    rw [et, et']
    exact Ob.RcOp.lt_int _ _ _ _)
  rw [e1, e2] at R
  have z : wpAny (model X.prog X.w) X.A (compareOp .Lt (.ref a) (.ref b)) (EP X pins σ Q) X.xe s := R X.prog X.w X.xe (EP X pins σ Q) ⟨.bl _, H, I, rfl, q⟩
  exact z
theorem lex_code {B : Int} {ns ms : List Int} : ∀ (k i : Nat) (a b : List Int), a.length = k → b.length = k → (∀ j, ns.getD (i + j) 0 = a.getD j 0) → (∀ j, ms.getD (i + j) 0 = b.getD j 0) → TS.Bd B a → TS.Bd B b →
    Ob.lexAt (fun j => decide (ns.getD j 0 = ms.getD j 0)) (fun j => decide (ns.getD j 0 < ms.getD j 0)) false i k = decide (TS.code B a < TS.code B b)
  | 0, i, [], [], _, _, _, _, _, _ => by
    rw [Ob.lexAt_zero, decide_eq_false (Int.lt_irrefl _)]
  | k + 1, i, d :: a, e :: b, ha, hb, h1, h2, b1, b2 => by
    have g1 : ns.getD i 0 = d := by simpa using h1 0
    have g2 : ms.getD i 0 = e := by simpa using h2 0
    have la : a.length = k := by simpa using ha
    have lb : b.length = k := by simpa using hb
    rw [Ob.lexAt_succ, g1, g2]
    by_cases h : d = e
    · subst h
      rw [if_pos (decide_eq_true rfl), lex_code k (i + 1) a b la lb (fun j => by have := h1 (j + 1); rw [show i + 1 + j = i + (j + 1) by omega, this]; simp) (fun j => by have := h2 (j + 1); rw [show i + 1 + j = i + (j + 1) by omega, this]; simp) b1.tail b2.tail]
      rw [decide_eq_decide]
      exact (TS.code_same (la.trans lb.symm)).symm
    · rw [if_neg (by simpa using h), decide_eq_decide]
      constructor
      · exact fun z => TS.code_lt (la.trans lb.symm) b1.tail b2.tail z
      · intro z
        rcases Int.lt_or_gt_of_ne h with y | y
        · exact y
        · have := TS.code_lt (lb.trans la.symm) b2.tail b1.tail y
          omega
/-- < of tuples of as many ints, from 0 on, below B -/
def oLtT (B : Int) : POp := fun x y R => ∃ ns ms : List Int, x = .d (.tuple (intsD ns)) ∧ y = .d (.tuple (intsD ms)) ∧ ns.length = ms.length ∧ TS.Bd B ns ∧ TS.Bd B ms ∧ R (.d (.bool (decide (TS.code B ns < TS.code B ms))))
theorem ro_ltT {c : Cc} {K : PySem.W.Frag} {B : Int} : ROp c (rLtT K) (oLtT B) := by
  intro H0 F0 env F σ H x y sx sy R Q J rx ry hp fin
  obtain ⟨ns, ms, rfl, rfl, hl, b1, b2, hR⟩ := hp
  have go : ∀ {v : V} {ks : List Int}, Rq F v (.tuple (intsD ks)) → ∃ a, v = .ref a ∧ SqT K H a (ks.map V.int) := fun r => by
    cases r with
    | tup e rr => rw [ints_of rr] at e; exact ⟨_, rfl, sqT (J.b.sub _ _ e)⟩
  obtain ⟨a, rfl, ha⟩ := go rx
  obtain ⟨b, rfl, hb⟩ := go ry
  refine ⟨a, b, ns, ms, rfl, rfl, ha, hb, ?_⟩
  rw [hl, Nat.min_self, decide_eq_false (Nat.lt_irrefl _), lex_code ms.length 0 ns ms hl rfl (fun j => by rw [Nat.zero_add]) (fun j => by rw [Nat.zero_add]) b1 b2]
  exact fin (.bl _) (.d _) F H J (same_refl F) (Rq.bl _) hR
/-! ### a list of one's own by repetition -/
section
variable {X : Cx} {c : Cc} {W : WX}
def pRepN (pa pb : PTE) : PTN := fun env R E => pa env (fun x => pb env (fun y => match x, y with
  | .d (.list ds), .d (.int k) => 0 ≤ k ∧ k ≤ 1000 ∧ ds.length ≤ 1000 ∧ R (repD k.toNat ds)
  | _, _ => False) E) E
theorem pun_rep {e f : Expr} {pos : Pos} {pa pb : PTE} (ha : PuE X c W e pa) (hb : PuE X c W f pb) : PuN X c W (.BinOp e .Mult f pos) (pRepN pa pb) := by
  obtain ⟨ta, ha, ra⟩ := ha
  obtain ⟨tb, hb, rb⟩ := hb
  refine ⟨_, pe_op op_rep ha hb, fun H0 F0 env F σ H R E Q J L h fin => ra _ _ _ _ _ _ _ _ _ J L h fun v s F1 H1 J1 k1 r1 h1 => rb _ _ _ _ _ _ _ _ _ J1 L h1 fun u t F2 H2 J2 k2 r2 h2 => ?_⟩
  split at h2
  · rename_i ds k
    obtain ⟨b1, b2, b3, h2⟩ := h2
    cases r2
    cases r1 with
    | @lst a xs _ e rr =>
      have hl := rr.len
      have e2 := J2.b.sub _ _ (k2 _ _ e)
      refine ⟨a, k, xs, rfl, rfl, e2, by omega, by omega, ?_, fun q hq => ?_⟩
      · have : xs.length * k.toNat ≤ 1000 * 1000 := Nat.mul_le_mul (by omega) (by omega)
        rw [sizeLine_eq]
        omega
      · exact fin q _ (repD k.toNat ds) F2 _ (J2.new hq _) (same_trans k1 k2) (J2.b.fnone hq) (J2.b.h0 hq) upd_same (rep_rel (rr.same k2) _) (own_ne J2 hq) h2
  · exact h2.elim
end
end Px
namespace Px
open PySem PySem.Spec PyProof.Rows L2 Lx
/-! ### dicts of one's own whose keys are tuples -/
abbrev Tab := List (List Key × PyData)
def keyD (k : List Key) : PyData := .tuple (k.map kD)
def getT (kvs : Tab) (k : List Key) : Option PyData := (kvs.find? fun kv => decide (kv.1 = k)).map (·.2)
def putT (kvs : Tab) (k : List Key) (v : PyData) : Tab := if (kvs.any fun kv => decide (kv.1 = k)) = true then kvs.map (fun kv => if kv.1 = k then (kv.1, v) else kv) else kvs ++ [(k, v)]
theorem key_of {F : Hp} : ∀ {vs : List V} {k : List Key}, RqAll F vs (k.map kD) → vs = k.map kV
  | _, [], h => by cases h; rfl
  | _, .inl i :: k, h => by
    cases h with
    | cons a b => cases a; rw [key_of b]; rfl
  | _, .inr x :: k, h => by
    cases h with
    | cons a b => cases a; rw [key_of b]; rfl
theorem any_keys {α β : Type} : ∀ {ys : List (List Key × α)} {kvs : List (List Key × β)}, ys.map (·.1) = kvs.map (·.1) → ∀ k, (ys.any fun kv => decide (kv.1 = k)) = (kvs.any fun kv => decide (kv.1 = k)) := fun {ys kvs} m k => by
  have e1 : (ys.any fun kv => decide (kv.1 = k)) = (ys.map (·.1)).any fun x => decide (x = k) := by rw [List.any_map]; rfl
  have e2 : (kvs.any fun kv => decide (kv.1 = k)) = (kvs.map (·.1)).any fun x => decide (x = k) := by rw [List.any_map]; rfl
  rw [e1, e2, m]
theorem tab_rep {F : Hp} {v : V} {d : PyData} {k : List Key} (rv : Rq F v d) : ∀ {ys : List (List Key × V)} {kvs : Tab}, ys.map (·.1) = kvs.map (·.1) → RqAll F (ys.map (·.2)) (kvs.map (·.2)) →
    (ys.map fun kv => if kv.1 = k then (kv.1, v) else kv).map (·.1) = (kvs.map fun kv => if kv.1 = k then (kv.1, d) else kv).map (·.1) ∧ RqAll F ((ys.map fun kv => if kv.1 = k then (kv.1, v) else kv).map (·.2)) ((kvs.map fun kv => if kv.1 = k then (kv.1, d) else kv).map (·.2))
  | [], [], _, _ => ⟨rfl, .nil⟩
  | [], _ :: _, m, _ => by cases m
  | _ :: _, [], m, _ => by cases m
  | (k1, y) :: ys, (k2, x) :: kvs, m, r => by
    simp only [List.map_cons, List.cons.injEq] at m
    obtain ⟨rfl, m⟩ := m
    cases r with
    | cons r1 r2 =>
      obtain ⟨h1, h2⟩ := tab_rep rv (k := k) m r2
      simp only [List.map_cons]
      by_cases h : k1 = k
      · rw [if_pos h, if_pos h]
        exact ⟨by rw [h1], .cons rv h2⟩
      · rw [if_neg h, if_neg h]
        exact ⟨by rw [h1], .cons r1 h2⟩
theorem tab_put {F : Hp} {v : V} {d : PyData} {k : List Key} (rv : Rq F v d) {ys : List (List Key × V)} {kvs : Tab} (m : ys.map (·.1) = kvs.map (·.1)) (r : RqAll F (ys.map (·.2)) (kvs.map (·.2))) :
    (putK ys k v).map (·.1) = (putT kvs k d).map (·.1) ∧ RqAll F ((putK ys k v).map (·.2)) ((putT kvs k d).map (·.2)) := by
  unfold putK putT
  rw [any_keys m k]
  split
  · exact tab_rep rv m r
  · rw [List.map_append, List.map_append, List.map_append, List.map_append, m]
    exact ⟨rfl, r.app (.cons rv .nil)⟩
theorem tab_get {F : Hp} {k : List Key} {d : PyData} : ∀ {ys : List (List Key × V)} {kvs : Tab}, ys.map (·.1) = kvs.map (·.1) → RqAll F (ys.map (·.2)) (kvs.map (·.2)) → getT kvs k = some d → ∃ v, valV ys k = some v ∧ Rq F v d
  | [], [], _, _, h => by cases h
  | [], _ :: _, m, _, _ => by cases m
  | _ :: _, [], m, _, _ => by cases m
  | (k1, y) :: ys, (k2, x) :: kvs, m, r, h => by
    simp only [List.map_cons, List.cons.injEq] at m
    obtain ⟨rfl, m⟩ := m
    cases r with
    | cons r1 r2 =>
      by_cases e : k1 = k
      · have e1 : getT ((k1, x) :: kvs) k = some x := by simp [getT, List.find?_cons, e]
        rw [e1] at h
        cases h
        exact ⟨y, valV_pos e, r1⟩
      · have e1 : getT ((k1, x) :: kvs) k = getT kvs k := by simp [getT, List.find?_cons, e]
        rw [e1] at h
        rw [valV_neg e]
        exact tab_get m r2 h
/-- no other such dict -/
def noT : Ev → Bool
  | [] => true
  | some (.ownT _) :: _ => false
  | _ :: l => noT l
theorem noT_at : ∀ {l : Ev} {j : Nat} {kvs : Tab}, noT l = true → l[j]? ≠ some (some (.ownT kvs))
  | [], _, _, _ => by simp
  | s :: l, 0, kvs, h => fun z => by
    have z : s = some (.ownT kvs) := by simpa using z
    subst z
    cases h
  | s :: l, j + 1, kvs, h => fun z => by
    have h' : noT l = true := by
      cases s with
      | none => exact h
      | some s => cases s <;> first | exact h | cases h
    exact noT_at h' (by simpa using z)
section
variable {c : Cc} {H0 F0 F H : Hp} {env : Ev} {σ : St} {q : Addr}
/-- a slot set to what stands -/
theorem Rel.put1 (R : Rel c H0 F0 env F σ H) (i : Nat) {v : V} {s : Sl} (hs : SlotR H0 F H (some v) (some s)) (no : ∀ xs, s ≠ .own xs) : Rel c H0 F0 (env.set i (some s)) F (σ.set i (some v)) H := by
  refine ⟨R.b, by rw [List.length_set, List.length_set]; exact R.len, fun j ov s' e1 e2 => ?_, fun j k q xs ys e1 e2 e3 e4 => ?_⟩
  · by_cases hij : i = j
    · subst hij
      have h1 : i < σ.length := by
        have := (List.getElem?_eq_some_iff.mp e1).1
        simpa using this
      rw [List.getElem?_set_self h1] at e1
      rw [List.getElem?_set_self (by rw [← R.len]; exact h1)] at e2
      cases e1
      cases e2
      exact hs
    · rw [List.getElem?_set_ne hij] at e1 e2
      exact R.sl j ov s' e1 e2
  · have ne1 : i ≠ j := fun z => by
      subst z
      rw [List.getElem?_set_self (by have := (List.getElem?_eq_some_iff.mp e1).1; simpa using this)] at e1
      exact no xs (Option.some.inj (Option.some.inj e1))
    have ne2 : i ≠ k := fun z => by
      subst z
      rw [List.getElem?_set_self (by have := (List.getElem?_eq_some_iff.mp e2).1; simpa using this)] at e2
      exact no ys (Option.some.inj (Option.some.inj e2))
    rw [List.getElem?_set_ne ne1] at e1 e3
    rw [List.getElem?_set_ne ne2] at e2 e4
    exact R.sep j k q xs ys e1 e2 e3 e4
/-- one's own object shown -/
theorem Bas.freezeO (B : Bas c H0 F0 F H) {o : HO} (ho : Ob o) (h : H q = some o) (hF : F q = none) (h0 : Nw H0 q) : Bas c H0 F0 (upd F q o) H := by
  have no := B.noutO ho h
  have hF' : ∀ {b u}, F b = some u → b ≠ q := fun e z => by rw [z, hF] at e; cases e
  refine ⟨fun b u e => ?_, fun b hb => ?_, ?_, B.tab, B.fr, fun b u e => ?_, fun b n => ?_, fun b ps e => ?_, B.ou⟩
  · by_cases z : b = q
    · subst z; rw [upd_same] at e; cases e; exact h
    · rw [upd_ne z] at e; exact B.sub b u e
  · rw [upd_ne fun z => no (by rw [← z]; exact hb)]; exact B.fx b hb
  · obtain ⟨ns, a, d, k, f, e1, e3⟩ := B.pen
    exact ⟨ns, a, d, k, f, e1, by rw [upd_ne (hF' e3)]; exact e3⟩
  · have := B.fF b u e
    rw [upd_ne (hF' this)]; exact this
  · by_cases z : b = q
    · subst z; exact .inr h0.v
    · rw [upd_ne z] at n; exact B.fN b n
  · by_cases z : b = q
    · subst z; rw [upd_same] at e; exact absurd (Option.some.inj e) (ho.nt ps)
    · rw [upd_ne z] at e; exact B.fT b ps e
/-- a tuple that stands, seen by all -/
theorem Bas.adopt (B : Bas c H0 F0 F H) {xs : List V} (h : H q = some (.tup xs)) (hF : F q = none) : Bas c H0 F0 (upd F q (.tup xs)) H := by
  have no : ¬ c.out q := fun z => by rcases B.outH z with ⟨_, e⟩ | ⟨_, e⟩ <;> rw [h] at e <;> cases e
  have hF' : ∀ {b u}, F b = some u → b ≠ q := fun e z => by rw [z, hF] at e; cases e
  refine ⟨fun b u e => ?_, fun b hb => ?_, ?_, B.tab, B.fr, fun b u e => ?_, fun b n => ?_, fun b ps e => ?_, B.ou⟩
  · by_cases z : b = q
    · subst z; rw [upd_same] at e; cases e; exact h
    · rw [upd_ne z] at e; exact B.sub b u e
  · rw [upd_ne fun z => no (by rw [← z]; exact hb)]; exact B.fx b hb
  · obtain ⟨ns, a, d, k, f, e1, e3⟩ := B.pen
    exact ⟨ns, a, d, k, f, e1, by rw [upd_ne (hF' e3)]; exact e3⟩
  · have := B.fF b u e
    rw [upd_ne (hF' this)]; exact this
  · by_cases z : b = q
    · subst z
      refine .inr fun o e => ?_
      by_cases m : ∃ ps, o = .tbl ps
      · exact .inl m
      · have := B.fr b o no (fun ps z => m ⟨ps, z⟩) e
        rw [h] at this
        cases this
        exact .inr ⟨xs, rfl⟩
    · rw [upd_ne z] at n; exact B.fN b n
  · by_cases z : b = q
    · subst z; rw [upd_same] at e; cases e
    · rw [upd_ne z] at e; exact B.fT b ps e
theorem Rel.adopt (R : Rel c H0 F0 env F σ H) {xs : List V} (h : H q = some (.tup xs)) : ∃ F', Rel c H0 F0 env F' σ H ∧ Same F F' ∧ F' q = some (.tup xs) := by
  cases hF : F q with
  | some o =>
    have := R.b.sub q o hF
    rw [h] at this
    cases this
    exact ⟨F, R, same_refl F, hF⟩
  | none =>
    refine ⟨upd F q (.tup xs), R.move (R.b.adopt h hF) (same_upd hF) fun b o ho e1 _ e3 => ?_, same_upd hF, upd_same⟩
    have : b ≠ q := fun z => by rw [z, h] at e3; exact ho.ntp xs (Option.some.inj e3).symm
    rw [upd_ne this]
    exact ⟨e1, e3⟩
theorem Rel.adopts : ∀ {bs : List Addr} {nss : List (List Int)} {F : Hp}, Rel c H0 F0 env F σ H → Paired (fun b ns => H b = some (.tup (ns.map V.int))) bs nss → ∃ F', Rel c H0 F0 env F' σ H ∧ Same F F' ∧ RqAll F' (bs.map V.ref) (nss.map fun ns => .tuple (intsD ns))
  | _, _, F, R, .nil => ⟨F, R, same_refl F, .nil⟩
  | _, _, F, R, .cons h t => by
    obtain ⟨F1, R1, k1, e1⟩ := R.adopt h
    obtain ⟨F2, R2, k2, r2⟩ := Rel.adopts R1 t
    exact ⟨F2, R2, same_trans k1 k2, .cons (.tup (k2 _ _ e1) (rel_ints _)) r2⟩
theorem Rel.newT (R : Rel c H0 F0 env F σ H) (h : H q = none) (i : Nat) : Rel c H0 F0 (env.set i (some (.ownT []))) F (σ.set i (some (.ref q))) (upd H q (.dT [])) :=
  (R.new h (.dT [])).put1 i ⟨q, [], rfl, R.b.fnone h, R.b.h0 h, upd_same, rfl, .nil⟩ fun xs z => by cases z
/-- an entry is written -/
theorem Rel.putT (R : Rel c H0 F0 env F σ H) {i : Nat} {kvs : Tab} {k : List Key} {v : V} {d : PyData} (hs : nth env i = some (.ownT kvs)) (hn : noT (env.set i none) = true) (rv : Rq F v d) :
    ∃ q ys, σ[i]? = some (some (.ref q)) ∧ H q = some (.dT ys) ∧ ys.length = kvs.length ∧ Rel c H0 F0 (env.set i (some (.ownT (putT kvs k d)))) F σ (upd H q (.dT (putK ys k v))) := by
  obtain ⟨ov, e1, x, ys, rfl, a1, a2, a3, m, rr⟩ := R.get (nth_eq _ _ hs)
  have hl : ys.length = kvs.length := by
    have := congrArg List.length m
    simpa using this
  have no := R.b.noutO .t a3
  have hF' : ∀ {b u}, F b = some u → b ≠ x := fun e z => by rw [z, a1] at e; cases e
  obtain ⟨p1, p2⟩ := tab_put rv (k := k) m rr
  refine ⟨x, ys, e1, a3, hl, ⟨⟨fun b u e => ?_, R.b.fx, ?_, fun pq hp => ?_, fun b u n t e => ?_, R.b.fF, R.b.fN, R.b.fT, R.b.ou⟩, by rw [List.length_set]; exact R.len, fun j ov s' e2 e3 => ?_, fun j l q xs zs e2 e3 e4 e5 => ?_⟩⟩
  · rw [upd_ne (hF' e)]; exact R.b.sub b u e
  · obtain ⟨ns, a, d, k, g, ⟨p1, p2, p3⟩, p4⟩ := R.b.pen
    refine ⟨ns, a, d, k, g, ⟨?_, by rw [upd_ne (hF' p4)]; exact p2, p3⟩, p4⟩
    rw [upd_ne fun z => no (by rw [← z]; exact .inl rfl)]; exact p1
  · obtain ⟨ps, q1, tr, hc⟩ := R.b.tab pq hp
    refine ⟨ps, by rw [upd_ne fun z => no (by rw [← z]; exact .inr ⟨_, hp⟩)]; exact q1, tr, fun pos cv hcv => ?_⟩
    obtain ⟨c', q2, q3⟩ := hc pos cv hcv
    refine ⟨c', q2, ?_⟩
    rw [upd_ne fun z => by rw [z, a3] at q3; cases q3]
    exact q3
  · rw [upd_ne fun z => by rw [z] at e; obtain ⟨ps, z'⟩ := a2 u e; exact t ps z']; exact R.b.fr b u n t e
  · by_cases hij : i = j
    · subst hij
      have h2 : i < env.length := by
        have := (List.getElem?_eq_some_iff.mp e3).1
        simpa using this
      rw [List.getElem?_set_self h2] at e3
      cases e3
      rw [e1] at e2
      cases e2
      exact ⟨x, _, rfl, a1, a2, upd_same, p1, p2⟩
    · rw [List.getElem?_set_ne hij] at e3
      have r2 := R.sl j ov s' e2 e3
      cases s' with
      | none => exact True.intro
      | some s' =>
        cases s' with
        | d y => exact r2
        | raw u => exact r2
        | exc p C' ds' => exact r2
        | obj C' ds' => exact r2
        | tab kvs' => exact r2
        | own xs =>
          obtain ⟨p, us, q1, b1, b2, b3, b4⟩ := r2
          exact ⟨p, us, q1, b1, b2, by rw [upd_ne fun z => by rw [z, a3] at b3; cases b3]; exact b3, b4⟩
        | slf y C' ds' =>
          obtain ⟨dx, fs, q1, b1, b2, b3, b4⟩ := r2
          exact ⟨dx, fs, q1, b1, b2, by rw [upd_ne fun z => by rw [z, a3] at b3; cases b3]; exact b3, b4⟩
        | ownT kvs' => exact absurd (show (env.set i none)[j]? = _ by rw [List.getElem?_set_ne hij]; exact e3) (noT_at hn)
  · have n1 : i ≠ j := fun z => by
      subst z
      rw [List.getElem?_set_self (by have := (List.getElem?_eq_some_iff.mp e2).1; simpa using this)] at e2
      cases e2
    have n2 : i ≠ l := fun z => by
      subst z
      rw [List.getElem?_set_self (by have := (List.getElem?_eq_some_iff.mp e3).1; simpa using this)] at e3
      cases e3
    rw [List.getElem?_set_ne n1] at e2
    rw [List.getElem?_set_ne n2] at e3
    exact R.sep j l q xs zs e2 e3 e4 e5
/-- the dict is shown -/
theorem Rel.showT (R : Rel c H0 F0 env F σ H) {i : Nat} {kvs : Tab} (hs : nth env i = some (.ownT kvs)) (hn : noT (env.set i none) = true) : ∃ F', Rel c H0 F0 (env.set i (some (.tab kvs))) F' σ H ∧ Same F F' := by
  obtain ⟨ov, e1, x, ys, rfl, a1, a2, a3, m, rr⟩ := R.get (nth_eq _ _ hs)
  have k : Same F (upd F x (.dT ys)) := same_upd a1
  have R1 : Rel c H0 F0 (env.set i none) F σ H := by
    have := R.any i (some (.ref x))
    have es : σ.set i (some (V.ref x)) = σ := by
      exact List.ext_getElem? fun j => by
        by_cases hj : i = j
        · subst hj
          rw [List.getElem?_set_self (List.getElem?_eq_some_iff.mp e1).1, e1]
        · rw [List.getElem?_set_ne hj]
    rwa [es] at this
  have B := R.b.freezeO .t a3 a1 a2
  have R2 : Rel c H0 F0 (env.set i none) (upd F x (.dT ys)) σ H := ⟨B, R1.len, fun j ov s' e2 e3 => by
    have r2 := R1.sl j ov s' e2 e3
    cases s' with
    | none => exact True.intro
    | some s' =>
      cases s' with
      | d y => exact ⟨r2.choose, r2.choose_spec.1, r2.choose_spec.2.same k⟩
      | raw u => exact r2
      | exc p C' ds' => exact ⟨r2.1, r2.2.same k⟩
      | obj C' ds' => exact ⟨r2.choose, r2.choose_spec.1, r2.choose_spec.2.same k⟩
      | tab kvs' => exact ⟨r2.choose, r2.choose_spec.1, r2.choose_spec.2.same k⟩
      | own xs =>
        obtain ⟨p, us, q1, b1, b2, b3, b4⟩ := r2
        exact ⟨p, us, q1, by rw [upd_ne fun z => by rw [z, a3] at b3; cases b3]; exact b1, b2, b3, b4.same k⟩
      | slf y C' ds' =>
        obtain ⟨dx, fs, q1, b1, b2, b3, b4, b5⟩ := r2
        exact ⟨dx, fs, q1, by rw [upd_ne fun z => by rw [z, a3] at b3; cases b3]; exact b1, b2, b3, b4, b5.same k⟩
      | ownT kvs' => exact absurd e3 (noT_at hn), R1.sep⟩
  have R3 := R2.put1 i (v := .ref x) (s := .tab kvs) ⟨x, rfl, ys, upd_same, m, rr.same k⟩ fun xs z => by cases z
  have es : σ.set i (some (V.ref x)) = σ := by
    exact List.ext_getElem? fun j => by
      by_cases hj : i = j
      · subst hj
        rw [List.getElem?_set_self (List.getElem?_eq_some_iff.mp e1).1, e1]
      · rw [List.getElem?_set_ne hj]
  rw [es, List.set_set] at R3
  exact ⟨_, R3, k⟩
end
/-! #### statements -/
section
variable {X : Cx} {c : Cc} {W : WX}
def psNewT (i : Nat) : PTS := fun P env => P.nx (env.set i (some (.ownT [])))
theorem pus_newT {i : Nat} {x : Str} {p pos pos' : Pos} (hN : X.N.Nodup) (hi : X.N[i]? = some x := by rfl) (hx : Loc X.env.scope x := by first | exact .inl rfl | exact .inr rfl) (hs : swapsWith (.Dict [] [] p) (some (.Name x pos')) pos.line X.env = pure false := by rfl)
    (hf : X.fn x = true ∨ X.env.scope.names.lookup x = some .local := by first | exact .inl rfl | exact .inr rfl | assumption) : PuS X c W (.Assign [.Name x pos'] (.Dict [] [] p) pos) (psNewT i) :=
  ⟨_, ps_set hN hi hx pe_dnewT hs hf, fun H0 F0 env F σ H D P J L h p hp => L.nx _ F _ _ (J.newT hp i) (same_refl F) h⟩
/-- x[k] = e, x one's own -/
def psPutT (i : Nat) (pk pv : PTE) : PTS := fun P env => match nth env i with
  | some (.ownT kvs) => pv env (fun s => match s with
    | .d d => pk env (fun t => ∃ k : List Key, t = .d (keyD k) ∧ kvs.length ≤ 1000 ∧ noT (env.set i none) = true ∧ P.nx (env.set i (some (.ownT (putT kvs k d))))) P.ex
    | _ => False) P.ex
  | _ => False
theorem pus_putT (i : Nat) {x : Str} {e v : Expr} {p2 p3 pos : Pos} {pk pv' : PTE} (hu : X.A.units + 1 < cLine) (hk : PuE X c W e pk) (hv' : PuE X c W v pv') (hN : X.N[i]? = some x := by rfl) (hv : Vis X.env.scope x := by first | exact Or.inl rfl | exact Or.inr (Or.inl rfl) | exact Or.inr (Or.inr rfl)) (hd : (x == ("__debug__" : Str)) = false := by decide) (hcd : (x == ("__classdict__" : Str)) = false := by decide)
    (hs : swapsWith v (some (.Subscript (.Name x p2) e p3)) pos.line X.env = pure false := by rfl) : PuS X c W (.Assign [.Subscript (.Name x p2) e p3] v pos) (psPutT i pk pv') := by
  obtain ⟨tk, hk, rk⟩ := hk
  obtain ⟨tv, hv', rv⟩ := hv'
  refine ⟨_, ps_dput hu (pv i hN hv hd hcd) hk hv' hs, fun H0 F0 env F σ H D P J L h => ?_⟩
  unfold psPutT at h
  split at h
  · rename_i kvs hn
    refine rv _ _ _ _ _ _ _ _ _ J L.ex h fun w s F1 H1 J1 k1 r1 h1 => ?_
    split at h1
    · rename_i d
      obtain ⟨ov, e1, q, ys, rfl, _, _, _, _, _⟩ := J1.get (nth_eq _ _ hn)
      refine ⟨.ref q, e1, rk _ _ _ _ _ _ _ _ _ J1 L.ex h1 fun u t F2 H2 J2 k2 r2 h2 => ?_⟩
      obtain ⟨k, rfl, hl, hno, h2⟩ := h2
      obtain ⟨q', ys', e1', hq', hl', J3⟩ := J2.putT (k := k) hn hno (r1.same k2)
      rw [e1] at e1'
      cases e1'
      cases r2 with
      | @tup b xs _ eb rb =>
        rw [key_of rb] at eb
        refine ⟨q, _, rfl, DPut.t hq' (J2.b.sub _ _ eb) (by rw [hl', sizeLine_eq]; omega), ?_⟩
        exact L.nx _ F2 _ _ J3 (same_trans k1 k2) h2
    · exact h1.elim
  · exact h.elim
/-- from here on the dict in the slot is shown -/
def psShowT (i : Nat) (p : PTS) : PTS := fun P env => match nth env i with
  | some (.ownT kvs) => noT (env.set i none) = true ∧ p P (env.set i (some (.tab kvs)))
  | _ => False
theorem pus_showT {sts : List Stmt} {p : PTS} (i : Nat) (h : PuSs X c W sts p) : PuSs X c W sts (psShowT i p) := by
  obtain ⟨t, ht, r⟩ := h
  refine ⟨t, ht, fun H0 F0 env F σ H D P J L h => ?_⟩
  unfold psShowT at h
  split at h
  · rename_i kvs hn
    obtain ⟨F', J', k⟩ := J.showT hn h.1
    exact r _ _ _ _ _ _ D P J' (L.with k) h.2
  · exact h.elim
/-- x[k], x shown -/
def pIxT (i : Nat) (pk : PTE) : PTE := fun env R E => match nth env i with
  | some (.tab kvs) => pk env (fun s => ∃ k d, s = .d (keyD k) ∧ getT kvs k = some d ∧ R (.d d)) E
  | _ => False
theorem pu_ixT (i : Nat) {x : Str} {b : Expr} {p2 pos : Pos} {pa : PTE} (hu : X.A.units + 1 < cLine) (hb : PuE X c W b pa) (hN : X.N[i]? = some x := by rfl) (hv : Vis X.env.scope x := by first | exact Or.inl rfl | exact Or.inr (Or.inl rfl) | exact Or.inr (Or.inr rfl)) (hd : (x == ("__debug__" : Str)) = false := by decide) (hcd : (x == ("__classdict__" : Str)) = false := by decide)
    (hs : NoSl b := by exact fun _ _ => rfl) : PuE X c W (.Subscript (.Name x p2) b pos) (pIxT i pa) := by
  obtain ⟨tb, hb, rb⟩ := hb
  refine ⟨_, pe_dget hu (pv i hN hv hd hcd) hb hs, fun H0 F0 env F σ H R E Q J L hp fin => ?_⟩
  unfold pIxT at hp
  split at hp
  · rename_i kvs hn
    obtain ⟨ov, e1, q, rfl, ys, hq, m, rr⟩ := J.get (nth_eq _ _ hn)
    refine ⟨.ref q, e1, rb _ _ _ _ _ _ _ _ _ J L hp fun u t F2 H2 J2 k2 r2 h2 => ?_⟩
    obtain ⟨k, d, rfl, hg, h2⟩ := h2
    obtain ⟨v, hv, rv⟩ := tab_get m rr hg
    cases r2 with
    | @tup b xs _ eb rb =>
      rw [key_of rb] at eb
      have g := DGet.t (J2.b.sub _ _ (k2 _ _ hq)) (J2.b.sub _ _ eb)
      rw [hv] at g
      exact ⟨q, v, rfl, g, fin v (.d d) F2 H2 J2 k2 (rv.same k2) h2⟩
  · exact hp.elim
end
/-! #### sorted of it -/
def intV : V → Int
  | .int i => i
  | _ => 0
def tupOf (H : Hp) (b : Addr) : List Int := match H b with
  | some (.tup xs) => xs.map intV
  | _ => []
theorem tupOf_eq {H : Hp} {b : Addr} {ns : List Int} (h : H b = some (.tup (ns.map V.int))) : tupOf H b = ns := by
  unfold tupOf
  rw [h]
  show (ns.map V.int).map intV = ns
  rw [List.map_map]
  exact (List.map_congr_left fun i _ => rfl).trans (List.map_id ns)
def rSortDT (d : Nat) (B : Int) : List V → Hp → VK → Prop := fun vs H Q => ∃ (a : Addr) (kvs : List (List Key × V)) (nss : List (List Int)), vs = [V.ref a] ∧ H a = some (.dT kvs) ∧ kvs.map (·.1) = nss.map (·.map Sum.inl) ∧ nss.length < 64 ∧ (∀ ns ∈ nss, ns.length = d ∧ TS.Bd B ns) ∧
  ∀ (bs : List Addr) (out : List (List Int)) (p : Addr), out.Perm nss → out.Pairwise (fun a b => TS.code B a ≤ TS.code B b) → Paired (fun b ns => H b = some (.tup (ns.map V.int))) bs out → H p = none → Q (.ref p) (upd H p (.lst (bs.map V.ref)))
theorem keys_nss {H : Hp} : ∀ {kvs : List (List Key × V)} {ks : List (List Key × Addr × Value)} {nss : List (List Int)}, KT H kvs ks → kvs.map (·.1) = nss.map (·.map Sum.inl) → Paired (fun b ns => H b = some (.tup (ns.map V.int))) (ks.map fun x => x.2.1) nss
  | _, _, [], .nil, _ => .nil
  | _, _, _ :: _, .nil, m => by cases m
  | _, _, [], .cons _ _, m => by cases m
  | _, _, ns :: nss, .cons h t, m => by
    simp only [List.map_cons, List.cons.injEq] at m
    refine .cons ?_ (keys_nss t m.2)
    have e := h.2.1
    rw [m.1, List.map_map] at e
    exact e
theorem paired_tup {H : Hp} : ∀ {bs : List Addr} {nss : List (List Int)}, Paired (fun b ns => H b = some (.tup (ns.map V.int))) bs nss → nss = bs.map (tupOf H) ∧ ∀ b ∈ bs, H b = some (.tup ((tupOf H b).map V.int))
  | _, _, .nil => ⟨rfl, fun b hb => by cases hb⟩
  | _, _, .cons h t => by
    obtain ⟨h1, h2⟩ := paired_tup t
    have e := tupOf_eq h
    refine ⟨by rw [List.map_cons, ← h1, e], fun b hb => ?_⟩
    rcases List.mem_cons.mp hb with rfl | hb
    · rw [e]; exact h
    · exact h2 b hb
theorem paired_of {H : Hp} : ∀ {bs : List Addr}, (∀ b ∈ bs, H b = some (.tup ((tupOf H b).map V.int))) → Paired (fun b ns => H b = some (.tup (ns.map V.int))) bs (bs.map (tupOf H))
  | [], _ => .nil
  | b :: bs, h => .cons (h b List.mem_cons_self) (paired_of fun x hx => h x (List.mem_cons_of_mem _ hx))
def adOf : Value → Addr
  | .ref a => a
  | _ => 0
theorem cr_sortDT {X : Cx} {d : Nat} {B : Int} (hd : 1 ≤ d) (hc : X.calm = true) : CallR X (.builtin "sorted") (rSortDT d B) := by
  intro pins s σ H xs us Q I r q
  obtain ⟨a, kvs, nss, ex, hk, hks, h64, hb, q⟩ := q
  subst ex
  obtain ⟨u, rfl, rx⟩ := r.one
  cases rx
  obtain ⟨z, hs, ks, pr, o, es, ep, ho, hx, hdt, he, hn⟩ := (show ObjOk X.prog X.w H s.heap a (.dT kvs) from I.hok a _ hk)
  have l1 : es.size = ks.length := size_of_entries he
  have l2 : kvs.length = ks.length := Paired.length pr
  have P0 := keys_nss pr hks
  obtain ⟨en, htup⟩ := paired_tup P0
  have l3 : ks.length = nss.length := by
    have := congrArg List.length en
    simpa using this.symm
  refine Calls.call_function_entry PyProof.Rows.kind_sorted PyProof.Rows.plain_sorted PyProof.Rows.entry_sorted (PyProof.Rows.args_sorted1 _) ?_
  unfold Builtin.«sorted»
  refine wpAny_bind (m := checkCount "sorted" 1 1 _) (wpAny_pure ?_)
  refine wpAny_bind (PySem.W.kdu_collect (A := X.A.in1) (kdl_raw hs hx hdt) (I.ok.hd hc) ho (by rw [sizeLine_eq]; omega) fun h' tk acc' kp it => ?_)
  have ea : acc'.toList = (ks.map fun x => x.2.1).map Value.ref := by
    have hl : acc'.toList.length = ks.length := by rw [Array.length_toList, it.1]; exact l1
    apply List.ext_getElem?
    intro j
    rw [List.map_map, List.getElem?_map]
    cases hj : acc'.toList[j]? with
    | none =>
      have h1 := List.getElem?_eq_none_iff.mp hj
      rw [List.getElem?_eq_none (by omega)]
      all_goals rfl
    | some v =>
      obtain ⟨en, hen, hv⟩ := it.2 j v (by rw [← Array.getElem?_toList]; exact hj)
      have qe := entry_at he j
      rw [hen] at qe
      cases hb : ks[j]? with
      | none =>
        rw [hb] at qe
        exact nomatch (show some en = none from qe)
      | some b =>
        rw [hb] at qe
        have e2 : en = entryOfKey (tupleKind (mixKind X.prog X.w)) b := Option.some.inj qe
        rw [hv, e2]
        all_goals rfl
  have I1 : Inv X pins σ H { s with heap := h', toks := tk } := I.kept kp
  have hal : acc'.toList.length = nss.length := by rw [ea, List.length_map, List.length_map]; exact l3
  refine wpAny_bind (wpAny_newList ?_ (by rw [hal, sizeLine_eq]; omega))
  have hoL : (h'.push (seqObj "list" acc'.toList.toArray 0)).get? h'.objs.size = some (seqObj "list" acc'.toList.toArray 0) := Heap.get?_push_size _ rfl
  show wpAny _ _ _ _ _ { s with heap := h'.push (seqObj "list" acc'.toList.toArray 0), toks := tk }
  have tin : ∀ v ∈ acc'.toList, ∃ b, v = .ref b ∧ b ∈ (ks.map fun x => x.2.1) ∧ TS.TupInts (h'.push (seqObj "list" acc'.toList.toArray 0)) v (tupOf H b) := fun v hv => by
    rw [ea] at hv
    obtain ⟨b, hb', rfl⟩ := List.mem_map.mp hv
    refine ⟨b, rfl, hb', ?_⟩
    have t := tupI_raw I1 (t := b) (ns := tupOf H b) (sqT (htup b hb'))
    exact t.keeps fun b o e _ => Heap.get?_push_of_some _ e
  have tok : TS.TupsOk (h'.push (seqObj "list" acc'.toList.toArray 0)) d B acc'.toList := fun v hv => by
    obtain ⟨b, rfl, hb', t⟩ := tin v hv
    obtain ⟨g1, g2⟩ := hb (tupOf H b) (by rw [en]; exact List.mem_map.mpr ⟨b, hb', rfl⟩)
    exact ⟨_, t, g1, g2⟩
  refine wpAny_bind (wpAny_holding (wpAny_call_entry PyProof.Rows.slot_list_sort ⟨_, hoL, rfl⟩ PyProof.Rows.entry_list_sort
    (TS.sort_tups (s := { s with heap := h'.push (seqObj "list" acc'.toList.toArray 0), toks := tk }) hoL (by rw [hal]; exact h64) hd tok (fun v => TS.code B (tupOf H (adOf v))) (fun v hv ns t => ?_) fun out g1 g2 => ⟨_, rfl, ?_⟩) (PyProof.Rows.args_list_sort _)))
  · obtain ⟨b, rfl, _, t'⟩ := tin v hv
    have : ns = tupOf H b := t.ints.symm.trans t'.ints
    rw [this]
    rfl
  obtain ⟨e', he'⟩ := PyProof.Rows.sortedHeap_at (vs := acc'.toList) (out := out) hoL
  have hbs : ∃ bs : List Addr, out.toList = bs.map Value.ref := ⟨out.toList.map adOf, by
    rw [List.map_map]
    refine ((List.map_congr_left fun v hv => ?_).trans (List.map_id _)).symm
    have := g1.mem_iff.mp hv
    rw [ea] at this
    obtain ⟨b, _, rfl⟩ := List.mem_map.mp this
    rfl⟩
  obtain ⟨bs, hbs⟩ := hbs
  rw [hbs, ea] at g1
  have gp : bs.Perm (ks.map fun x => x.2.1) := by
    have := g1.map adOf
    rw [List.map_map, List.map_map] at this
    have e1 : ∀ l : List Addr, l.map (adOf ∘ Value.ref) = l := fun l => (List.map_congr_left fun i _ => rfl).trans (List.map_id l)
    rw [e1, e1] at this
    exact this
  rw [hbs, List.pairwise_map] at g2
  have hlen : (bs.map V.ref).length ≤ sizeLine := by
    rw [List.length_map, gp.length_eq, List.length_map, sizeLine_eq]
    omega
  refine wpAny_pure ⟨_, rfl, .ref h'.objs.size, upd H h'.objs.size (.lst (bs.map V.ref)), I1.laid (t' := tk) (fun b u e => ?_) (Nat.le_refl _)
    (show ObjOk X.prog X.w _ _ _ (.lst (bs.map V.ref)) from ⟨hlen, out.toList, e', by rw [hbs]; exact vals_refs bs, by rw [Array.toArray_toList]; exact he'⟩), rfl, q bs (bs.map (tupOf H)) _ (by rw [en]; exact gp.map _) (by rw [List.pairwise_map]; exact g2) (paired_of fun b hb' => htup b (gp.mem_iff.mp hb')) (I1.hok.fresh (Nat.le_refl _))⟩
  have lt : b < h'.objs.size := Heap.lt_size e
  rw [PyProof.Rows.sortedHeap_old (Nat.ne_of_lt lt) (by rw [Heap.size_push]; exact Nat.lt_succ_of_lt lt)]
  exact Heap.get?_push_of_some _ e
def bSortT (d : Nat) (B : Int) : PB := fun ss R => ∃ (kvs : Tab) (nss : List (List Int)), ss = [.tab kvs] ∧ kvs.map (·.1) = nss.map (·.map Sum.inl) ∧ nss.length < 64 ∧ (∀ ns ∈ nss, ns.length = d ∧ TS.Bd B ns) ∧
  ∀ out : List (List Int), out.Perm nss → out.Pairwise (fun a b => TS.code B a ≤ TS.code B b) → R (.d (.list (out.map fun ns => .tuple (intsD ns))))
theorem rb_sortT {c : Cc} {d : Nat} {B : Int} : RB c (rSortDT d B) (bSortT d B) := by
  intro H0 F0 env F σ H vs ss R Q J r h fin
  obtain ⟨kvs, nss, rfl, hk, h64, hb, h⟩ := h
  cases r with
  | @cons v _ _ _ r1 r2 =>
    cases r2
    obtain ⟨x, rfl, ys, hx, m, rr⟩ := r1
    refine ⟨x, ys, nss, rfl, J.b.sub _ _ hx, m.trans hk, h64, hb, fun bs out p h1 h2 h3 hp => ?_⟩
    obtain ⟨F1, J1, k1, ra⟩ := Rel.adopts J h3
    have k2 : Same F1 (upd F1 p (.lst (bs.map V.ref))) := same_upd (J1.b.fnone hp)
    exact fin (.ref p) (.d _) _ _ (J1.alloc hp _) (same_trans k1 k2) (Rq.lst upd_same (ra.same k2)) (h out h1 h2)
end Px
namespace Px
open PySem PySem.Spec PyProof.Rows L2 Lx
/-! ### t * 0 -/
theorem tuple_mul0 (l : Addr) (items : Array Value) (n : Nat) (dd : Option Addr) (sl : Array (Option Value)) (u : Tok) (hi : items.isEmpty = false) :
    Meets (Builtin.«tuple.__mul__» ⟨[.ref l, .int 0 u], []⟩) (fun _ R s => s.heap.get? l = some { cls := .type "tuple", dict := dd, data := .seq items n, slots := sl } ∧
      R (.ok (.ret (Value.ref s.heap.objs.size))) { s with heap := s.heap.push { cls := Value.type "tuple", data := Data.seq #[] }, toks := s.toks }) :=
  .of_wp fun prog w A R s hh => by
    obtain ⟨hp, gs, dn, tk, os⟩ := s
    obtain ⟨hl, hh⟩ := hh
    have f1 := AutoSeq1.idx_int
    have c1 : (items.isEmpty || (0 : Int) == 1) = false := by rw [hi]; rfl
    wp_walk using wpAny_loadPart' hl
    repeat (first
      | (refine wpAny_ite_false (decide_eq_false (by rw [c1]; exact Bool.false_ne_true)) ?_; wp_walk using wpAny_loadPart' hl))
    exact ⟨_, rfl, hh⟩
def rRep0 (K : PySem.W.Frag) : R2 := fun x y H Q => ∃ l xs, x = .ref l ∧ y = .int 0 ∧ SqT K H l xs ∧ xs ≠ [] ∧ ∀ p, H p = none → Q (.ref p) (upd H p (.tup []))
theorem op_rep0 {X : Cx} : OpR X (binaryOp .Mult) (rRep0 X.K) := by
  intro pins s σ H x y v u Q I rx ry h
  obtain ⟨l, xs, rfl, rfl, hT, hne, q⟩ := h
  cases rx
  obtain ⟨t, rfl⟩ := ry
  obtain ⟨its, r, ⟨⟨cls, dd, data, sl⟩, ho, hc, n, hd⟩, hs⟩ := I.tuple hT
  simp only at hc hd
  subst hc hd
  have hn : its ≠ [] := fun e => hne (by
    have := r.length
    rw [e] at this
    exact List.eq_nil_of_length_eq_zero this)
  have hi : its.toArray.isEmpty = false := by
    cases its with
    | nil => exact absurd rfl hn
    | cons a b => rfl
  refine wpAny_binaryOp_repeat_ref (T := "tuple") (U := "int") (by decide) ⟨_, ho, rfl⟩ (fun s' => typeIs_int s' 0 t) noFill_tuple_mul F.fills_int_mul F.slot_int_rmul repeat_tuple F.slot_int_index.lookup
    (call_meets F.slot_int_rmul (typeIs_int s 0 t) F.entry_int_rmul (F.args_int_rmul_2 _ _) (int_rmul_tuple 0 t l its.toArray n dd sl)
      ⟨ho, rfl, ⟨_, ho, rfl⟩, call_meets F.slot_tuple_mul ⟨_, ho, rfl⟩ F.entry_tuple_mul (F.args_tuple_mul_2 _ _) (tuple_mul0 l its.toArray n dd sl t hi) ⟨ho, ?_⟩⟩)
  refine ⟨.ref s.heap.objs.size, upd H s.heap.objs.size (.tup []), I.laid (t' := s.toks) (fun b o e => Heap.get?_push_of_some _ e) (Nat.le_refl _) (show ObjOk X.prog X.w _ _ _ (.tup []) from ⟨by decide, [], .nil, ?_⟩), rfl, q _ (I.hok.fresh (Nat.le_refl _))⟩
  exact IsTup.new _ _
/-- a tuple so many times, from 0 on -/
def oRepZ : POp := fun x y R => match x, y with
  | .d (.tuple ds), .d (.int k) => 0 ≤ k ∧ k ≤ 1000 ∧ ds ≠ [] ∧ ds.length ≤ 1000 ∧ R (.d (.tuple (repD k.toNat ds)))
  | _, _ => False
def rRepZ (K : PySem.W.Frag) : R2 := fun x y H Q => rRep0 K x y H Q ∨ rRepA K x y H Q
theorem op_repZ {X : Cx} : OpR X (binaryOp .Mult) (rRepZ X.K) := op_rep0.or op_repA
theorem ro_repZ {c : Cc} {K : PySem.W.Frag} : ROp c (rRepZ K) oRepZ := by
  intro H0 F0 env F σ H x y sx sy R Q J rx ry hp fin
  unfold oRepZ at hp
  split at hp
  · rename_i ds k
    obtain ⟨h1, h2, h3, h4, hp⟩ := hp
    by_cases hk : k = 0
    · subst hk
      cases ry
      cases rx with
      | @tup a xs _ e rr =>
        have hne : xs ≠ [] := fun z => h3 (List.eq_nil_of_length_eq_zero (by rw [← rr.len, z]; rfl))
        refine .inl ⟨a, xs, rfl, rfl, sqT (J.b.sub _ _ e), hne, fun p hn => ?_⟩
        have k2 : Same F (upd F p (.tup [])) := same_upd (J.b.fnone hn)
        exact fin (.ref p) (.d (.tuple [])) _ _ (J.alloc hn _) k2 (Rq.tup upd_same .nil) hp
    · exact .inr (ro_rep _ _ _ _ _ _ _ _ _ _ R Q J rx ry (show oRep _ _ _ from ⟨by omega, h2, h3, h4, hp⟩) fin)
  · exact hp.elim
end Px
namespace Px
open PySem PySem.Spec PyProof.Rows L2 Lx
def rSortDA : List V → Hp → VK → Prop := fun vs H Q => ∃ (d : Nat) (B : Int), 1 ≤ d ∧ rSortDT d B vs H Q
theorem cr_sortDA {X : Cx} (hc : X.calm = true) : CallR X (.builtin "sorted") rSortDA := by
  intro pins s σ H xs us Q I r ⟨d, B, hd, q⟩
  exact cr_sortDT hd hc pins s σ H xs us Q I r q
def bSortA : PB := fun ss R => ∃ (d : Nat) (B : Int), 1 ≤ d ∧ bSortT d B ss R
theorem rb_sortA {c : Cc} : RB c rSortDA bSortA := by
  intro H0 F0 env F σ H vs ss R Q J r ⟨d, B, hd, h⟩ fin
  exact ⟨d, B, hd, rb_sortT _ _ _ _ _ _ _ _ R Q J r h fin⟩
/-! ### data of ints and tuples: == tells them apart -/
mutual
def itB : PyData → Bool
  | .int _ => true
  | .tuple l => itBs l
  | _ => false
def itBs : List PyData → Bool
  | [] => true
  | d :: l => itB d && itBs l
end
mutual
theorem eqv_it : ∀ (a b : PyData), itB a = true → itB b = true → PyData.eqv a b = true → a = b
  | .int i, .int j, _, _, h => by rw [eqv_int] at h; rw [beq_iff_eq.mp h]
  | .tuple l, .tuple m, ha, hb, h => by
    unfold itB at ha hb
    have h : PyData.eqvAll l m = true := by simpa [PyData.eqv] using h
    rw [eqv_its l m ha hb h]
  | .int _, .tuple _, _, _, h => by simp [PyData.eqv] at h
  | .tuple _, .int _, _, _, h => by simp [PyData.eqv] at h
  | .none, _, h, _, _ => by simp [itB] at h
  | .bool _, _, h, _, _ => by simp [itB] at h
  | .str _, _, h, _, _ => by simp [itB] at h
  | .list _, _, h, _, _ => by simp [itB] at h
  | .dict _, _, h, _, _ => by simp [itB] at h
  | .int _, .none, _, h, _ => by simp [itB] at h
  | .int _, .bool _, _, h, _ => by simp [itB] at h
  | .int _, .str _, _, h, _ => by simp [itB] at h
  | .int _, .list _, _, h, _ => by simp [itB] at h
  | .int _, .dict _, _, h, _ => by simp [itB] at h
  | .tuple _, .none, _, h, _ => by simp [itB] at h
  | .tuple _, .bool _, _, h, _ => by simp [itB] at h
  | .tuple _, .str _, _, h, _ => by simp [itB] at h
  | .tuple _, .list _, _, h, _ => by simp [itB] at h
  | .tuple _, .dict _, _, h, _ => by simp [itB] at h
theorem eqv_its : ∀ (l m : List PyData), itBs l = true → itBs m = true → PyData.eqvAll l m = true → l = m
  | [], [], _, _, _ => rfl
  | [], _ :: _, _, _, h => by simp [PyData.eqvAll] at h
  | _ :: _, [], _, _, h => by simp [PyData.eqvAll] at h
  | a :: l, b :: m, ha, hb, h => by
    unfold itBs at ha hb
    simp only [Bool.and_eq_true] at ha hb
    have h : PyData.eqv a b = true ∧ PyData.eqvAll l m = true := by simpa [PyData.eqvAll] using h
    rw [eqv_it a b ha.1 hb.1 h.1, eqv_its l m ha.2 hb.2 h.2]
end
theorem itB_rat (q : Rat) : itB (ratD q) = true := by
  unfold ratD
  split <;> rfl
theorem itBs_map {α : Type} {f : α → PyData} : ∀ {l : List α}, (∀ x ∈ l, itB (f x) = true) → itBs (l.map f) = true
  | [], _ => rfl
  | x :: l, h => by
    rw [List.map_cons]
    unfold itBs
    rw [h x List.mem_cons_self, itBs_map fun y hy => h y (List.mem_cons_of_mem _ hy)]
    rfl
end Px
namespace Px
open PySem PySem.Spec PyProof.Rows L2 Lx
/-! ### sequences of either kind -/
theorem bLen_i {x : PyData} {l : List PyData} {R : Sl → Prop} (h : seqD x = some l) (hR : R (.d (.int (l.length : Nat)))) : bLen [.d x] R := by
  cases x <;> simp [seqD] at h <;> (subst h; exact hR)
theorem oIx_i {x d : PyData} {l : List PyData} {k : Int} {R : Sl → Prop} (h : seqD x = some l) (hk : atI l k = some d) (hR : R (.d d)) : oIx (.d x) (.d (.int k)) R := by
  cases x <;> simp [seqD] at h <;> (subst h; exact ⟨d, hk, hR⟩)
theorem iS_i {pa : PTE} {env : Ev} {x : PyData} {l : List PyData} {R : List PyData → Prop} {E : XP} (h : seqD x = some l) (h1 : ∀ R : Sl → Prop, R (.d x) → pa env R E) (hR : R l) : Px.iS pa env R E := by
  unfold Px.iS
  refine h1 _ ?_
  cases x <;> simp [seqD] at h <;> (subst h; exact hR)
theorem bTuple_i {x : PyData} {l : List PyData} {R : Sl → Prop} (h : seqD x = some l) (hR : R (.d (.tuple l))) : bTuple [.d x] R := by
  cases x <;> simp [seqD] at h <;> (subst h; exact hR)
theorem seq_ty {x : PyData} : (isTy "list" x || isTy "tuple" x) = (seqD x).isSome := by cases x <;> simp [isTy, tyN, seqD]
theorem seq_or {x : PyData} {l : List PyData} (h : seqD x = some l) : x = .list l ∨ x = .tuple l := by
  cases x <;> simp [seqD] at h <;> subst h
  · exact .inl rfl
  · exact .inr rfl
theorem or_cases (x y : Bool) {t t' : PTT} {env : Ev} {R : Bool → Prop} {E : XP} (h1 : ∀ R : Bool → Prop, R x → t env R E) (h2 : x = false → ∀ R : Bool → Prop, R y → t' env R E) (h : R (x || y)) : ptOr t t' env R E := or_two x y h1 h2 h
theorem for_nil {g : PTG} {B : PTS} {P : PD} {env : Ev} (h : P.nx env) : pForL g B [] P env := h
theorem for_one {g : PTG} {B : PTS} {P : PD} {env : Ev} {d : PyData} (h : g (.d d) env fun env' => B { P with nx := P.nx, ct := P.nx, bk := P.nx } env') : pForL g B [d] P env := h
end Px
namespace Px
open PySem PySem.Spec PyProof.Rows L2 Lx
section
variable {i : Nat} {k : Int} {env : Ev} {x d : PyData} {l : List PyData} {R : Sl → Prop} {E : XP} {Rb : Bool → Prop} {A : PTE}
theorem len_i (hn : Px.nth env i = some (.d x)) (h : seqD x = some l) (hR : R (.d (.int (l.length : Nat)))) : pB bLen (pCons (pVar i) pNil) env R E := by
  simp only [pB, pCons, pVar, hn, pNil]
  exact bLen_i h hR
theorem ix_i (hn : Px.nth env i = some (.d x)) (h : seqD x = some l) (hk : atI l k = some d) (hR : R (.d d)) : pOp oIx (pVar i) (pC (.d (.int k))) env R E := by
  simp only [pOp, pVar, hn, pC]
  exact oIx_i h hk hR
theorem len_of {e : PyData} {es : List PyData} (h1 : ∀ R : Sl → Prop, R (.d e) → A env R E) (h : seqD e = some es) (hR : R (.d (.int (es.length : Nat)))) : pB bLen (pCons A pNil) env R E := by
  simp only [pB, pCons, pNil]
  exact h1 _ (bLen_i h hR)
theorem tne_i {a b : Int} (h1 : ∀ R : Sl → Prop, R (.d (.int a)) → A env R E) (h : Rb (!(a == b))) : ptB (pOp oNe A (pC (.d (.int b)))) env Rb E := by
  refine tB_i _ (fun R hR => ?_) h
  unfold pOp
  refine h1 _ ?_
  show _ ∧ _ ∧ _
  exact ⟨rfl, rfl, by rw [eqv_int]; exact hR⟩
theorem tneV_i {a b : Int} {B : PTE} (h1 : ∀ R : Sl → Prop, R (.d (.int a)) → A env R E) (h2 : ∀ R : Sl → Prop, R (.d (.int b)) → B env R E) (h : Rb (!(a == b))) : ptB (pOp oNe A B) env Rb E := by
  refine tB_i _ (fun R hR => ?_) h
  unfold pOp
  refine h1 _ (h2 _ ?_)
  show _ ∧ _ ∧ _
  exact ⟨rfl, rfl, by rw [eqv_int]; exact hR⟩
theorem call1_i {n : Nat} {sp : PSp} {s : Sl} (h1 : ∀ R : Sl → Prop, R s → A env R E) (h : ([s] : List Sl).length = n ∧ sp [s] R (E env)) : pCalln n sp (pCons A pNil) env R E := by
  simp only [pCalln, pCons, pNil]
  exact h1 _ h
end
end Px
namespace Px
open PySem PySem.Spec PyProof.Rows L2 Lx
theorem or_f {t t' : PTT} {env : Ev} {R : Bool → Prop} {E : XP} (y : Bool) (h1 : ∀ R : Bool → Prop, R false → t env R E) (h2 : ∀ R : Bool → Prop, R y → t' env R E) (h : R y) : ptOr t t' env R E := or_two false y h1 (fun _ => h2) h
end Px
namespace K38
open PySem PySem.Spec PyProof.Rows L2 Lx Px
local macro_rules | `(tactic| walk_at "pv") => `(tactic| simp only [psSeq, psSet, psPar, psIf, psRet, psDrop, psCont, psNext, psAsg, psFor, psRaise, pVar, Px.nth, pC, pOp, pUn, oI, oI0, uI, oAdd, oEq, oEqE, eqv_rat0, List.isEmpty_nil, List.isEmpty_cons, oNe, oIs, oNis, oIx, pNil, pCons, allD, pTup, pLst, pDisp0, bOf, ptB, ptAnd, ptOr, ptNot, pIf, pAndV, pOrV, pNotV, pCalln, pB, bInt, bAbs, bGcd, bLen, bList, bTuple, bRepr, bAll, uIsi, uIsi2, pgName, pgNil, pgCons, pgTup, Px.iR1, Px.iR2, Px.iS, Px.iZip, iZipU, pSl, pNo, pSome, pLc, pYes, noOwn, noOwn1, wipeE, pdOf, startP, List.set, List.map, List.append, List.cons_append, List.nil_append, List.length_cons, List.length_nil, List.replicate, Nat.reduceAdd, Nat.reduceSub, List.getElem?_cons_zero, List.getElem?_cons_succ, isNone, isBool, oSub, oMul, oDiv, oMod, oPow, oLt, oLe, oGt, oGe, at_0, at_1, okE_int, okE_bool, okE_none, okE_rat, eqv_int, eqv_ti, isTy_int_int, isTy_int_tup, isTy_tup_tup, isTy_tup_int, isTy_bool_int, true_and, and_true, beq_iff_eq, decide_eq_true_eq, decide_eq_false_iff_not, beq_eq_false_iff_ne, Bool.not_true, Bool.not_false, Bool.not_eq_true', Bool.not_eq_false', Nat.reduceLeDiff, Option.some.injEq, exists_eq_left', exists_eq_left, forall_const, true_imp_iff, Bool.false_eq_true, Bool.true_eq_false, false_imp_iff, reduceCtorEq])
local macro_rules | `(tactic| walk_at "pvs") => `(tactic| simp [isTy, tyN, at_0, at_1, okE_int, okE_bool, okE_none, eqv_int, oLt, oLe, oGt, oGe, oSub, oMul, oDiv, oMod, oI, oI0])

def topS (i : Nat) : Stmt := PySem.Challenge.pw_fracsteps_k38_whole_movings_and_their_wo.main.body.getD i (.Pass ⟨0, 0, 0, 0⟩)
structure Blt (mg : Str → Option Value) : Prop where
  b_int : mg "int" = none
  b_bool : mg "bool" = none
  b_str : mg "str" = none
  b_list : mg "list" = none
  b_tuple : mg "tuple" = none
  b_len : mg "len" = none
  b_range : mg "range" = none
  b_repr : mg "repr" = none
  b_isinstance : mg "isinstance" = none
  b_abs : mg "abs" = none
  b_all : mg "all" = none
  b_zip : mg "zip" = none
  g_gcd : mg "gcd" = some (.builtin "math.gcd")

abbrev s_is_integer : Stmt := topS 20
theorem sc_is_integer : FnScope ["value"] ["value"] (defScope s_is_integer) := ⟨rfl, rfl, rfl, by decide +kernel, rfl, by decide +kernel, by decide +kernel⟩
abbrev s_is_ratio : Stmt := topS 21
theorem sc_is_ratio : FnScope ["value"] ["value"] (defScope s_is_ratio) := ⟨rfl, rfl, rfl, by decide +kernel, rfl, by decide +kernel, by decide +kernel⟩
abbrev s_pair : Stmt := topS 22
theorem sc_pair : FnScope ["number"] ["number"] (defScope s_pair) := ⟨rfl, rfl, rfl, by decide +kernel, rfl, by decide +kernel, by decide +kernel⟩
abbrev s_in_lowest : Stmt := topS 23
theorem sc_in_lowest : FnScope ["top", "bottom", "by"] ["top", "bottom"] (defScope s_in_lowest) := ⟨rfl, rfl, rfl, by decide +kernel, rfl, by decide +kernel, by decide +kernel⟩
abbrev s_added : Stmt := topS 24
theorem sc_added : FnScope ["one", "other", "top", "bottom", "high", "low"] ["one", "other"] (defScope s_added) := ⟨rfl, rfl, rfl, by decide +kernel, rfl, by decide +kernel, by decide +kernel⟩
abbrev s_multiplied : Stmt := topS 25
theorem sc_multiplied : FnScope ["one", "other", "top", "bottom", "high", "low"] ["one", "other"] (defScope s_multiplied) := ⟨rfl, rfl, rfl, by decide +kernel, rfl, by decide +kernel, by decide +kernel⟩
def spU (C : PyData → Prop) (f : PyData → PyData) : PSp := fun ss R _ => ∃ x, ss = [.d x] ∧ C x ∧ R (.d (f x))
def spIsInt : PSp := fun ss R _ => ∃ x, ss = [.d x] ∧ R (.d (.bool (isIntD x)))
def spIsRat : PSp := fun ss R _ => ∃ x, ss = [.d x] ∧ R (.d (.bool (isRat x)))
def spPair : PSp := fun ss R _ => ∃ q : Rat, ss = [.d (ratD q)] ∧ R (.d (.tuple [.int q.num, .int (q.den : Nat)]))
def spLow : PSp := fun ss R _ => ∃ a b, ss = [.d (.int a), .d (.int b)] ∧ b ≠ 0 ∧ Bn 9000 b ∧ R (.d (ratD (Rat.divInt a b)))
def spR1 (f : Rat → PyData) : PSp := fun ss R _ => ∃ p, ss = [.d (ratD p)] ∧ R (.d (f p))
def spR2 (C : Rat → Rat → Prop) (f : Rat → Rat → PyData) : PSp := fun ss R _ => ∃ p q, ss = [.d (ratD p), .d (ratD q)] ∧ Br 4000 p ∧ Br 4000 q ∧ C p q ∧ R (.d (f p q))
def fAdd (p q : Rat) : PyData := ratD (p + q)
def fMul (p q : Rat) : PyData := ratD (p * q)
def fDiv (p q : Rat) : PyData := ratD (Rat.divInt (p.num * (q.den : Nat)) ((p.den : Nat) * q.num))
def fNeg (q : Rat) : PyData := ratD (-q)
def fSgn (q : Rat) : PyData := .int q.num.sign
def fLt (p q : Rat) : PyData := .bool (decide (p.num * (q.den : Nat) < q.num * (p.den : Nat)))
def C0 (_ _ : Rat) : Prop := True

section
variable {P : Program} {w : World} {K : PySem.W.Frag} {mg : Str → Option Value} {base : Heap} {c : Cc}

theorem d_is_integer (F : Has K mg "is_integer" s_is_integer) (T : Blt mg)  : KpO P w K mg base c 1 "is_integer" ["value"] (spIsInt) := by
  refine keepO F (fun _ _ _ _ _ _ us hl => match us, hl with | [_], _ => rfl) sc_is_integer (fun f cdv A outer s H E hr => ⟨_, (pus_one (pus_ret (pu_and (pu_isi isi_int T.b_isinstance T.b_int (by decide +kernel) (pu_var 0)) (pu_one (pu_not (pu_isi isi_bool T.b_isinstance T.b_bool (by decide +kernel) (pu_var 0))))))), fun ss R EX hl h => ?_⟩)
  obtain ⟨x, rfl, h⟩ := h
  walk_at "pv"
  cases x <;> simp_all [isTy, tyN, isIntD]
theorem d_is_ratio (F : Has K mg "is_ratio" s_is_ratio) (T : Blt mg) (D_is_integer : KpO P w K mg base c 1 "is_integer" ["value"] (spIsInt)) : KpO P w K mg base c 2 "is_ratio" ["value"] (spIsRat) := by
  refine keepO F (fun _ _ _ _ _ _ us hl => match us, hl with | [_], _ => rfl) sc_is_ratio (fun f cdv A outer s H E hr => ⟨_, (pus_cons (pus_if (pt_not' (pt_val' (pu_isi isi_tuple T.b_isinstance T.b_tuple (by decide +kernel) (pu_var 0)))) (pus_one (pus_ret (pu_callO D_is_integer hr takesF (pa_cons' (pu_var 0) pa_nil')))) pus_nil)
    (pus_cons (pus_if (PuW.pt (pw_or' (pt_cmp' (op_neD (hu64 hr)) ro_ne (pu_callB c_len rb_len T.b_len PySem.boot_len (pa_cons' (pu_var 0) pa_nil')) pu_int) (pw_or' (pt_not' (pt_val' (pu_callO D_is_integer hr takesF (pa_cons' (pu_ix (pu_var 0) pu_int) pa_nil')))) (pw_or1' (pt_not' (pt_val' (pu_callO D_is_integer hr takesF (pa_cons' (pu_ix (pu_var 0) pu_int) pa_nil')))))))) (pus_one (pus_ret pu_bl)) pus_nil)
    (pus_one (pus_ret (pu_and (pu_cmp op_gt ro_gt (pu_ix (pu_var 0) pu_int) pu_int) (pu_one (pu_cmp (op_eqD (hu64 hr)) ro_eq (pu_callF cr_gcd rb_gcd T.g_gcd (pa_cons' (pu_ix (pu_var 0) pu_int) (pa_cons' (pu_ix (pu_var 0) pu_int) pa_nil'))) pu_int))))))), fun ss R EX hl h => ?_⟩)
  obtain ⟨x, rfl, h⟩ := h
  cases x with
  | tuple ds =>
    rcases ds with _ | ⟨a, _ | ⟨b, _ | ⟨c, l⟩⟩⟩
    · walk_at "pv"
      simpa [isRat] using h
    · walk_at "pv"
      simpa [isRat] using h
    · walk_at "pv"
      cases a <;> cases b <;> simp [isRat, spIsInt, isIntD, at_0, at_1, oI0, eqv_int, bOf, okE_int] at h ⊢ <;> try exact h
      rename_i i j
      refine ⟨fun z => ?_, fun z => ?_⟩
      · have e2 : (((i.natAbs.gcd j.natAbs : Nat) : Int) == 1) = (i.natAbs.gcd j.natAbs == 1) := by rw [Bool.eq_iff_iff]; simp only [beq_iff_eq]; omega
        rw [e2]
        simpa [z] using h
      · simpa [show ¬ 1 < j by omega] using h
    · walk_at "pv"
      have e : ¬ ((((l.length + 1 + 1 + 1 : Nat) : Int)) = 2) := by omega
      simp [isRat] at h
      have e3 : ¬ ((l.length : Int) + 1 + 1 + 1 = 2) := by omega
      simp [e, e3, h]
  | _ =>
    walk_at "pv"
    simpa [isTy, tyN, isRat, spIsInt, isIntD] using h
theorem d_pair (F : Has K mg "pair" s_pair) (T : Blt mg)  : KpO P w K mg base c 1 "pair" ["number"] (spPair) := by
  refine keepO F (fun _ _ _ _ _ _ us hl => match us, hl with | [_], _ => rfl) sc_pair (fun f cdv A outer s H E hr => ⟨_, (pus_one (pus_ret (pu_if (pt_val' (pu_isi isi_int T.b_isinstance T.b_int (by decide +kernel) (pu_var 0))) (pu_tup (pa_cons' (pu_var 0) (pa_cons' pu_int pa_nil'))) (pu_var 0)))), fun ss R EX hl h => ?_⟩)
  obtain ⟨q, rfl, h⟩ := h
  walk_at "pv"
  rcases ratD_or q with ⟨i, e, e1, e2⟩ | ⟨a, b, e, e1, e2, e3⟩
  · rw [e1, e2] at h
    rw [e]
    simpa [isTy, tyN] using h
  · rw [e1, e2] at h
    rw [e]
    simpa [isTy, tyN] using h
theorem d_in_lowest (F : Has K mg "in_lowest" s_in_lowest) (T : Blt mg)  : KpO P w K mg base c 1 "in_lowest" ["top", "bottom"] (spLow) := by
  refine keepO F (fun _ _ _ _ _ _ us hl => match us, hl with | [_, _], _ => rfl) sc_in_lowest (fun f cdv A outer s H E hr => ⟨_, (pus_cons (pus_set (i := 2) sc_in_lowest.nd (pu_if (pt_cmp' op_gt ro_gt (pu_var 1) pu_int) (pu_callF cr_gcd rb_gcd T.g_gcd (pa_cons' (pu_var 0) (pa_cons' (pu_var 1) pa_nil'))) (pu_neg (pu_callF cr_gcd rb_gcd T.g_gcd (pa_cons' (pu_var 0) (pa_cons' (pu_var 1) pa_nil'))))))
    (pus_one (pus_ret (pu_if (pt_cmp' (op_eqD (hu64 hr)) ro_eq (pu_var 1) (pu_var 2)) (pu_op op_fdivZ ro_div (pu_var 0) (pu_var 2)) (pu_tup (pa_cons' (pu_op op_fdivZ ro_div (pu_var 0) (pu_var 2)) (pa_cons' (pu_op op_fdivZ ro_div (pu_var 1) (pu_var 2)) pa_nil'))))))), fun ss R EX hl h => ?_⟩)
  obtain ⟨a, b, rfl, hb, h9, h⟩ := h
  rw [low_ratD hb] at h
  have c1 := cdiv (a := a) hb h9
  walk_at "pv"
  refine ⟨fun h0 => ?_, fun h0 => ?_⟩
  · have eb : byOf a b = ((Nat.gcd a.natAbs b.natAbs : Nat) : Int) := if_pos h0
    rw [eb] at h c1
    exact ⟨fun z => ⟨c1 _, by rw [if_pos z] at h; exact h⟩, fun z => ⟨c1 _, c1 _, by rw [if_neg z] at h; exact h⟩⟩
  · have eb : byOf a b = -((Nat.gcd a.natAbs b.natAbs : Nat) : Int) := if_neg h0
    rw [eb] at h c1
    exact ⟨fun z => ⟨c1 _, by rw [if_pos z] at h; exact h⟩, fun z => ⟨c1 _, c1 _, by rw [if_neg z] at h; exact h⟩⟩
theorem d_added (F : Has K mg "added" s_added) (T : Blt mg) (D_pair : KpO P w K mg base c 1 "pair" ["number"] (spPair)) (D_in_lowest : KpO P w K mg base c 1 "in_lowest" ["top", "bottom"] (spLow)) : KpO P w K mg base c 2 "added" ["one", "other"] (spR2 C0 fAdd) := by
  refine keepO F (fun _ _ _ _ _ _ us hl => match us, hl with | [_, _], _ => rfl) sc_added (fun f cdv A outer s H E hr => ⟨_, (pus_cons (pus_if (PuW.pt (pw_and' (pt_val' (pu_isi isi_int T.b_isinstance T.b_int (by decide +kernel) (pu_var 0))) (pw_and1' (pt_val' (pu_isi isi_int T.b_isinstance T.b_int (by decide +kernel) (pu_var 1)))))) (pus_one (pus_ret (pu_op op_addU ro_add (pu_var 0) (pu_var 1)))) pus_nil)
    (pus_cons (pus_asg (pu_tup (pa_cons' (pu_callO D_pair hr takesF (pa_cons' (pu_var 0) pa_nil')) (pa_cons' (pu_callO D_pair hr takesF (pa_cons' (pu_var 1) pa_nil')) pa_nil'))) (pug_tup (n := 2) (by rfl) (pugs_cons (pug_tup (n := 2) (by rfl) (pugs_cons (pug_name (i := 2) sc_added.nd) (pugs_cons (pug_name (i := 3) sc_added.nd) pugs_nil))) (pugs_cons (pug_tup (n := 2) (by rfl) (pugs_cons (pug_name (i := 4) sc_added.nd) (pugs_cons (pug_name (i := 5) sc_added.nd) pugs_nil))) pugs_nil))))
    (pus_one (pus_ret (pu_callO D_in_lowest hr takesF (pa_cons' (pu_op op_addU ro_add (pu_op op_mulP ro_mul (pu_var 2) (pu_var 5)) (pu_op op_mulP ro_mul (pu_var 4) (pu_var 3))) (pa_cons' (pu_op op_mulP ro_mul (pu_var 3) (pu_var 5)) pa_nil'))))))), fun ss R EX hl h => ?_⟩)
  obtain ⟨p, q, rfl, hp, hq, _, h⟩ := h
  have hp1 := hp.1
  have hp2 := hp.2
  have hq1 := hq.1
  have hq2 := hq.2
  have dp := den_ne p
  have dq := den_ne q
  walk_at "pv"
  refine ⟨fun z => ⟨fun z' => ?_, fun _ => ?_⟩, fun _ => ?_⟩
  · rcases ratD_or p with ⟨i, e, e1, e2⟩ | ⟨a, b, e, e1, e2, e3⟩
    · rcases ratD_or q with ⟨j, e', e1', e2'⟩ | ⟨a', b', e', e1', e2', e3'⟩
      · rw [e, e']
        have e5 : fAdd p q = .int (i + j) := by
          unfold fAdd
          rw [← divInt_add, e1, e1', e2, e2']
          simp [ratD_int]
        rw [e5] at h
        exact h
      · rw [e'] at z'; cases z'
    · rw [e] at z; cases z
  all_goals
    refine ⟨p, rfl, ?_⟩
    refine ⟨q, rfl, ?_⟩
    walk_at "pv"
    refine ⟨cm hp1 hq2, cm hq1 hp2, cm hp2 hq2, _, _, rfl, Int.mul_ne_zero dp dq, bn_mul hp2 hq2, ?_⟩
    rw [divInt_add]
    exact h
theorem d_multiplied (F : Has K mg "multiplied" s_multiplied) (T : Blt mg) (D_pair : KpO P w K mg base c 1 "pair" ["number"] (spPair)) (D_in_lowest : KpO P w K mg base c 1 "in_lowest" ["top", "bottom"] (spLow)) : KpO P w K mg base c 2 "multiplied" ["one", "other"] (spR2 C0 fMul) := by
  refine keepO F (fun _ _ _ _ _ _ us hl => match us, hl with | [_, _], _ => rfl) sc_multiplied (fun f cdv A outer s H E hr => ⟨_, (pus_cons (pus_if (PuW.pt (pw_and' (pt_val' (pu_isi isi_int T.b_isinstance T.b_int (by decide +kernel) (pu_var 0))) (pw_and1' (pt_val' (pu_isi isi_int T.b_isinstance T.b_int (by decide +kernel) (pu_var 1)))))) (pus_one (pus_ret (pu_op op_mulP ro_mul (pu_var 0) (pu_var 1)))) pus_nil)
    (pus_cons (pus_asg (pu_tup (pa_cons' (pu_callO D_pair hr takesF (pa_cons' (pu_var 0) pa_nil')) (pa_cons' (pu_callO D_pair hr takesF (pa_cons' (pu_var 1) pa_nil')) pa_nil'))) (pug_tup (n := 2) (by rfl) (pugs_cons (pug_tup (n := 2) (by rfl) (pugs_cons (pug_name (i := 2) sc_multiplied.nd) (pugs_cons (pug_name (i := 3) sc_multiplied.nd) pugs_nil))) (pugs_cons (pug_tup (n := 2) (by rfl) (pugs_cons (pug_name (i := 4) sc_multiplied.nd) (pugs_cons (pug_name (i := 5) sc_multiplied.nd) pugs_nil))) pugs_nil))))
    (pus_one (pus_ret (pu_callO D_in_lowest hr takesF (pa_cons' (pu_op op_mulP ro_mul (pu_var 2) (pu_var 4)) (pa_cons' (pu_op op_mulP ro_mul (pu_var 3) (pu_var 5)) pa_nil'))))))), fun ss R EX hl h => ?_⟩)
  obtain ⟨p, q, rfl, hp, hq, _, h⟩ := h
  have hp1 := hp.1
  have hp2 := hp.2
  have hq1 := hq.1
  have hq2 := hq.2
  have dp := den_ne p
  have dq := den_ne q
  walk_at "pv"
  refine ⟨fun z => ⟨fun z' => ?_, fun _ => ?_⟩, fun _ => ?_⟩
  · rcases ratD_or p with ⟨i, e, e1, e2⟩ | ⟨a, b, e, e1, e2, e3⟩
    · rcases ratD_or q with ⟨j, e', e1', e2'⟩ | ⟨a', b', e', e1', e2', e3'⟩
      · rw [e, e']
        have e5 : fMul p q = .int (i * j) := by
          unfold fMul
          rw [← divInt_mul, e1, e1', e2, e2']
          simp [ratD_int]
        rw [e5] at h
        rw [e1] at hp1
        rw [e1'] at hq1
        exact ⟨cm hp1 hq1, h⟩
      · rw [e'] at z'; cases z'
    · rw [e] at z; cases z
  all_goals
    refine ⟨p, rfl, ?_⟩
    refine ⟨q, rfl, ?_⟩
    walk_at "pv"
    refine ⟨cm hp1 hq1, cm hp2 hq2, _, _, rfl, Int.mul_ne_zero dp dq, bn_mul hp2 hq2, ?_⟩
    rw [divInt_mul]
    exact h
end
end K38
namespace K38
open PySem PySem.Spec PyProof.Rows L2 Lx Px
local macro_rules | `(tactic| walk_at "pv") => `(tactic| simp only [psSeq, psSet, psPar, psIf, psRet, psDrop, psCont, psNext, psAsg, psFor, psRaise, pVar, Px.nth, pC, pOp, pUn, oI, oI0, uI, oAdd, oEq, oEqE, eqv_rat0, List.isEmpty_nil, List.isEmpty_cons, oNe, oIs, oNis, oIx, pNil, pCons, allD, pTup, pLst, pDisp0, bOf, ptB, ptAnd, ptOr, ptNot, pIf, pAndV, pOrV, pNotV, pCalln, pB, bInt, bAbs, bGcd, bLen, bList, bTuple, bRepr, bAll, uIsi, uIsi2, pgName, pgNil, pgCons, pgTup, Px.iR1, Px.iR2, Px.iS, Px.iZip, iZipU, pSl, pNo, pSome, pLc, pYes, noOwn, noOwn1, wipeE, pdOf, startP, List.set, List.map, List.append, List.cons_append, List.nil_append, List.length_cons, List.length_nil, List.replicate, Nat.reduceAdd, Nat.reduceSub, List.getElem?_cons_zero, List.getElem?_cons_succ, isNone, isBool, oSub, oMul, oDiv, oMod, oPow, oLt, oLe, oGt, oGe, at_0, at_1, okE_int, okE_bool, okE_none, okE_rat, eqv_int, eqv_ti, isTy_int_int, isTy_int_tup, isTy_tup_tup, isTy_tup_int, isTy_bool_int, true_and, and_true, beq_iff_eq, decide_eq_true_eq, decide_eq_false_iff_not, beq_eq_false_iff_ne, Bool.not_true, Bool.not_false, Bool.not_eq_true', Bool.not_eq_false', Nat.reduceLeDiff, Option.some.injEq, exists_eq_left', exists_eq_left, forall_const, true_imp_iff, Bool.false_eq_true, Bool.true_eq_false, false_imp_iff, reduceCtorEq])
local macro_rules | `(tactic| walk_at "pvs") => `(tactic| simp [isTy, tyN, at_0, at_1, okE_int, okE_bool, okE_none, eqv_int, oLt, oLe, oGt, oGe, oSub, oMul, oDiv, oMod, oI, oI0])

abbrev s_law_divisor : Stmt := topS 47
theorem sc_law_divisor : FnScope ["one", "other"] ["one", "other"] (defScope s_law_divisor) := ⟨rfl, rfl, rfl, by decide +kernel, rfl, by decide +kernel, by decide +kernel⟩
abbrev s_law_low : Stmt := topS 48
theorem sc_law_low : FnScope ["top", "bottom", "by"] ["top", "bottom"] (defScope s_law_low) := ⟨rfl, rfl, rfl, by decide +kernel, rfl, by decide +kernel, by decide +kernel⟩
abbrev s_law_pair : Stmt := topS 49
theorem sc_law_pair : FnScope ["number"] ["number"] (defScope s_law_pair) := ⟨rfl, rfl, rfl, by decide +kernel, rfl, by decide +kernel, by decide +kernel⟩
abbrev s_law_plus : Stmt := topS 50
theorem sc_law_plus : FnScope ["one", "other", "first", "second"] ["one", "other"] (defScope s_law_plus) := ⟨rfl, rfl, rfl, by decide +kernel, rfl, by decide +kernel, by decide +kernel⟩
abbrev s_law_times : Stmt := topS 51
theorem sc_law_times : FnScope ["one", "other", "first", "second"] ["one", "other"] (defScope s_law_times) := ⟨rfl, rfl, rfl, by decide +kernel, rfl, by decide +kernel, by decide +kernel⟩
abbrev s_law_is : Stmt := topS 46
theorem sc_law_is : FnScope ["told", "due", "at"] ["told", "due"] (defScope s_law_is) := ⟨rfl, rfl, rfl, by decide +kernel, rfl, by decide +kernel, by decide +kernel⟩
/-- the fields of BadNumber(what, number) -/
def bn (x : Str) (d : PyData) : FD := [("number", d), ("what", .str x)]
def spNeed (C : Addr) : PSp := fun ss R EX => ∃ x y, ss = [.d x, .d y] ∧ (isRat x = false → EX C (bn "one" x)) ∧ (isRat x = true → isRat y = false → EX C (bn "other" y)) ∧ (isRat x = true → isRat y = true → R (.d .none))
def spChk (C : Addr) (f : Rat → Rat → PyData) : PSp := fun ss R EX => ∃ x y, ss = [.d x, .d y] ∧ (isRat x = false → EX C (bn "one" x)) ∧ (isRat x = true → isRat y = false → EX C (bn "other" y)) ∧ (∀ p q, x = ratD p → y = ratD q → Br 2000 p ∧ Br 2000 q ∧ R (.d (f p q)))
def spOver (C : Addr) : PSp := fun ss R EX => ∃ x y, ss = [.d x, .d y] ∧ (isRat x = false → EX C (bn "one" x)) ∧ (isRat x = true → isRat y = false → EX C (bn "other" y)) ∧ (∀ p, x = ratD p → y = .int 0 → EX C (bn "other" y)) ∧ (∀ p q, x = ratD p → y = ratD q → q.num ≠ 0 → Br 2000 p ∧ Br 2000 q ∧ R (.d (fDiv p q)))
def spSign (C : Addr) : PSp := fun ss R EX => ∃ x, ss = [.d x] ∧ (isRat x = false → EX C (bn "one" x)) ∧ (∀ p, x = ratD p → R (.d (fSgn p)))
def spRatio (C : Addr) : PSp := fun ss R EX => ∃ x y, ss = [.d x, .d y] ∧ (isIntD x = false → EX C (bn "top" x)) ∧ (isIntD x = true → (isIntD y = false ∨ y = .int 0) → EX C (bn "bottom" y)) ∧
  (∀ a b, x = .int a → y = .int b → b ≠ 0 → Bn 9000 b ∧ R (.d (ratD (Rat.divInt a b))))
def fSub (p q : Rat) : PyData := ratD (p + -q)
theorem br_mono {a n : Nat} {q : Rat} (h : Br a q) (hn : a ≤ n := by decide) : Br n q := ⟨bn_mono h.1 hn, bn_mono h.2 hn⟩
theorem br_neg {a : Nat} {q : Rat} (h : Br a q) : Br a (-q) := ⟨bn_neg h.1, h.2⟩

section
variable {P : Program} {w : World} {K : PySem.W.Frag} {mg : Str → Option Value} {base : Heap} {c : Cc}

end
end K38
namespace K38
open PySem PySem.Spec PyProof.Rows L2 Lx Px
local macro_rules | `(tactic| walk_at "pv") => `(tactic| simp only [psSeq, psSet, psPar, psIf, psRet, psDrop, psCont, psNext, psAsg, psFor, psRaise, pVar, Px.nth, pC, pOp, pUn, oI, oI0, uI, oAdd, oEq, oEqE, eqv_rat0, List.isEmpty_nil, List.isEmpty_cons, oNe, oIs, oNis, oIx, pNil, pCons, allD, pTup, pLst, pDisp0, bOf, ptB, ptAnd, ptOr, ptNot, pIf, pAndV, pOrV, pNotV, pCalln, pB, bInt, bAbs, bGcd, bLen, bList, bTuple, bRepr, bAll, uIsi, uIsi2, pgName, pgNil, pgCons, pgTup, Px.iR1, Px.iR2, Px.iS, Px.iZip, iZipU, pSl, pNo, pSome, pLc, pYes, noOwn, noOwn1, wipeE, pdOf, startP, List.set, List.map, List.append, List.cons_append, List.nil_append, List.length_cons, List.length_nil, List.replicate, Nat.reduceAdd, Nat.reduceSub, List.getElem?_cons_zero, List.getElem?_cons_succ, isNone, isBool, oSub, oMul, oDiv, oMod, oPow, oLt, oLe, oGt, oGe, at_0, at_1, okE_int, okE_bool, okE_none, okE_rat, eqv_int, eqv_ti, isTy_int_int, isTy_int_tup, isTy_tup_tup, isTy_tup_int, isTy_bool_int, true_and, and_true, beq_iff_eq, decide_eq_true_eq, decide_eq_false_iff_not, beq_eq_false_iff_ne, Bool.not_true, Bool.not_false, Bool.not_eq_true', Bool.not_eq_false', Nat.reduceLeDiff, Option.some.injEq, exists_eq_left', exists_eq_left, forall_const, true_imp_iff, Bool.false_eq_true, Bool.true_eq_false, false_imp_iff, reduceCtorEq])
local macro_rules | `(tactic| walk_at "pvs") => `(tactic| simp [isTy, tyN, at_0, at_1, okE_int, okE_bool, okE_none, eqv_int, oLt, oLe, oGt, oGe, oSub, oMul, oDiv, oMod, oI, oI0])

def spGcd : PSp := fun ss R _ => ∃ a b, ss = [.d (.int a), .d (.int b)] ∧ R (.d (.int ((Nat.gcd a.natAbs b.natAbs : Nat) : Int)))
def spNever : PSp := fun _ _ _ => False
def spList : PSp := fun ss R _ => ∃ x, ss = [.d x] ∧ R (.d (.bool (isTy "list" x || isTy "tuple" x)))
def spIsI : PSp := fun ss R _ => ∃ i : Int, ss = [.d (.int i), .d (.int i)] ∧ R (.d (.bool true))
def spIsR : PSp := fun ss R _ => ∃ q : Rat, ss = [.d (ratD q), .d (ratD q)] ∧ R (.d (.bool true))
def spSays : PSp := fun ss R _ => ∃ b : Bool, ss = [.d (.bool b), .d (.bool b)] ∧ R (.d (.bool true))
theorem fmod_nat (x m : Nat) : ((x : Nat) : Int).fmod (m : Nat) = ((x % m : Nat) : Int) := by
  rw [Int.fmod_eq_emod_of_nonneg _ (by omega)]
  omega

section
variable {P : Program} {w : World} {K : PySem.W.Frag} {mg : Str → Option Value} {base : Heap} {c : Cc}

theorem kp_never {x : Str} {st : Stmt} {ps : List Str} (F : Has K mg x st) (b : BindsBy x st ps) : Kp P w K mg base c 0 x ps spNever := by
  obtain ⟨f, fd, F, hm⟩ := F
  refine ⟨f, fd, ⟨fun vs H Q E h => ?_, fun A outer s H args us vs Q E _ _ _ _ _ h => ?_⟩, hm, F.kp, F.binds b⟩
  · obtain ⟨_, _, _, _, _, _, _, z, _⟩ := h
    exact z.elim
  · obtain ⟨_, _, _, _, _, _, _, z, _⟩ := h
    exact z.elim
theorem d_law_divisor (F : Has K mg "_law_divisor" s_law_divisor) (T : Blt mg)  : Kp P w K mg base c 1 "_law_divisor" ["one", "other"] (spGcd) := by
  refine keepP F (fun _ _ _ _ _ _ us hl => match us, hl with | [_, _], _ => rfl) sc_law_divisor (fun f cdv A outer s H E hr hg => ⟨_, (pus_cons (pus_par (i := 0) (j := 1) rfl sc_law_divisor.nd (pa_cons' (pu_callB c_abs rb_abs T.b_abs (by decide +kernel) (pa_cons' (pu_var 0) pa_nil')) (pa_cons' (pu_callB c_abs rb_abs T.b_abs (by decide +kernel) (pa_cons' (pu_var 1) pa_nil')) pa_nil')))
    (pus_cons (pus_while passF (pt_cmp' (op_neD (hu64 hr)) ro_ne (pu_var 1) pu_int) (pus_one (pus_par (i := 0) (j := 1) rfl sc_law_divisor.nd (pa_cons' (pu_var 1) (pa_cons' (pu_op op_modN ro_mod (pu_callTy c_int rb_int T.b_int (by decide +kernel) (pa_cons' (pu_var 0) pa_nil')) (pu_var 1)) pa_nil')))))
    (pus_one (pus_ret (pu_var 0))))), fun ss R EX hl h => ?_⟩)
  obtain ⟨a, b, rfl, h⟩ := h
  walk_at "pv"
  refine ⟨fun m env => ∃ x y : Nat, env = [some (.d (.int x)), some (.d (.int y))] ∧ Nat.gcd x y = Nat.gcd a.natAbs b.natAbs ∧ m = y, ⟨_, a.natAbs, b.natAbs, rfl, rfl, rfl⟩, ?_⟩
  rintro m env ⟨x, y, rfl, hg, rfl⟩
  walk_at "pv"
  refine ⟨fun z => ⟨z, x % m, Nat.mod_lt x (by omega), m, x % m, by rw [fmod_nat], ?_, rfl⟩, fun z => ?_⟩
  · rw [← hg, Nat.gcd_comm x m, Nat.gcd_rec m x, Nat.gcd_comm]
  · rw [← hg, show m = 0 by omega, Nat.gcd_zero_right] at h
    exact h
theorem d_law_low (F : Has K mg "_law_low" s_law_low) (T : Blt mg) (D_law_divisor : Kp P w K mg base c 1 "_law_divisor" ["one", "other"] (spGcd)) : Kp P w K mg base c 2 "_law_low" ["top", "bottom"] (spLow) := by
  refine keepP F (fun _ _ _ _ _ _ us hl => match us, hl with | [_, _], _ => rfl) sc_law_low (fun f cdv A outer s H E hr hg => ⟨_, (pus_cons (pus_set (i := 2) sc_law_low.nd (pu_call D_law_divisor hr hg takesF (pa_cons' (pu_var 0) (pa_cons' (pu_var 1) pa_nil'))))
    (pus_cons (pus_if (pt_cmp' op_lt ro_lt (pu_var 1) pu_int) (pus_one (pus_set (i := 2) sc_law_low.nd (pu_neg (pu_var 2)))) pus_nil)
    (pus_one (pus_ret (pu_if (pt_cmp' (op_eqD (hu64 hr)) ro_eq (pu_var 1) (pu_var 2)) (pu_op op_fdivZ ro_div (pu_var 0) (pu_var 2)) (pu_tup (pa_cons' (pu_op op_fdivZ ro_div (pu_var 0) (pu_var 2)) (pa_cons' (pu_op op_fdivZ ro_div (pu_var 1) (pu_var 2)) pa_nil')))))))), fun ss R EX hl h => ?_⟩)
  obtain ⟨a, b, rfl, hb, h9, h⟩ := h
  rw [low_ratD hb] at h
  have c1 := cdiv (a := a) hb h9
  walk_at "pv"
  refine ⟨a, b, rfl, ?_⟩
  walk_at "pv"
  refine ⟨fun h0 => ?_, fun h0 => ?_⟩
  · have eb : byOf a b = -((Nat.gcd a.natAbs b.natAbs : Nat) : Int) := if_neg (by omega)
    rw [eb] at h c1
    exact ⟨fun z => ⟨c1 _, by rw [if_pos z] at h; exact h⟩, fun z => ⟨c1 _, c1 _, by rw [if_neg z] at h; exact h⟩⟩
  · have eb : byOf a b = ((Nat.gcd a.natAbs b.natAbs : Nat) : Int) := if_pos (by omega)
    rw [eb] at h c1
    exact ⟨fun z => ⟨c1 _, by rw [if_pos z] at h; exact h⟩, fun z => ⟨c1 _, c1 _, by rw [if_neg z] at h; exact h⟩⟩
theorem d_law_pair (F : Has K mg "_law_pair" s_law_pair) (T : Blt mg)  : Kp P w K mg base c 1 "_law_pair" ["number"] (spPair) := by
  refine keepP F (fun _ _ _ _ _ _ us hl => match us, hl with | [_], _ => rfl) sc_law_pair (fun f cdv A outer s H E hr hg => ⟨_, (pus_one (pus_ret (pu_if (pt_val' (pu_isi isi_int T.b_isinstance T.b_int (by decide +kernel) (pu_var 0))) (pu_tup (pa_cons' (pu_var 0) (pa_cons' pu_int pa_nil'))) (pu_var 0)))), fun ss R EX hl h => ?_⟩)
  obtain ⟨q, rfl, h⟩ := h
  walk_at "pv"
  rcases ratD_or q with ⟨i, e, e1, e2⟩ | ⟨a, b, e, e1, e2, e3⟩
  · rw [e1, e2] at h
    rw [e]
    simpa [isTy, tyN] using h
  · rw [e1, e2] at h
    rw [e]
    simpa [isTy, tyN] using h
theorem d_law_plus (F : Has K mg "_law_plus" s_law_plus) (T : Blt mg) (D_law_pair : Kp P w K mg base c 1 "_law_pair" ["number"] (spPair)) (D_law_low : Kp P w K mg base c 2 "_law_low" ["top", "bottom"] (spLow)) : Kp P w K mg base c 3 "_law_plus" ["one", "other"] (spR2 C0 fAdd) := by
  refine keepP F (fun _ _ _ _ _ _ us hl => match us, hl with | [_, _], _ => rfl) sc_law_plus (fun f cdv A outer s H E hr hg => ⟨_, (pus_cons (pus_par (i := 2) (j := 3) rfl sc_law_plus.nd (pa_cons' (pu_call D_law_pair hr hg takesF (pa_cons' (pu_var 0) pa_nil')) (pa_cons' (pu_call D_law_pair hr hg takesF (pa_cons' (pu_var 1) pa_nil')) pa_nil')))
    (pus_one (pus_ret (pu_call D_law_low hr hg takesF (pa_cons' (pu_op op_addU ro_add (pu_op op_mulP ro_mul (pu_ix (pu_var 2) pu_int) (pu_ix (pu_var 3) pu_int)) (pu_op op_mulP ro_mul (pu_ix (pu_var 3) pu_int) (pu_ix (pu_var 2) pu_int))) (pa_cons' (pu_op op_mulP ro_mul (pu_ix (pu_var 2) pu_int) (pu_ix (pu_var 3) pu_int)) pa_nil')))))), fun ss R EX hl h => ?_⟩)
  obtain ⟨p, q, rfl, hp, hq, hc, h⟩ := h
  have hp1 := hp.1
  have hp2 := hp.2
  have hq1 := hq.1
  have hq2 := hq.2
  have dp := den_ne p
  have dq := den_ne q
  walk_at "pv"
  refine ⟨p, rfl, ?_⟩
  refine ⟨q, rfl, ?_⟩
  walk_at "pv"
  refine ⟨cm hp1 hq2, cm hq1 hp2, cm hp2 hq2, _, _, rfl, Int.mul_ne_zero dp dq, bn_mul hp2 hq2, ?_⟩
  rw [divInt_add]
  exact h
theorem d_law_times (F : Has K mg "_law_times" s_law_times) (T : Blt mg) (D_law_pair : Kp P w K mg base c 1 "_law_pair" ["number"] (spPair)) (D_law_low : Kp P w K mg base c 2 "_law_low" ["top", "bottom"] (spLow)) : Kp P w K mg base c 3 "_law_times" ["one", "other"] (spR2 C0 fMul) := by
  refine keepP F (fun _ _ _ _ _ _ us hl => match us, hl with | [_, _], _ => rfl) sc_law_times (fun f cdv A outer s H E hr hg => ⟨_, (pus_cons (pus_par (i := 2) (j := 3) rfl sc_law_times.nd (pa_cons' (pu_call D_law_pair hr hg takesF (pa_cons' (pu_var 0) pa_nil')) (pa_cons' (pu_call D_law_pair hr hg takesF (pa_cons' (pu_var 1) pa_nil')) pa_nil')))
    (pus_one (pus_ret (pu_call D_law_low hr hg takesF (pa_cons' (pu_op op_mulP ro_mul (pu_ix (pu_var 2) pu_int) (pu_ix (pu_var 3) pu_int)) (pa_cons' (pu_op op_mulP ro_mul (pu_ix (pu_var 2) pu_int) (pu_ix (pu_var 3) pu_int)) pa_nil')))))), fun ss R EX hl h => ?_⟩)
  obtain ⟨p, q, rfl, hp, hq, hc, h⟩ := h
  have hp1 := hp.1
  have hp2 := hp.2
  have hq1 := hq.1
  have hq2 := hq.2
  have dp := den_ne p
  have dq := den_ne q
  walk_at "pv"
  refine ⟨p, rfl, ?_⟩
  refine ⟨q, rfl, ?_⟩
  walk_at "pv"
  refine ⟨cm hp1 hq1, cm hp2 hq2, _, _, rfl, Int.mul_ne_zero dp dq, bn_mul hp2 hq2, ?_⟩
  rw [divInt_mul]
  exact h
theorem d_law_is0 (F : Has K mg "_law_is" s_law_is) (T : Blt mg) (D_law_is : Kp P w K mg base c 0 "_law_is" ["told", "due"] (spNever))  : Kp P w K mg base c 1 "_law_is" ["told", "due"] (spIsI) := by
  refine keepP F (fun _ _ _ _ _ _ us hl => match us, hl with | [_, _], _ => rfl) sc_law_is (fun f cdv A outer s H E hr hg => ⟨_, (pus_cons (pus_if (pt_val' (pu_isi isi_tuple T.b_isinstance T.b_tuple (by decide +kernel) (pu_var 1))) (pus_cons (pus_if (PuW.pt (pw_or' (pt_not' (pt_val' (pu_isi isi_tuple T.b_isinstance T.b_tuple (by decide +kernel) (pu_var 0)))) (pw_or1' (pt_cmp' (op_neD (hu64 hr)) ro_ne (pu_callB c_len rb_len T.b_len PySem.boot_len (pa_cons' (pu_var 0) pa_nil')) (pu_callB c_len rb_len T.b_len PySem.boot_len (pa_cons' (pu_var 1) pa_nil')))))) (pus_one (pus_ret pu_bl)) pus_nil)
    (pus_one (pus_ret (pu_cmp (op_eqE (hu64 hr)) ro_eqE (pu_lcI (own := [("at", 2)]) rfl sc_law_is.nd (pui_range1 T.b_range (pa_cons' (pu_callB c_len rb_len T.b_len PySem.boot_len (pa_cons' (pu_var 1) pa_nil')) pa_nil')) (blkOk_by (by show blkC ["told", "due", "at"] (defScope s_law_is) _ _ = true; decide +kernel)) (fun ci => (pug_name (i := 2) sc_law_is.nd)) (fun ci => (pt_not' (pt_val' (pu_call D_law_is hr hg takes0 (pa_cons' (pu_ix (pu_var 0) (pu_var 2)) (pa_cons' (pu_ix (pu_var 1) (pu_var 2)) pa_nil')))))) (fun ci => (pu_var 2))) (pu_lstK pa_nilK))))) pus_nil)
    (pus_cons (pus_if (pt_cmp' op_isC ro_is (pu_var 1) pu_non) (pus_one (pus_ret (pu_cmp op_isC ro_is (pu_var 0) pu_non))) pus_nil)
    (pus_cons (pus_if (pt_cmp' op_isC ro_is (pu_var 1) pu_bl) (pus_one (pus_ret (pu_cmp op_isC ro_is (pu_var 0) pu_bl))) pus_nil)
    (pus_cons (pus_if (pt_cmp' op_isC ro_is (pu_var 1) pu_bl) (pus_one (pus_ret (pu_cmp op_isC ro_is (pu_var 0) pu_bl))) pus_nil)
    (pus_cons (pus_if (pt_val' (pu_isi isi_str T.b_isinstance T.b_str (by decide +kernel) (pu_var 1))) (pus_one (pus_ret (pu_and (pu_isi isi_str T.b_isinstance T.b_str (by decide +kernel) (pu_var 0)) (pu_one (pu_cmp (op_eqD (hu64 hr)) ro_eq (pu_var 0) (pu_var 1)))))) pus_nil)
    (pus_one (pus_ret (pu_and (pu_isi isi_int T.b_isinstance T.b_int (by decide +kernel) (pu_var 0)) (pu_and (pu_not (pu_isi isi_bool T.b_isinstance T.b_bool (by decide +kernel) (pu_var 0))) (pu_one (pu_cmp (op_eqD (hu64 hr)) ro_eq (pu_var 0) (pu_var 1)))))))))))), fun ss R EX hl h => ?_⟩)
  obtain ⟨i, rfl, h⟩ := h
  walk_at "pv"
  simpa [isTy, tyN, okE_int, eqv_int] using h
theorem d_law_is (F : Has K mg "_law_is" s_law_is) (T : Blt mg) (D_law_is : Kp P w K mg base c 1 "_law_is" ["told", "due"] (spIsI))  : Kp P w K mg base c 2 "_law_is" ["told", "due"] (spIsR) := by
  refine keepP F (fun _ _ _ _ _ _ us hl => match us, hl with | [_, _], _ => rfl) sc_law_is (fun f cdv A outer s H E hr hg => ⟨_, (pus_cons (pus_if (pt_val' (pu_isi isi_tuple T.b_isinstance T.b_tuple (by decide +kernel) (pu_var 1))) (pus_cons (pus_if (PuW.pt (pw_or' (pt_not' (pt_val' (pu_isi isi_tuple T.b_isinstance T.b_tuple (by decide +kernel) (pu_var 0)))) (pw_or1' (pt_cmp' (op_neD (hu64 hr)) ro_ne (pu_callB c_len rb_len T.b_len PySem.boot_len (pa_cons' (pu_var 0) pa_nil')) (pu_callB c_len rb_len T.b_len PySem.boot_len (pa_cons' (pu_var 1) pa_nil')))))) (pus_one (pus_ret pu_bl)) pus_nil)
    (pus_one (pus_ret (pu_cmp (op_eqE (hu64 hr)) ro_eqE (pu_lcI (own := [("at", 2)]) rfl sc_law_is.nd (pui_range1 T.b_range (pa_cons' (pu_callB c_len rb_len T.b_len PySem.boot_len (pa_cons' (pu_var 1) pa_nil')) pa_nil')) (blkOk_by (by show blkC ["told", "due", "at"] (defScope s_law_is) _ _ = true; decide +kernel)) (fun ci => (pug_name (i := 2) sc_law_is.nd)) (fun ci => (pt_not' (pt_val' (pu_call D_law_is hr hg takes0 (pa_cons' (pu_ix (pu_var 0) (pu_var 2)) (pa_cons' (pu_ix (pu_var 1) (pu_var 2)) pa_nil')))))) (fun ci => (pu_var 2))) (pu_lstK pa_nilK))))) pus_nil)
    (pus_cons (pus_if (pt_cmp' op_isC ro_is (pu_var 1) pu_non) (pus_one (pus_ret (pu_cmp op_isC ro_is (pu_var 0) pu_non))) pus_nil)
    (pus_cons (pus_if (pt_cmp' op_isC ro_is (pu_var 1) pu_bl) (pus_one (pus_ret (pu_cmp op_isC ro_is (pu_var 0) pu_bl))) pus_nil)
    (pus_cons (pus_if (pt_cmp' op_isC ro_is (pu_var 1) pu_bl) (pus_one (pus_ret (pu_cmp op_isC ro_is (pu_var 0) pu_bl))) pus_nil)
    (pus_cons (pus_if (pt_val' (pu_isi isi_str T.b_isinstance T.b_str (by decide +kernel) (pu_var 1))) (pus_one (pus_ret (pu_and (pu_isi isi_str T.b_isinstance T.b_str (by decide +kernel) (pu_var 0)) (pu_one (pu_cmp (op_eqD (hu64 hr)) ro_eq (pu_var 0) (pu_var 1)))))) pus_nil)
    (pus_one (pus_ret (pu_and (pu_isi isi_int T.b_isinstance T.b_int (by decide +kernel) (pu_var 0)) (pu_and (pu_not (pu_isi isi_bool T.b_isinstance T.b_bool (by decide +kernel) (pu_var 0))) (pu_one (pu_cmp (op_eqD (hu64 hr)) ro_eq (pu_var 0) (pu_var 1)))))))))))), fun ss R EX hl h => ?_⟩)
  obtain ⟨q, rfl, h⟩ := h
  rcases ratD_or q with ⟨i, e, e1, e2⟩ | ⟨a, b, e, e1, e2, e3⟩
  · rw [e]
    walk_at "pv"
    simpa [isTy, tyN, okE_int, eqv_int] using h
  · rw [e]
    walk_at "pv"
    have e4 : rangeD 0 (((([PyData.int a, PyData.int b] : List PyData).length : Nat) : Int)).toNat = [.int 0, .int 1] := rfl
    simp [pLcL, rangeD, List.range, List.range.loop]
    walk_at "pv"
    refine ⟨a, rfl, ?_⟩
    walk_at "pv"
    refine ⟨b, rfl, ?_⟩
    walk_at "pv"
    exact h
end
end K38
namespace K38
open PySem PySem.Spec PyProof.Rows L2 Lx Px
local macro_rules | `(tactic| walk_at "pv") => `(tactic| simp only [psSeq, psSet, psPar, psIf, psRet, psDrop, psCont, psNext, psAsg, psFor, psRaise, pVar, Px.nth, pC, pOp, pUn, oI, oI0, uI, oAdd, oEq, oEqE, eqv_rat0, List.isEmpty_nil, List.isEmpty_cons, oNe, oIs, oNis, oIx, pNil, pCons, allD, pTup, pLst, pDisp0, bOf, ptB, ptAnd, ptOr, ptNot, pIf, pAndV, pOrV, pNotV, pCalln, pB, bInt, bAbs, bGcd, bLen, bList, bTuple, bRepr, bAll, uIsi, uIsi2, pgName, pgNil, pgCons, pgTup, Px.iR1, Px.iR2, Px.iS, Px.iZip, iZipU, pSl, pNo, pSome, pLc, pYes, noOwn, noOwn1, wipeE, pdOf, startP, List.set, List.map, List.append, List.cons_append, List.nil_append, List.length_cons, List.length_nil, List.replicate, Nat.reduceAdd, Nat.reduceSub, List.getElem?_cons_zero, List.getElem?_cons_succ, isNone, isBool, oSub, oMul, oDiv, oMod, oPow, oLt, oLe, oGt, oGe, at_0, at_1, okE_int, okE_bool, okE_none, okE_rat, eqv_int, eqv_ti, isTy_int_int, isTy_int_tup, isTy_tup_tup, isTy_tup_int, isTy_bool_int, true_and, and_true, beq_iff_eq, decide_eq_true_eq, decide_eq_false_iff_not, beq_eq_false_iff_ne, Bool.not_true, Bool.not_false, Bool.not_eq_true', Bool.not_eq_false', Nat.reduceLeDiff, Option.some.injEq, exists_eq_left', exists_eq_left, forall_const, true_imp_iff, Bool.false_eq_true, Bool.true_eq_false, false_imp_iff, reduceCtorEq])
local macro_rules | `(tactic| walk_at "pvs") => `(tactic| simp [isTy, tyN, at_0, at_1, okE_int, okE_bool, okE_none, eqv_int, oLt, oLe, oGt, oGe, oSub, oMul, oDiv, oMod, oI, oI0])
local macro_rules | `(tactic| walk_at "rd") => `(tactic| (with_reducible first
  | refine rr_seq ?_ | refine rr_asg ?_ | refine rr_n0 ?_ | refine rr_n1 ?_ | refine rr_n2 ?_ | refine rr_n3 ?_ | refine rr_n4 ?_ | refine rr_n5 ?_ | refine rr_n6 ?_ | refine rr_n7 ?_ | refine rr_n8 ?_ | refine rr_n9 ?_ | refine rr_n10 ?_ | refine rr_n11 ?_ | refine rr_n12 ?_ | refine rr_n13 ?_ | refine rr_drop ?_ | refine rr_ret ?_ | refine rr_ifs ?_ | refine rr_if ?_ | refine rr_test ?_ | refine rr_tB ?_ | refine rr_bl ?_
  | refine rr_and ?_ | refine rr_or ?_ | refine rr_not ?_ | refine rr_v0 ?_ | refine rr_v1 ?_ | refine rr_v2 ?_ | refine rr_v3 ?_ | refine rr_v4 ?_ | refine rr_v5 ?_ | refine rr_v6 ?_ | refine rr_v7 ?_ | refine rr_v8 ?_ | refine rr_v9 ?_ | refine rr_v10 ?_ | refine rr_v11 ?_ | refine rr_v12 ?_ | refine rr_v13 ?_ | refine rr_c ?_ | refine rr_op ?_ | refine rr_un ?_ | refine rr_i0 ?_ | refine rr_eqi ?_ | refine rr_nei ?_
  | refine rr_cons ?_ | refine rr_nil ?_ | refine rr_cb ?_ | refine rr_call ?_ | refine rr_tup ?_ | refine rr_lst ?_ | refine rr_lstN ?_ | refine rr_dget ?_ | refine rr_dput ?_ | refine rr_next ?_ | refine rr_int ?_ | refine rr_disp ?_ | refine rr_pcons ?_ | refine rr_pnil ?_ | refine rr_isN ?_ | refine rr_notN ?_ | refine rr_callR ?_ | refine rr_bm ?_ | refine rr_fldP ?_ | refine rr_rf ?_))
local macro_rules | `(tactic| walk_at "rds") => `(tactic| repeat walk_at "rd")

abbrev s_law_draw : Stmt := topS 44
theorem sc_law_draw : FnScope ["pen", "many", "blend", "cell", "digit"] ["pen", "many"] (defScope s_law_draw) := ⟨rfl, rfl, rfl, by decide +kernel, rfl, by decide +kernel, by decide +kernel⟩
abbrev s_law_pick : Stmt := topS 45
theorem sc_law_pick : FnScope ["pen", "some"] ["pen", "some"] (defScope s_law_pick) := ⟨rfl, rfl, rfl, by decide +kernel, rfl, by decide +kernel, by decide +kernel⟩
theorem item_at {ns : List Int} {a : Int} (h0 : 0 ≤ a) (h : a < (ns.length : Int)) : ∃ x : Int, atI (ns.map V.int) a = some (.int x) := by
  have hk : a.toNat < ns.length := by omega
  have q : atI (ns.map V.int) ((a.toNat : Nat) : Int) = some (.int ns[a.toNat]) := atI_nat (by rw [List.getElem?_map, List.getElem?_eq_getElem hk] <;> rfl)
  rw [show ((a.toNat : Nat) : Int) = a by omega] at q
  exact ⟨_, q⟩

section
variable {P : Program} {w : World} {K : PySem.W.Frag} {mg : Str → Option Value} {base : Heap} {c : Cc}

theorem d_draw (F : Has K mg "_law_draw" s_law_draw) (T : Blt mg) : Keeps P w K mg base CX0 1 "_law_draw" ["pen", "many"] spDrawX := by
  refine keep0 F (fun _ _ _ _ _ _ us hl => match us, hl with | [_, _], _ => rfl) sc_law_draw (fun vs H Q E h => ?_) (fun f cdv A outer s H vs Q E hr hg h => ?_)
  · obtain ⟨p, m, l, ns, a, d, k, f, rfl, _⟩ := h
    rfl
  have hu := hu_of hr
  refine ⟨_, (pss_cons (ps_dput hu (pv 0) pe_str (pe_op op_add (pe_dget hu (pv 0) pe_str (fun _ _ => rfl)) pe_int) rfl)
    (pss_cons (ps_if (PW.pt (pw_and (pt_cmpR op_eq (pe_dget hu (pv 0) pe_str (fun _ _ => rfl)) pe_int (nomark _)) (pw_and1 (pt_cmpR op_lt (pe_dget hu (pv 0) pe_str (fun _ _ => rfl)) (pe_callB c_len (by rfl) T.b_len PySem.boot_len (pa_cons (pe_dget hu (pv 0) pe_str (fun _ _ => rfl)) pa_nil)) (nomark _))))) (pss_cons (ps_set (i := 3) sc_law_draw.nd rfl (.inl rfl) (pe_ix ix_list (pe_dget hu (pv 0) pe_str (fun _ _ => rfl)) (pe_dget hu (pv 0) pe_str (fun _ _ => rfl)) (fun _ _ => rfl)))
    (pss_cons (ps_dput hu (pv 0) pe_str (pe_op op_add (pe_dget hu (pv 0) pe_str (fun _ _ => rfl)) pe_int) rfl)
    (pss_one (ps_if (pt_cmpR op_ge (pv 3) (pe_op op_pow pe_int pe_int) (nomark _)) (pss_one (ps_dput hu (pv 0) pe_str (pe_op op_sub (pv 3) (pe_op op_pow pe_int pe_int)) rfl)) (pss_one (ps_dput hu (pv 0) pe_str (pe_op op_modN (pe_callTy c_int (by rfl) T.b_int (by decide +kernel) (pa_cons (pe_op op_add (pe_op op_mul (pe_dget hu (pv 0) pe_str (fun _ _ => rfl)) pe_int) (pv 3)) pa_nil)) pe_int) rfl)))))) pss_nil)
    (pss_cons (ps_if (pt_cmpR op_gt (pe_dget hu (pv 0) pe_str (fun _ _ => rfl)) pe_int (nomark _)) (pss_cons (ps_set (i := 4) sc_law_draw.nd rfl (.inl rfl) (pe_op op_modN (pe_callTy c_int (by rfl) T.b_int (by decide +kernel) (pa_cons (pe_dget hu (pv 0) pe_str (fun _ _ => rfl)) pa_nil)) (pv 1)))
    (pss_cons (ps_dput hu (pv 0) pe_str (pe_op op_fdivN (pe_dget hu (pv 0) pe_str (fun _ _ => rfl)) (pv 1)) rfl)
    (pss_one (ps_ret (pv 4))))) pss_nil)
    (pss_cons (ps_set (i := 2) sc_law_draw.nd rfl (.inl rfl) (pe_op op_modN (pe_callTy c_int (by rfl) T.b_int (by decide +kernel) (pa_cons (pe_op op_add (pe_op op_add (pe_op op_mul (pe_dget hu (pv 0) pe_str (fun _ _ => rfl)) pe_int) (pe_op op_mul (pe_dget hu (pv 0) pe_str (fun _ _ => rfl)) pe_int)) pe_int) pa_nil)) pe_int))
    (pss_cons (ps_set (i := 2) sc_law_draw.nd rfl (.inl rfl) (pe_op op_modN (pe_callTy c_int (by rfl) T.b_int (by decide +kernel) (pa_cons (pe_op op_add (pe_op op_add (pe_op op_mul (pv 2) (pv 2)) (pe_op op_mul pe_int (pv 2))) (pe_dget hu (pv 0) pe_str (fun _ _ => rfl))) pa_nil)) pe_int))
    (pss_cons (ps_dput hu (pv 0) pe_str (pe_op op_modN (pe_callTy c_int (by rfl) T.b_int (by decide +kernel) (pa_cons (pe_op op_add (pe_op op_mul (pv 2) pe_int) pe_int) pa_nil)) pe_int) rfl)
    (pss_one (ps_ret (pe_op op_modN (pe_callTy c_int (by rfl) T.b_int (by decide +kernel) (pa_cons (pe_op op_fdivN (pv 2) pe_int) pa_nil)) (pv 1)))))))))), ?_⟩
  obtain ⟨p, m, l, ns, a, d, c, f, rfl, ⟨hp, hl, ha, hd, hc, hf, hf2⟩, hm, hm2, k⟩ := h
  have hlp : l ≠ p := PenAt.ne ⟨hp, hl, ha, hd, hc, hf, hf2⟩
  have hpn : ¬ H p = none := fun z => by rw [z] at hp; cases hp
  have es : L2.start ["pen", "many", "blend", "cell", "digit"] [V.ref p, V.int m] = [some (V.ref p), some (V.int m), none, none, none] := rfl
  rw [es]
  walk_at "rds"
  refine rr_gcount hp ?_
  walk_at "rds"
  refine rr_pcount hp ?_
  with_reducible refine rr_seqJ (fun z : Int × Int × Int × Option V => 0 ≤ z.1 ∧ 0 ≤ z.2.1 ∧ 0 ≤ z.2.2.1 ∧ z.2.2.1 < 2147483648) (fun z => [some (V.ref p), some (V.int m), none, z.2.2.2, none]) (fun z => upd H p (.dK (penL l z.1 z.2.1 (c + 1) z.2.2.1))) (fun ⟨a, d, f, v⟩ ⟨ha, hd, hf, hf2⟩ => ?_) (fun rest => ?_)
  · -- digits, then the mix
    clear hp
    dsimp only at ha hd hf hf2 ⊢
    have fin : ∀ (r : Int) (d' f' : Int), 0 ≤ r → r < m → 0 ≤ d' → 0 ≤ f' → f' < 2147483648 → Q (.int r) (upd H p (.dK (penL l a d' (c + 1) f'))) := fun r d' f' h1 h2 h3 h4 h5 => by
      exact k r _ _ _ _ h1 h2 ha h3 (by omega) h4 h5
    walk_at "rds"
    refine rr_gdigits upd_same ?_
    walk_at "rds"
    refine rr_lt0 (fun h => ?_) (fun h => ?_)
    · walk_at "rds"
      refine rr_gdigits upd_same ?_
      walk_at "rds"
      refine rr_i (by omega) ?_
      walk_at "rds"
      refine rr_gdigits upd_same ?_
      walk_at "rds"
      refine rr_i ⟨by omega, by omega⟩ ?_
      walk_at "rds"
      refine rr_pdigits upd_same ?_
      walk_at "rds"
      rw [upd_upd]
      exact fin _ _ _ (modN hm).1 (modN hm).2 (divN hd hm) hf hf2
    · walk_at "rds"
      refine rr_gfold upd_same ?_
      walk_at "rds"
      refine rr_i (.inr (by decide)) ?_
      walk_at "rds"
      refine rr_gcount upd_same ?_
      walk_at "rds"
      refine rr_i (.inr (by decide)) ?_
      walk_at "rds"
      refine rr_i (by decide) ?_
      walk_at "rds"
      have b1 := modN (a := f * 48271 + (c + 1) * 7919 + 13) (b := 2147483647) (by decide)
      generalize (f * 48271 + (c + 1) * 7919 + 13).fmod 2147483647 = e1 at b1 ⊢
      refine rr_i (.inr (by omega)) ?_
      walk_at "rds"
      refine rr_i (.inr (by omega)) ?_
      walk_at "rds"
      refine rr_gcount upd_same ?_
      walk_at "rds"
      refine rr_i (by decide) ?_
      walk_at "rds"
      have b2 := modN (a := e1 * e1 + 31 * e1 + (c + 1)) (b := 2147483629) (by decide)
      generalize (e1 * e1 + 31 * e1 + (c + 1)).fmod 2147483629 = e2 at b2 ⊢
      refine rr_i (.inr (by decide)) ?_
      walk_at "rds"
      refine rr_i (by decide) ?_
      walk_at "rds"
      refine rr_pfold upd_same ?_
      walk_at "rds"
      refine rr_i ⟨by decide, by decide⟩ ?_
      walk_at "rds"
      refine rr_i (by omega) ?_
      rw [upd_upd]
      have b3 := modN (a := e2 * 16807 + 7) (b := 2147483647) (by decide)
      exact fin _ _ _ (modN hm).1 (modN hm).2 hd b3.1 (by omega)
  · -- a further cell
    walk_at "rds"
    refine rr_gdigits upd_same ?_
    walk_at "rds"
    refine rr_lt0 (fun h => ?_) (fun h => rest (a, d, f, none) ⟨ha, hd, hf, hf2⟩)
    walk_at "rds"
    refine rr_gat upd_same ?_
    walk_at "rds"
    refine rr_gcells upd_same ?_
    walk_at "rds"
    have hl' : ∀ o, upd H p o l = some (.lst (ns.map V.int)) := fun o => by rw [upd_ne hlp]; exact hl
    refine rr_len (sqL (hl' _)) ?_
    walk_at "rds"
    refine rr_lt0 (fun h2 => ?_) (fun h2 => rest (a, d, f, none) ⟨ha, hd, hf, hf2⟩)
    walk_at "rds"
    refine rr_gcells upd_same ?_
    walk_at "rds"
    refine rr_gat upd_same ?_
    obtain ⟨x, hx⟩ := item_at (ns := ns) ha (by simpa using h2)
    refine rr_ixL (sqL (hl' _)) hx ?_
    walk_at "rds"
    refine rr_gat upd_same ?_
    walk_at "rds"
    refine rr_pat upd_same ?_
    walk_at "rds"
    refine rr_i ⟨by decide, by decide, by decide⟩ ?_
    walk_at "rds"
    refine rr_lt0 (fun h3 => ?_) (fun h3 => ?_)
    · walk_at "rds"
      refine rr_i ⟨by decide, by decide, by decide⟩ ?_
      walk_at "rds"
      refine rr_pdigits upd_same ?_
      rw [upd_upd, upd_upd]
      exact rest (a + 1, _, f, _) ⟨by show 0 ≤ a + 1; omega, by show 0 ≤ x - _; omega, hf, hf2⟩
    · walk_at "rds"
      refine rr_gfold upd_same ?_
      walk_at "rds"
      refine rr_i (.inr (by decide)) ?_
      walk_at "rds"
      refine rr_i (by decide) ?_
      walk_at "rds"
      refine rr_pfold upd_same ?_
      rw [upd_upd, upd_upd]
      have b3 := modN (a := f * 69069 + x) (b := 2147483587) (by decide)
      exact rest (a + 1, d, _, _) ⟨by show 0 ≤ a + 1; omega, hd, b3.1, Int.lt_trans b3.2 (by decide)⟩
theorem d_law_pick (F : Has K mg "_law_pick" s_law_pick) (T : Blt mg) (D_law_draw : Kp P w K mg base c 1 "_law_draw" ["pen", "many"] (spDrawP c)) : Kp P w K mg base c 2 "_law_pick" ["pen", "some"] (spPickP c) := by
  refine keepP F (fun _ _ _ _ _ _ us hl => match us, hl with | [_, _], _ => rfl) sc_law_pick (fun f cdv A outer s H E hr hg => ⟨_, (pus_one (pus_ret (pu_ix (pu_var 1) (pu_call D_law_draw hr hg takesF (pa_cons' (pu_var 0) (pa_cons' (pu_callB c_len rb_len T.b_len PySem.boot_len (pa_cons' (pu_var 1) pa_nil')) pa_nil')))))), fun ss R EX hl h => ?_⟩)
  obtain ⟨ds, rfl, h0, h1, h⟩ := h
  walk_at "pv"
  refine ⟨_, rfl, by omega, by omega, fun r r0 r1 => ?_⟩
  obtain ⟨x, e, m⟩ := atI_mem r0 r1
  walk_at "pv"
  rw [e]
  walk_at "pv"
  exact h x m
def spSize (c : Cc) : PSp := fun ss R _ => ss = [.raw (.ref c.p)] ∧ R (.d (.int 0)) ∧ R (.d (.int 1)) ∧ R (.d (.int 2))
def spWide (c : Cc) : PSp := fun ss R _ => ∃ n : Int, ss = [.raw (.ref c.p), .d (.int n)] ∧ (n = 39 ∨ n = 40) ∧ ∀ r : Int, 0 ≤ r → Bn 140 r → R (.d (.int r))
def spNum (c : Cc) : PSp := fun ss R _ => ∃ n : Int, ss = [.raw (.ref c.p), .d (.int n)] ∧ ∀ q : Rat, Br 145 q → R (.d (ratD q))

theorem br_div {n : Nat} {a b : Int} (hb : b ≠ 0) (ha : Bn n a) (h : Bn n b) : Br n (Rat.divInt a b) := by
  unfold Br Bn at *
  constructor
  · rw [Rat.num_divInt]
    refine Nat.lt_of_le_of_lt (Int.natAbs_ediv_le_natAbs _ _) ?_
    rw [Int.natAbs_mul, Int.natAbs_sign_of_ne_zero hb, Nat.one_mul]
    exact ha
  · rw [Rat.den_divInt, if_neg hb]
    exact Nat.lt_of_le_of_lt (Nat.div_le_self _ _) h
def spRow (c : Cc) : PSp := fun ss R _ => ∃ n m : Int, ss = [.raw (.ref c.p), .d (.int n), .d (.int m)] ∧ 0 ≤ n ∧ n ≤ 4 ∧ ∀ ps : List Rat, (ps.length : Int) = n → (∀ q ∈ ps, Br 145 q) → R (.d (.tuple (ps.map ratD)))
def rowOk (x : PyData) (n : Int) : Bool := match seqD x with
  | some l => (l.length : Int) == n && l.all isRat
  | none => false
def odds : List PyData := [.none, .bool true, .bool false, .str "1", .str "", .tuple [.int 1, .int 1], .tuple [.int 2, .int 4], .tuple [.int 1, .int 0], .tuple [.int 1, .int (-2)], .list [.int 1, .int 2], .tuple [.int 1, .int 2, .int 3], .tuple [.bool true, .int 2], .tuple [], .tuple [.int 0, .int 3], .dict []]
def spOdd (c : Cc) : PSp := fun ss R _ => ss = [.raw (.ref c.p)] ∧ ∀ d ∈ odds, R (.d d)

end
end K38
namespace K38
open PySem PySem.Spec PyProof.Rows L2 Lx Px
local macro_rules | `(tactic| walk_at "pv") => `(tactic| simp only [psSeq, psSet, psPar, psIf, psRet, psDrop, psCont, psNext, psAsg, psFor, psRaise, pVar, Px.nth, pC, pOp, pUn, oI, oI0, uI, oAdd, oEq, oEqE, eqv_rat0, List.isEmpty_nil, List.isEmpty_cons, oNe, oIs, oNis, oIx, pNil, pCons, allD, pTup, pLst, pDisp0, bOf, ptB, ptAnd, ptOr, ptNot, pIf, pAndV, pOrV, pNotV, pCalln, pB, bInt, bAbs, bGcd, bLen, bList, bTuple, bRepr, bAll, uIsi, uIsi2, pgName, pgNil, pgCons, pgTup, Px.iR1, Px.iR2, Px.iS, Px.iZip, iZipU, pSl, pNo, pSome, pLc, pYes, noOwn, noOwn1, wipeE, pdOf, startP, List.set, List.map, List.append, List.cons_append, List.nil_append, List.length_cons, List.length_nil, List.replicate, Nat.reduceAdd, Nat.reduceSub, List.getElem?_cons_zero, List.getElem?_cons_succ, isNone, isBool, oSub, oMul, oDiv, oMod, oPow, oLt, oLe, oGt, oGe, at_0, at_1, okE_int, okE_bool, okE_none, okE_rat, eqv_int, eqv_ti, isTy_int_int, isTy_int_tup, isTy_tup_tup, isTy_tup_int, isTy_bool_int, true_and, and_true, beq_iff_eq, decide_eq_true_eq, decide_eq_false_iff_not, beq_eq_false_iff_ne, Bool.not_true, Bool.not_false, Bool.not_eq_true', Bool.not_eq_false', Nat.reduceLeDiff, Option.some.injEq, exists_eq_left', exists_eq_left, forall_const, true_imp_iff, Bool.false_eq_true, Bool.true_eq_false, false_imp_iff, reduceCtorEq])
local macro_rules | `(tactic| walk_at "pvs") => `(tactic| simp [isTy, tyN, at_0, at_1, okE_int, okE_bool, okE_none, eqv_int, oLt, oLe, oGt, oGe, oSub, oMul, oDiv, oMod, oI, oI0])

def menuB : List PyData := [.none, .int 3, .str "row", .bool true, .dict []]
/-- what a bent row may be -/
def Bent (x : PyData) : Prop := x ∈ menuB ∨ ∃ l : List PyData, x = .tuple l ∧ l.length ≤ 5 ∧ ((∀ d ∈ l, ∃ q, d = ratD q ∧ Br 145 q) ∨ ∃ a b : List PyData, ∃ o : PyData, l = a ++ o :: b ∧ o ∈ odds ∧ (∀ d ∈ a, ∃ q, d = ratD q ∧ Br 145 q) ∧ ∀ d ∈ b, ∃ q, d = ratD q ∧ Br 145 q)
def spBent (c : Cc) : PSp := fun ss R _ => ∃ ps : List Rat, ss = [.raw (.ref c.p), .d (.tuple (ps.map ratD))] ∧ ps.length ≤ 4 ∧ (∀ q ∈ ps, Br 145 q) ∧ ∀ x, Bent x → R (.d x)
def spAnyRow : PSp := fun ss R _ => ∃ (x : PyData) (n : Int), ss = [.d x, .d (.int n)] ∧ (∀ l, seqD x = some l → l.length ≤ 1000) ∧ R (.d (.bool (rowOk x n)))
theorem all_filter (l : List PyData) : (l.filter fun x => !isRat x).isEmpty = l.all isRat := by
  induction l with
  | nil => rfl
  | cons a l ih =>
    rw [List.filter_cons, List.all_cons]
    cases isRat a <;> simp [ih]

theorem cut_take (l : List PyData) {i : Int} (h0 : 0 ≤ i) (h1 : i ≤ (l.length : Nat)) : Px.cutD l none (some i) = l.take i.toNat := by
  unfold Px.cutD
  have e : i = ((i.toNat : Nat) : Int) := by omega
  generalize i.toNat = k at e
  subst e
  rw [HT.sIx_nat, HT.sIx_none, List.drop_zero, Nat.sub_zero, Nat.min_eq_left (by omega)]
theorem cut_drop (l : List PyData) {i : Int} (h0 : 0 ≤ i) (h1 : i ≤ (l.length : Nat)) : Px.cutD l (some i) none = l.drop i.toNat := by
  unfold Px.cutD
  have e : i = ((i.toNat : Nat) : Int) := by omega
  generalize i.toNat = k at e
  subst e
  rw [HT.sIx_nat, HT.sIx_none, Nat.min_eq_left (by omega)]
  exact List.take_of_length_le (by rw [List.length_drop]; omega)
theorem cut_last (l : List PyData) (h : 0 < l.length) : Px.cutD l none (some (-1)) = l.take (l.length - 1) := by
  unfold Px.cutD
  have e := HT.clip_eq (-1) l.length l.length
  rw [if_pos (by decide)] at e
  rw [HT.sIx_none, List.drop_zero, Nat.sub_zero]
  congr 1
  omega
/-- the items of a drawn row -/
def RB (d : PyData) : Prop := ∃ q, d = ratD q ∧ Br 145 q
theorem rb_map {ps : List Rat} (hb : ∀ q ∈ ps, Br 145 q) : ∀ d ∈ ps.map ratD, RB d := fun d hd => by
  obtain ⟨q, hq, rfl⟩ := List.mem_map.mp hd
  exact ⟨q, rfl, hb q hq⟩

section
variable {P : Program} {w : World} {K : PySem.W.Frag} {mg : Str → Option Value} {base : Heap} {c : Cc}

end
end K38
namespace K38
open PySem PySem.Spec PyProof.Rows L2 Lx Px
local macro_rules | `(tactic| walk_at "pv") => `(tactic| simp only [psSeq, psSet, psPar, psIf, psRet, psDrop, psCont, psNext, psAsg, psFor, psRaise, pVar, Px.nth, pC, pOp, pUn, oI, oI0, uI, oAdd, oEq, oEqE, eqv_rat0, List.isEmpty_nil, List.isEmpty_cons, oNe, oIs, oNis, oIx, pNil, pCons, allD, pTup, pLst, pDisp0, bOf, ptB, ptAnd, ptOr, ptNot, pIf, pAndV, pOrV, pNotV, pCalln, pB, bInt, bAbs, bGcd, bLen, bList, bTuple, bRepr, bAll, uIsi, uIsi2, pgName, pgNil, pgCons, pgTup, Px.iR1, Px.iR2, Px.iS, Px.iZip, iZipU, pSl, pNo, pSome, pLc, pYes, noOwn, noOwn1, wipeE, pdOf, startP, List.set, List.map, List.append, List.cons_append, List.nil_append, List.length_cons, List.length_nil, List.replicate, Nat.reduceAdd, Nat.reduceSub, List.getElem?_cons_zero, List.getElem?_cons_succ, isNone, isBool, oSub, oMul, oDiv, oMod, oPow, oLt, oLe, oGt, oGe, at_0, at_1, okE_int, okE_bool, okE_none, okE_rat, eqv_int, eqv_ti, isTy_int_int, isTy_int_tup, isTy_tup_tup, isTy_tup_int, isTy_bool_int, true_and, and_true, beq_iff_eq, decide_eq_true_eq, decide_eq_false_iff_not, beq_eq_false_iff_ne, Bool.not_true, Bool.not_false, Bool.not_eq_true', Bool.not_eq_false', Nat.reduceLeDiff, Option.some.injEq, exists_eq_left', exists_eq_left, forall_const, true_imp_iff, Bool.false_eq_true, Bool.true_eq_false, false_imp_iff, reduceCtorEq])
local macro_rules | `(tactic| walk_at "pvs") => `(tactic| simp [isTy, tyN, at_0, at_1, okE_int, okE_bool, okE_none, eqv_int, oLt, oLe, oGt, oGe, oSub, oMul, oDiv, oMod, oI, oI0])

def dotR (ps qs : List Rat) : Rat := (ps.zip qs).foldl (fun a z => a + z.1 * z.2) 0
theorem dotR_snoc {ps qs : List Rat} {p q : Rat} (h : ps.length = qs.length) : dotR (ps ++ [p]) (qs ++ [q]) = dotR ps qs + p * q := by
  unfold dotR
  rw [List.zip_append h, List.foldl_append]
  rfl
theorem dotR_take {ps qs : List Rat} {i : Nat} {p q : Rat} (hp : ps[i]? = some p) (hq : qs[i]? = some q) : dotR (ps.take (i + 1)) (qs.take (i + 1)) = dotR (ps.take i) (qs.take i) + p * q := by
  have h1 := (List.getElem?_eq_some_iff.mp hp).1
  have h2 := (List.getElem?_eq_some_iff.mp hq).1
  rw [List.take_add_one, List.take_add_one, hp, hq]
  exact dotR_snoc (by rw [List.length_take, List.length_take]; omega)
theorem zip_rat {ps qs : List Rat} {i : Nat} {d : PyData} (h : (zipD (ps.map ratD) (qs.map ratD))[i]? = some d) : ∃ p q, ps[i]? = some p ∧ qs[i]? = some q ∧ d = .tuple [ratD p, ratD q] := by
  obtain ⟨x, y, h1, h2, rfl⟩ := zipD_at h
  rw [List.getElem?_map] at h1 h2
  cases e1 : ps[i]? with
  | none => rw [e1] at h1; cases h1
  | some p =>
    cases e2 : qs[i]? with
    | none => rw [e2] at h2; cases h2
    | some q =>
      rw [e1] at h1
      rw [e2] at h2
      cases h1
      cases h2
      exact ⟨p, q, rfl, rfl, rfl⟩
/-- what the loop keeps: top and bottom of the sum so far -/
structure SumI (ps qs : List Rat) (i : Nat) (t b : Int) : Prop where
  pos : 0 < b
  val : Rat.divInt t b = dotR (ps.take i) (qs.take i)
  bt : Bn (400 * i + 10) t
  bb : Bn (400 * i + 10) b
theorem SumI.zero (ps qs : List Rat) : SumI ps qs 0 0 1 := ⟨by decide, by rw [List.take_zero, List.take_zero]; rfl, by decide, by decide⟩
theorem SumI.skip {ps qs : List Rat} {i : Nat} {t b : Int} {p q : Rat} (S : SumI ps qs i t b) (hp : ps[i]? = some p) (hq : qs[i]? = some q) (hz : p.num = 0 ∨ q.num = 0) : SumI ps qs (i + 1) t b := by
  refine ⟨S.pos, ?_, bn_mono S.bt (by omega), bn_mono S.bb (by omega)⟩
  rw [dotR_take hp hq, S.val]
  have : p * q = 0 := by
    rw [← divInt_mul]
    rcases hz with z | z <;> rw [z] <;> simp
  rw [this, Rat.add_zero]
theorem mul_pos' {a b : Int} (h1 : 0 < a) (h2 : 0 < b) : 0 < a * b := Int.mul_pos h1 h2
theorem SumI.same {ps qs : List Rat} {i : Nat} {t b : Int} {p q : Rat} (S : SumI ps qs i t b) (hp : ps[i]? = some p) (hq : qs[i]? = some q) (h1 : Br 145 p) (h2 : Br 145 q) (e : (p.den : Int) * (q.den : Nat) = b) : SumI ps qs (i + 1) (t + p.num * q.num) b := by
  refine ⟨S.pos, ?_, bn_add (a := 400 * i + 10) (b := 290) S.bt (bn_mul h1.1 h2.1) (by omega) (by omega), bn_mono S.bb (by omega)⟩
  have hb : b ≠ 0 := by have := S.pos; omega
  rw [dotR_take hp hq, ← S.val, ← divInt_mul, e, Rat.divInt_add_divInt _ _ hb hb, ← Int.add_mul, Rat.divInt_mul_right hb]
theorem SumI.wide {ps qs : List Rat} {i : Nat} {t b : Int} {p q : Rat} (S : SumI ps qs i t b) (hp : ps[i]? = some p) (hq : qs[i]? = some q) (h1 : Br 145 p) (h2 : Br 145 q) : SumI ps qs (i + 1) (t * ((p.den : Int) * (q.den : Nat)) + p.num * q.num * b) (b * ((p.den : Int) * (q.den : Nat))) := by
  have hl : Bn 290 ((p.den : Int) * (q.den : Nat)) := bn_mul h1.2 h2.2
  refine ⟨mul_pos' S.pos (mul_pos' (den_pos p) (den_pos q)), ?_, bn_add (a := 400 * i + 300) (b := 400 * i + 300) (bn_mul S.bt hl (by omega)) (bn_mul (bn_mul (n := 290) h1.1 h2.1) S.bb (by omega)) (by omega) (by omega), bn_mul S.bb hl (by omega)⟩
  have hb : b ≠ 0 := by have := S.pos; omega
  have hd : (p.den : Int) * (q.den : Nat) ≠ 0 := Int.mul_ne_zero (den_ne p) (den_ne q)
  rw [dotR_take hp hq, ← S.val, ← divInt_mul, Rat.divInt_add_divInt _ _ hb hd]
def spSum : PSp := fun ss R _ => ∃ (x : PyData) (ps qs : List Rat), ss = [.d x, .d (.tuple (qs.map ratD))] ∧ (x = .list (ps.map ratD) ∨ x = .tuple (ps.map ratD)) ∧ ps.length = qs.length ∧ ps.length ≤ 5 ∧ (∀ q ∈ ps, Br 145 q) ∧ (∀ q ∈ qs, Br 145 q) ∧ R (.d (ratD (dotR ps qs)))

section
variable {P : Program} {w : World} {K : PySem.W.Frag} {mg : Str → Option Value} {base : Heap} {c : Cc}

def spDotL : PSp := fun ss R _ => ∃ (ps qs : List Rat), ss = [.d (.tuple (ps.map ratD)), .d (.tuple (qs.map ratD))] ∧ ps.length = qs.length ∧ ps.length ≤ 5 ∧ (∀ q ∈ ps, Br 145 q) ∧ (∀ q ∈ qs, Br 145 q) ∧ R (.d (ratD (dotR ps qs)))
theorem lc_israt {x y : PyData} {l : List PyData} {K : List PyData → Prop} (hl : l.length ≤ 1000) (h : K (l.map fun d => .bool (isRat d))) : pLcL (pgName 2) pYes (pCalln 1 spIsRat (pCons (pVar 2) pNil)) [some (.d x), some (.d y), none] l [] K := by
  refine pLcL_ind (fun i acc => acc = (l.take i).map fun d => .bool (isRat d)) rfl ?_ ?_
  · rintro i d acc N hi rfl hN
    walk_at "pv"
    refine ⟨d, rfl, ?_⟩
    walk_at "pv"
    refine ⟨by rw [List.length_map, List.length_take]; omega, hN _ ?_⟩
    rw [List.take_add_one, hi, List.map_append]
    rfl
  · rintro acc rfl
    rw [List.take_length]
    exact h
theorem bools_israt : ∀ l : List PyData, boolsOf (l.map fun d => .bool (isRat d)) = some (l.map isRat)
  | [] => rfl
  | d :: l => by
    rw [List.map_cons, List.map_cons, boolsOf, bools_israt l]
    rfl
theorem all_israt (l : List PyData) : (l.map isRat).all id = l.all isRat := by rw [List.all_map]; rfl
theorem lt_list (l : List PyData) : (isTy "list" (.list l) || isTy "tuple" (.list l)) = true := by simp [isTy, tyN]
theorem lt_tup (l : List PyData) : (isTy "list" (.tuple l) || isTy "tuple" (.tuple l)) = true := by simp [isTy, tyN]

def rowF (x : Str) (d : PyData) : FD := [("row", d), ("what", .str x)]
def unF (x : Str) : FD := [("what", .str x)]
def good (x : PyData) : Bool := match seqD x with
  | some l => l.all isRat
  | none => false
def spDot (CR CU : Addr) : PSp := fun ss R EX => ∃ x y, ss = [.d x, .d y] ∧ (∀ l, seqD x = some l → l.length ≤ 1000) ∧ (∀ l, seqD y = some l → l.length ≤ 1000) ∧ (good x = false → EX CR (rowF "row" x)) ∧ (good x = true → good y = false → EX CR (rowF "other" y)) ∧
  (∀ l m, good x = true → good y = true → seqD x = some l → seqD y = some m → l.length ≠ m.length → EX CU (unF "other")) ∧
  (∀ l m, good x = true → good y = true → seqD x = some l → seqD y = some m → l.length = m.length → spSum [.d x, .d y] R EX)
end
end K38
namespace K38
open PySem PySem.Spec PyProof.Rows L2 Lx Px
local macro_rules | `(tactic| walk_at "pv") => `(tactic| simp only [psSeq, psSet, psPar, psIf, psRet, psDrop, psCont, psNext, psAsg, psFor, psRaise, psOwn, psApp, psShow, uIsP, uFld, pCallE, pdNo, pVar, Px.nth, pC, pOp, pUn, oI, oI0, uI, oAdd, oEq, oEqE, eqv_rat0, List.isEmpty_nil, List.isEmpty_cons, oNe, oIs, oNis, oIx, pNil, pCons, allD, pTup, pLst, pDisp0, bOf, ptB, ptAnd, ptOr, ptNot, pIf, pAndV, pOrV, pNotV, pCalln, pB, bInt, bAbs, bGcd, bLen, bList, bTuple, bRepr, bAll, uIsi, uIsi2, pgName, pgNil, pgCons, pgTup, Px.iR1, Px.iR2, Px.iS, Px.iZip, iZipU, pSl, pNo, pSome, pLc, pYes, noOwn, noOwn1, wipeE, pdOf, startP, List.set, List.map, List.append, List.cons_append, List.nil_append, List.length_cons, List.length_nil, List.replicate, Nat.reduceAdd, Nat.reduceSub, List.getElem?_cons_zero, List.getElem?_cons_succ, isNone, isBool, oSub, oMul, oDiv, oMod, oPow, oLt, oLe, oGt, oGe, at_0, at_1, okE_int, okE_bool, okE_none, okE_rat, eqv_int, eqv_ti, isTy_int_int, isTy_int_tup, isTy_tup_tup, isTy_tup_int, isTy_bool_int, true_and, and_true, beq_iff_eq, decide_eq_true_eq, decide_eq_false_iff_not, beq_eq_false_iff_ne, Bool.not_true, Bool.not_false, Bool.not_eq_true', Bool.not_eq_false', Nat.reduceLeDiff, Option.some.injEq, exists_eq_left', exists_eq_left, forall_const, true_imp_iff, Bool.false_eq_true, Bool.true_eq_false, false_imp_iff, reduceCtorEq])
local macro_rules | `(tactic| walk_at "pvs") => `(tactic| simp [isTy, tyN, at_0, at_1, okE_int, okE_bool, okE_none, eqv_int, oLt, oLe, oGt, oGe, oSub, oMul, oDiv, oMod, oI, oI0])
local macro_rules | `(tactic| walk_at "pvh") => `(tactic| simp only [psSeq, psSet, psPar, psIf, psRet, psDrop, psCont, psNext, psAsg, psFor, psRaise, psOwn, psApp, psShow, uIsP, uFld, pCallE, pdNo, pVar, Px.nth, pC, pOp, pUn, oI, oI0, uI, oAdd, oEq, oEqE, eqv_rat0, List.isEmpty_nil, List.isEmpty_cons, oNe, oIs, oNis, oIx, pNil, pCons, allD, pTup, pLst, pDisp0, bOf, ptB, ptAnd, ptOr, ptNot, pIf, pAndV, pOrV, pNotV, pCalln, pB, bInt, bAbs, bGcd, bLen, bList, bTuple, bRepr, bAll, uIsi, uIsi2, pgName, pgNil, pgCons, pgTup, Px.iR1, Px.iR2, Px.iS, Px.iZip, iZipU, pSl, pNo, pSome, pLc, pYes, noOwn, noOwn1, wipeE, pdOf, startP, List.set, List.map, List.append, List.cons_append, List.nil_append, List.length_cons, List.length_nil, List.replicate, Nat.reduceAdd, Nat.reduceSub, List.getElem?_cons_zero, List.getElem?_cons_succ, isNone, isBool, oSub, oMul, oDiv, oMod, oPow, oLt, oLe, oGt, oGe, at_0, at_1, okE_int, okE_bool, okE_none, okE_rat, eqv_int, eqv_ti, isTy_int_int, isTy_int_tup, isTy_tup_tup, isTy_tup_int, isTy_bool_int, true_and, and_true, beq_iff_eq, decide_eq_true_eq, decide_eq_false_iff_not, beq_eq_false_iff_ne, Bool.not_true, Bool.not_false, Bool.not_eq_true', Bool.not_eq_false', Nat.reduceLeDiff, Option.some.injEq, exists_eq_left', exists_eq_left, forall_const, true_imp_iff, Bool.false_eq_true, Bool.true_eq_false, false_imp_iff, reduceCtorEq, if_true, if_false, not_false_eq_true, not_true_eq_false, *])

abbrev tab : ClsTab := [("BadNumber", ["what", "number"]), ("BadRow", ["what", "row"]), ("BadTable", ["what"]), ("BadTree", ["what"]), ("BadBook", ["what"]), ("BadName", ["name"]), ("BadText", ["line", "word"]), ("NoPlace", ["what", "index"]), ("NoName", ["name"]), ("TakenName", ["name"]), ("Unlike", ["what"]), ("NotThere", ["paper"]), ("TooMany", ["what", "many", "limit"]), ("NotKept", ["promise", "witness"]), ("NothingToUndo", []), ("NothingToRedo", [])]
def dueP : Nat → List PyData → PyData
  | 0, [a, b] => .tuple [.str "number", a, .str b.shown]
  | 1, [a, b] => .tuple [.str "row", a, .str b.shown]
  | 2, [a] => .tuple [.str "table", a]
  | 3, [a] => .tuple [.str "tree", a]
  | 4, [a] => .tuple [.str "book", a]
  | 5, [a] => .tuple [.str "badname", .str a.shown]
  | 6, [a, b] => .tuple [.str "text", a, b]
  | 7, [a, b] => .tuple [.str "place", a, .str b.shown]
  | 8, [a] => .tuple [.str "noname", .str a.shown]
  | 9, [a] => .tuple [.str "taken", .str a.shown]
  | 10, [a] => .tuple [.str "unlike", a]
  | 11, [a] => .tuple [.str "notthere", a]
  | 12, [a, b, c] => .tuple [.str "many", a, b, c]
  | 13, [a, b] => .tuple [.str "kept", a, b]
  | 14, [] => .tuple [.str "undo"]
  | 15, [] => .tuple [.str "redo"]
  | _, _ => .none
def Hid (p : Prop) : Prop := p
theorem Hid.get {p : Prop} (h : Hid p) : p := h
/-- the exception of the k-th class, its fields vals -/
def fdOf (k : Nat) (vals : List PyData) : FD := (((tab.getD k ("", [])).2).zip vals).reverse
def spMoreP (Cs : Nat → Addr) (p : Addr × Obj) : PSp := fun ss R _ => ∃ (k : Nat) (vals : List PyData), ss = [.exc p (Cs k) (fdOf k vals)] ∧ k < 16 ∧ vals.length = ((tab.getD k ("", [])).2).length ∧ (∀ v ∈ vals, OkR v) ∧ R (.d (.list (if 8 ≤ k then [dueP k vals] else [])))
def spKindsP (Cs : Nat → Addr) (p : Addr × Obj) : PSp := fun ss R _ => ∃ (k : Nat) (vals : List PyData), ss = [.exc p (Cs k) (fdOf k vals)] ∧ k < 16 ∧ vals.length = ((tab.getD k ("", [])).2).length ∧ (∀ v ∈ vals, OkR v) ∧ R (.d (.list [dueP k vals]))
abbrev s_law_more_kinds : Stmt := topS 54
theorem sc_law_more_kinds : FnScope ["e", "found"] ["e"] (defScope s_law_more_kinds) := ⟨rfl, rfl, rfl, by decide +kernel, rfl, by decide +kernel, by decide +kernel⟩
abbrev s_law_kinds : Stmt := topS 53
theorem sc_law_kinds : FnScope ["e", "found"] ["e"] (defScope s_law_kinds) := ⟨rfl, rfl, rfl, by decide +kernel, rfl, by decide +kernel, by decide +kernel⟩
section
variable {P : Program} {w : World} {K : PySem.W.Frag} {mg : Str → Option Value} {base : Heap} {c : Cc} {S : Addr} {Cs : Nat → Addr}

theorem own_step {i : Nat} {B : PTS} {P : PD} {env : Ev} (h : B P (env.set i (some (.own [])))) : psSeq (psOwn i pNil) B P env := ⟨by decide, h⟩
theorem if_skip {p : Addr × Obj} {ok : Addr → Prop} {b : Addr → Bool} {A B : PTS} {P : PD} {env : Ev} {C : Addr} {ds : FD} (h0 : Px.nth env 0 = some (.exc p C ds)) (hk : ok C) (hb : b C = false) (h : B P env) : psSeq (psIf (ptB (pUn (uIsP p ok b) (pVar 0))) A psNext) B P env := by
  unfold psSeq psIf ptB pUn pVar
  rw [h0]
  exact ⟨rfl, hk, fun z => absurd (hb.symm.trans z) (by decide), fun _ => h⟩
theorem if_take {p : Addr × Obj} {ok : Addr → Prop} {b : Addr → Bool} {A B : PTS} {P : PD} {env : Ev} {C : Addr} {ds : FD} (h0 : Px.nth env 0 = some (.exc p C ds)) (hk : ok C) (hb : b C = true) (h : A { P with nx := B P } env) : psSeq (psIf (ptB (pUn (uIsP p ok b) (pVar 0))) A psNext) B P env := by
  unfold psSeq psIf ptB pUn pVar
  rw [h0]
  exact ⟨rfl, hk, fun _ => h, fun z => absurd (hb.symm.trans z) (by decide)⟩
theorem app_step {i : Nat} {pa : PTE} {Pd : PD} {env : Ev} {ds : List PyData} (d : PyData) (h1 : Px.nth env i = some (.own ds)) (hl : ds.length ≤ 1000000) (he : ∀ (R : Sl → Prop) (E : XP), R (.d d) → pa env R E) (h : Pd.nx (env.set i (some (.own (ds ++ [d]))))) : psApp i pa Pd env := by
  unfold psApp
  rw [h1]
  exact he _ _ ⟨hl, h⟩
theorem if_app {p : Addr × Obj} {ok : Addr → Prop} {b : Addr → Bool} {B : PTS} {P : PD} {env : Ev} {C : Addr} {fs : FD} {i : Nat} {pa : PTE} {ds : List PyData} (d : PyData) (h0 : Px.nth env 0 = some (.exc p C fs)) (hk : ok C) (hb : b C = true) (h1 : Px.nth env i = some (.own ds)) (hl : ds.length ≤ 1000000) (he : ∀ (R : Sl → Prop) (E : XP), R (.d d) → pa env R E)
    (h : B P (env.set i (some (.own (ds ++ [d]))))) : psSeq (psIf (ptB (pUn (uIsP p ok b) (pVar 0))) (psApp i pa) psNext) B P env := if_take h0 hk hb (app_step d h1 hl he h)
theorem dno {p : Prop} [Decidable p] (h : p = False) : decide p = false := decide_eq_false (by rw [h]; exact id)
omit c in
theorem ce_ne (TC : Tc K mg S tab Cs) (i j : Nat) (h : i ≠ j := by decide) (hi : i < 16 := by decide) (hj : j < 16 := by decide) : (Cs i = Cs j) = False := eq_false fun z => h (TC.inj i j hi hj z)
theorem d_law_more_kinds (F : Has K mg "_law_more_kinds" s_law_more_kinds) (T : Blt mg) (TC : Tc K mg S tab Cs)  : KpE P w K mg base c 1 "_law_more_kinds" ["e"] (spMoreP Cs) := by
  refine keepEP F (fun _ _ _ _ _ _ us hl => match us, hl with | [_], _ => rfl) sc_law_more_kinds (fun f cdv A outer s H E p hr hg hp => ⟨_, (pus_cons (pus_own (i := 1) sc_law_more_kinds.nd pa_nil')
    (pus_cons (pus_if (pt_val' (pu_isC TC 8 rfl hp T.b_isinstance (pu_var 0))) (pus_one (pus_app (i := 1) (pu_tup (pa_cons' pu_str (pa_cons' (pu_callB (call_reprQ hg (hu65H hr)) rb_repr T.b_repr (by decide +kernel) (pa_cons' (pu_fldC TC hp (pu_var 0)) pa_nil')) pa_nil'))))) pus_nil)
    (pus_cons (pus_if (pt_val' (pu_isC TC 9 rfl hp T.b_isinstance (pu_var 0))) (pus_one (pus_app (i := 1) (pu_tup (pa_cons' pu_str (pa_cons' (pu_callB (call_reprQ hg (hu65H hr)) rb_repr T.b_repr (by decide +kernel) (pa_cons' (pu_fldC TC hp (pu_var 0)) pa_nil')) pa_nil'))))) pus_nil)
    (pus_cons (pus_if (pt_val' (pu_isC TC 10 rfl hp T.b_isinstance (pu_var 0))) (pus_one (pus_app (i := 1) (pu_tup (pa_cons' pu_str (pa_cons' (pu_fldC TC hp (pu_var 0)) pa_nil'))))) pus_nil)
    (pus_cons (pus_if (pt_val' (pu_isC TC 11 rfl hp T.b_isinstance (pu_var 0))) (pus_one (pus_app (i := 1) (pu_tup (pa_cons' pu_str (pa_cons' (pu_fldC TC hp (pu_var 0)) pa_nil'))))) pus_nil)
    (pus_cons (pus_if (pt_val' (pu_isC TC 12 rfl hp T.b_isinstance (pu_var 0))) (pus_one (pus_app (i := 1) (pu_tup (pa_cons' pu_str (pa_cons' (pu_fldC TC hp (pu_var 0)) (pa_cons' (pu_fldC TC hp (pu_var 0)) (pa_cons' (pu_fldC TC hp (pu_var 0)) pa_nil'))))))) pus_nil)
    (pus_cons (pus_if (pt_val' (pu_isC TC 13 rfl hp T.b_isinstance (pu_var 0))) (pus_one (pus_app (i := 1) (pu_tup (pa_cons' pu_str (pa_cons' (pu_fldC TC hp (pu_var 0)) (pa_cons' (pu_fldC TC hp (pu_var 0)) pa_nil')))))) pus_nil)
    (pus_cons (pus_if (pt_val' (pu_isC TC 14 rfl hp T.b_isinstance (pu_var 0))) (pus_one (pus_app (i := 1) (pu_tupK (pa_consK pu_str pa_nilK)))) pus_nil)
    (pus_cons (pus_if (pt_val' (pu_isC TC 15 rfl hp T.b_isinstance (pu_var 0))) (pus_one (pus_app (i := 1) (pu_tupK (pa_consK pu_str pa_nilK)))) pus_nil)
    (pus_show 1 (pus_one (pus_ret (pu_var 1))))))))))))), fun ss R EX hl h => ?_⟩)
  obtain ⟨k, vals, rfl, hk, hv, ho, h⟩ := h
  have hk2 : k < 8 ∨ k = 8 ∨ k = 9 ∨ k = 10 ∨ k = 11 ∨ k = 12 ∨ k = 13 ∨ k = 14 ∨ k = 15 := by omega
  rcases hk2 with hk2 | rfl | rfl | rfl | rfl | rfl | rfl | rfl | rfl
  · rw [if_neg (by omega)] at h
    have kc : okC tab Cs (Cs k) := ⟨k, hk, rfl⟩
    have n8 : (Cs k = Cs 8) = False := ce_ne TC k 8 (by omega) hk
    have n9 : (Cs k = Cs 9) = False := ce_ne TC k 9 (by omega) hk
    have n10 : (Cs k = Cs 10) = False := ce_ne TC k 10 (by omega) hk
    have n11 : (Cs k = Cs 11) = False := ce_ne TC k 11 (by omega) hk
    have n12 : (Cs k = Cs 12) = False := ce_ne TC k 12 (by omega) hk
    have n13 : (Cs k = Cs 13) = False := ce_ne TC k 13 (by omega) hk
    have n14 : (Cs k = Cs 14) = False := ce_ne TC k 14 (by omega) hk
    have n15 : (Cs k = Cs 15) = False := ce_ne TC k 15 (by omega) hk
    refine own_step ?_
    refine if_skip rfl kc (dno n8) ?_
    refine if_skip rfl kc (dno n9) ?_
    refine if_skip rfl kc (dno n10) ?_
    refine if_skip rfl kc (dno n11) ?_
    refine if_skip rfl kc (dno n12) ?_
    refine if_skip rfl kc (dno n13) ?_
    refine if_skip rfl kc (dno n14) ?_
    refine if_skip rfl kc (dno n15) ?_
    exact h
  · -- NoName
    obtain ⟨a, rfl⟩ := List.length_eq_one_iff.mp hv
    have o_a := ho a (by simp)
    have kc : okC tab Cs (Cs 8) := ⟨8, by decide, rfl⟩
    have kf_name : okF tab Cs "name" (Cs 8) := ⟨8, _, _, rfl, by decide, rfl⟩
    have lk_name : List.lookup ("name" : Str) (fdOf 8 [a]) = some a := rfl
    have n9 : (Cs 8 = Cs 9) = False := ce_ne TC 8 9
    have n10 : (Cs 8 = Cs 10) = False := ce_ne TC 8 10
    have n11 : (Cs 8 = Cs 11) = False := ce_ne TC 8 11
    have n12 : (Cs 8 = Cs 12) = False := ce_ne TC 8 12
    have n13 : (Cs 8 = Cs 13) = False := ce_ne TC 8 13
    have n14 : (Cs 8 = Cs 14) = False := ce_ne TC 8 14
    have n15 : (Cs 8 = Cs 15) = False := ce_ne TC 8 15
    refine own_step ?_
    refine if_app (dueP 8 [a]) rfl kc (decide_eq_true rfl) rfl (by decide) (fun R E hR => ?_) ?_
    · clear ho hv hk hl F hr hg hp T h
      walk_at "pvh"
      exact hR
    refine if_skip (b := fun C => decide (C = Cs 9)) rfl kc (dno n9) ?_
    refine if_skip (b := fun C => decide (C = Cs 10)) rfl kc (dno n10) ?_
    refine if_skip (b := fun C => decide (C = Cs 11)) rfl kc (dno n11) ?_
    refine if_skip (b := fun C => decide (C = Cs 12)) rfl kc (dno n12) ?_
    refine if_skip (b := fun C => decide (C = Cs 13)) rfl kc (dno n13) ?_
    refine if_skip (b := fun C => decide (C = Cs 14)) rfl kc (dno n14) ?_
    refine if_skip (b := fun C => decide (C = Cs 15)) rfl kc (dno n15) ?_
    exact h
  · -- TakenName
    obtain ⟨a, rfl⟩ := List.length_eq_one_iff.mp hv
    have o_a := ho a (by simp)
    have kc : okC tab Cs (Cs 9) := ⟨9, by decide, rfl⟩
    have kf_name : okF tab Cs "name" (Cs 9) := ⟨9, _, _, rfl, by decide, rfl⟩
    have lk_name : List.lookup ("name" : Str) (fdOf 9 [a]) = some a := rfl
    have n8 : (Cs 9 = Cs 8) = False := ce_ne TC 9 8
    have n10 : (Cs 9 = Cs 10) = False := ce_ne TC 9 10
    have n11 : (Cs 9 = Cs 11) = False := ce_ne TC 9 11
    have n12 : (Cs 9 = Cs 12) = False := ce_ne TC 9 12
    have n13 : (Cs 9 = Cs 13) = False := ce_ne TC 9 13
    have n14 : (Cs 9 = Cs 14) = False := ce_ne TC 9 14
    have n15 : (Cs 9 = Cs 15) = False := ce_ne TC 9 15
    refine own_step ?_
    refine if_skip (b := fun C => decide (C = Cs 8)) rfl kc (dno n8) ?_
    refine if_app (dueP 9 [a]) rfl kc (decide_eq_true rfl) rfl (by decide) (fun R E hR => ?_) ?_
    · clear ho hv hk hl F hr hg hp T h
      walk_at "pvh"
      exact hR
    refine if_skip (b := fun C => decide (C = Cs 10)) rfl kc (dno n10) ?_
    refine if_skip (b := fun C => decide (C = Cs 11)) rfl kc (dno n11) ?_
    refine if_skip (b := fun C => decide (C = Cs 12)) rfl kc (dno n12) ?_
    refine if_skip (b := fun C => decide (C = Cs 13)) rfl kc (dno n13) ?_
    refine if_skip (b := fun C => decide (C = Cs 14)) rfl kc (dno n14) ?_
    refine if_skip (b := fun C => decide (C = Cs 15)) rfl kc (dno n15) ?_
    exact h
  · -- Unlike
    obtain ⟨a, rfl⟩ := List.length_eq_one_iff.mp hv
    have o_a := ho a (by simp)
    have kc : okC tab Cs (Cs 10) := ⟨10, by decide, rfl⟩
    have kf_what : okF tab Cs "what" (Cs 10) := ⟨10, _, _, rfl, by decide, rfl⟩
    have lk_what : List.lookup ("what" : Str) (fdOf 10 [a]) = some a := rfl
    have n8 : (Cs 10 = Cs 8) = False := ce_ne TC 10 8
    have n9 : (Cs 10 = Cs 9) = False := ce_ne TC 10 9
    have n11 : (Cs 10 = Cs 11) = False := ce_ne TC 10 11
    have n12 : (Cs 10 = Cs 12) = False := ce_ne TC 10 12
    have n13 : (Cs 10 = Cs 13) = False := ce_ne TC 10 13
    have n14 : (Cs 10 = Cs 14) = False := ce_ne TC 10 14
    have n15 : (Cs 10 = Cs 15) = False := ce_ne TC 10 15
    refine own_step ?_
    refine if_skip (b := fun C => decide (C = Cs 8)) rfl kc (dno n8) ?_
    refine if_skip (b := fun C => decide (C = Cs 9)) rfl kc (dno n9) ?_
    refine if_app (dueP 10 [a]) rfl kc (decide_eq_true rfl) rfl (by decide) (fun R E hR => ?_) ?_
    · clear ho hv hk hl F hr hg hp T h
      walk_at "pvh"
      exact hR
    refine if_skip (b := fun C => decide (C = Cs 11)) rfl kc (dno n11) ?_
    refine if_skip (b := fun C => decide (C = Cs 12)) rfl kc (dno n12) ?_
    refine if_skip (b := fun C => decide (C = Cs 13)) rfl kc (dno n13) ?_
    refine if_skip (b := fun C => decide (C = Cs 14)) rfl kc (dno n14) ?_
    refine if_skip (b := fun C => decide (C = Cs 15)) rfl kc (dno n15) ?_
    exact h
  · -- NotThere
    obtain ⟨a, rfl⟩ := List.length_eq_one_iff.mp hv
    have o_a := ho a (by simp)
    have kc : okC tab Cs (Cs 11) := ⟨11, by decide, rfl⟩
    have kf_paper : okF tab Cs "paper" (Cs 11) := ⟨11, _, _, rfl, by decide, rfl⟩
    have lk_paper : List.lookup ("paper" : Str) (fdOf 11 [a]) = some a := rfl
    have n8 : (Cs 11 = Cs 8) = False := ce_ne TC 11 8
    have n9 : (Cs 11 = Cs 9) = False := ce_ne TC 11 9
    have n10 : (Cs 11 = Cs 10) = False := ce_ne TC 11 10
    have n12 : (Cs 11 = Cs 12) = False := ce_ne TC 11 12
    have n13 : (Cs 11 = Cs 13) = False := ce_ne TC 11 13
    have n14 : (Cs 11 = Cs 14) = False := ce_ne TC 11 14
    have n15 : (Cs 11 = Cs 15) = False := ce_ne TC 11 15
    refine own_step ?_
    refine if_skip (b := fun C => decide (C = Cs 8)) rfl kc (dno n8) ?_
    refine if_skip (b := fun C => decide (C = Cs 9)) rfl kc (dno n9) ?_
    refine if_skip (b := fun C => decide (C = Cs 10)) rfl kc (dno n10) ?_
    refine if_app (dueP 11 [a]) rfl kc (decide_eq_true rfl) rfl (by decide) (fun R E hR => ?_) ?_
    · clear ho hv hk hl F hr hg hp T h
      walk_at "pvh"
      exact hR
    refine if_skip (b := fun C => decide (C = Cs 12)) rfl kc (dno n12) ?_
    refine if_skip (b := fun C => decide (C = Cs 13)) rfl kc (dno n13) ?_
    refine if_skip (b := fun C => decide (C = Cs 14)) rfl kc (dno n14) ?_
    refine if_skip (b := fun C => decide (C = Cs 15)) rfl kc (dno n15) ?_
    exact h
  · -- TooMany
    obtain ⟨a, b, d, rfl⟩ : ∃ a b d, vals = [a, b, d] := by match vals, hv with | [a, b, d], _ => exact ⟨a, b, d, rfl⟩
    have o_a := ho a (by simp)
    have o_b := ho b (by simp)
    have o_d := ho d (by simp)
    have kc : okC tab Cs (Cs 12) := ⟨12, by decide, rfl⟩
    have kf_what : okF tab Cs "what" (Cs 12) := ⟨12, _, _, rfl, by decide, rfl⟩
    have lk_what : List.lookup ("what" : Str) (fdOf 12 [a, b, d]) = some a := rfl
    have kf_many : okF tab Cs "many" (Cs 12) := ⟨12, _, _, rfl, by decide, rfl⟩
    have lk_many : List.lookup ("many" : Str) (fdOf 12 [a, b, d]) = some b := rfl
    have kf_limit : okF tab Cs "limit" (Cs 12) := ⟨12, _, _, rfl, by decide, rfl⟩
    have lk_limit : List.lookup ("limit" : Str) (fdOf 12 [a, b, d]) = some d := rfl
    have n8 : (Cs 12 = Cs 8) = False := ce_ne TC 12 8
    have n9 : (Cs 12 = Cs 9) = False := ce_ne TC 12 9
    have n10 : (Cs 12 = Cs 10) = False := ce_ne TC 12 10
    have n11 : (Cs 12 = Cs 11) = False := ce_ne TC 12 11
    have n13 : (Cs 12 = Cs 13) = False := ce_ne TC 12 13
    have n14 : (Cs 12 = Cs 14) = False := ce_ne TC 12 14
    have n15 : (Cs 12 = Cs 15) = False := ce_ne TC 12 15
    refine own_step ?_
    refine if_skip (b := fun C => decide (C = Cs 8)) rfl kc (dno n8) ?_
    refine if_skip (b := fun C => decide (C = Cs 9)) rfl kc (dno n9) ?_
    refine if_skip (b := fun C => decide (C = Cs 10)) rfl kc (dno n10) ?_
    refine if_skip (b := fun C => decide (C = Cs 11)) rfl kc (dno n11) ?_
    refine if_app (dueP 12 [a, b, d]) rfl kc (decide_eq_true rfl) rfl (by decide) (fun R E hR => ?_) ?_
    · clear ho hv hk hl F hr hg hp T h
      walk_at "pvh"
      exact hR
    refine if_skip (b := fun C => decide (C = Cs 13)) rfl kc (dno n13) ?_
    refine if_skip (b := fun C => decide (C = Cs 14)) rfl kc (dno n14) ?_
    refine if_skip (b := fun C => decide (C = Cs 15)) rfl kc (dno n15) ?_
    exact h
  · -- NotKept
    obtain ⟨a, b, rfl⟩ : ∃ a b, vals = [a, b] := by match vals, hv with | [a, b], _ => exact ⟨a, b, rfl⟩
    have o_a := ho a (by simp)
    have o_b := ho b (by simp)
    have kc : okC tab Cs (Cs 13) := ⟨13, by decide, rfl⟩
    have kf_promise : okF tab Cs "promise" (Cs 13) := ⟨13, _, _, rfl, by decide, rfl⟩
    have lk_promise : List.lookup ("promise" : Str) (fdOf 13 [a, b]) = some a := rfl
    have kf_witness : okF tab Cs "witness" (Cs 13) := ⟨13, _, _, rfl, by decide, rfl⟩
    have lk_witness : List.lookup ("witness" : Str) (fdOf 13 [a, b]) = some b := rfl
    have n8 : (Cs 13 = Cs 8) = False := ce_ne TC 13 8
    have n9 : (Cs 13 = Cs 9) = False := ce_ne TC 13 9
    have n10 : (Cs 13 = Cs 10) = False := ce_ne TC 13 10
    have n11 : (Cs 13 = Cs 11) = False := ce_ne TC 13 11
    have n12 : (Cs 13 = Cs 12) = False := ce_ne TC 13 12
    have n14 : (Cs 13 = Cs 14) = False := ce_ne TC 13 14
    have n15 : (Cs 13 = Cs 15) = False := ce_ne TC 13 15
    refine own_step ?_
    refine if_skip (b := fun C => decide (C = Cs 8)) rfl kc (dno n8) ?_
    refine if_skip (b := fun C => decide (C = Cs 9)) rfl kc (dno n9) ?_
    refine if_skip (b := fun C => decide (C = Cs 10)) rfl kc (dno n10) ?_
    refine if_skip (b := fun C => decide (C = Cs 11)) rfl kc (dno n11) ?_
    refine if_skip (b := fun C => decide (C = Cs 12)) rfl kc (dno n12) ?_
    refine if_app (dueP 13 [a, b]) rfl kc (decide_eq_true rfl) rfl (by decide) (fun R E hR => ?_) ?_
    · clear ho hv hk hl F hr hg hp T h
      walk_at "pvh"
      exact hR
    refine if_skip (b := fun C => decide (C = Cs 14)) rfl kc (dno n14) ?_
    refine if_skip (b := fun C => decide (C = Cs 15)) rfl kc (dno n15) ?_
    exact h
  · -- NothingToUndo
    obtain rfl : vals = [] := List.length_eq_zero_iff.mp hv
    have kc : okC tab Cs (Cs 14) := ⟨14, by decide, rfl⟩
    have n8 : (Cs 14 = Cs 8) = False := ce_ne TC 14 8
    have n9 : (Cs 14 = Cs 9) = False := ce_ne TC 14 9
    have n10 : (Cs 14 = Cs 10) = False := ce_ne TC 14 10
    have n11 : (Cs 14 = Cs 11) = False := ce_ne TC 14 11
    have n12 : (Cs 14 = Cs 12) = False := ce_ne TC 14 12
    have n13 : (Cs 14 = Cs 13) = False := ce_ne TC 14 13
    have n15 : (Cs 14 = Cs 15) = False := ce_ne TC 14 15
    refine own_step ?_
    refine if_skip (b := fun C => decide (C = Cs 8)) rfl kc (dno n8) ?_
    refine if_skip (b := fun C => decide (C = Cs 9)) rfl kc (dno n9) ?_
    refine if_skip (b := fun C => decide (C = Cs 10)) rfl kc (dno n10) ?_
    refine if_skip (b := fun C => decide (C = Cs 11)) rfl kc (dno n11) ?_
    refine if_skip (b := fun C => decide (C = Cs 12)) rfl kc (dno n12) ?_
    refine if_skip (b := fun C => decide (C = Cs 13)) rfl kc (dno n13) ?_
    refine if_app (dueP 14 []) rfl kc (decide_eq_true rfl) rfl (by decide) (fun R E hR => ?_) ?_
    · clear ho hv hk hl F hr hg hp T h
      walk_at "pvh"
      exact hR
    refine if_skip (b := fun C => decide (C = Cs 15)) rfl kc (dno n15) ?_
    exact h
  · -- NothingToRedo
    obtain rfl : vals = [] := List.length_eq_zero_iff.mp hv
    have kc : okC tab Cs (Cs 15) := ⟨15, by decide, rfl⟩
    have n8 : (Cs 15 = Cs 8) = False := ce_ne TC 15 8
    have n9 : (Cs 15 = Cs 9) = False := ce_ne TC 15 9
    have n10 : (Cs 15 = Cs 10) = False := ce_ne TC 15 10
    have n11 : (Cs 15 = Cs 11) = False := ce_ne TC 15 11
    have n12 : (Cs 15 = Cs 12) = False := ce_ne TC 15 12
    have n13 : (Cs 15 = Cs 13) = False := ce_ne TC 15 13
    have n14 : (Cs 15 = Cs 14) = False := ce_ne TC 15 14
    refine own_step ?_
    refine if_skip (b := fun C => decide (C = Cs 8)) rfl kc (dno n8) ?_
    refine if_skip (b := fun C => decide (C = Cs 9)) rfl kc (dno n9) ?_
    refine if_skip (b := fun C => decide (C = Cs 10)) rfl kc (dno n10) ?_
    refine if_skip (b := fun C => decide (C = Cs 11)) rfl kc (dno n11) ?_
    refine if_skip (b := fun C => decide (C = Cs 12)) rfl kc (dno n12) ?_
    refine if_skip (b := fun C => decide (C = Cs 13)) rfl kc (dno n13) ?_
    refine if_skip (b := fun C => decide (C = Cs 14)) rfl kc (dno n14) ?_
    refine if_app (dueP 15 []) rfl kc (decide_eq_true rfl) rfl (by decide) (fun R E hR => ?_) ?_
    · clear ho hv hk hl F hr hg hp T h
      walk_at "pvh"
      exact hR
    exact h

theorem d_law_kinds (F : Has K mg "_law_kinds" s_law_kinds) (T : Blt mg) (TC : Tc K mg S tab Cs) (D_law_more_kinds : KpE P w K mg base c 1 "_law_more_kinds" ["e"] (spMoreP Cs)) : KpE P w K mg base c 2 "_law_kinds" ["e"] (spKindsP Cs) := by
  refine keepEP F (fun _ _ _ _ _ _ us hl => match us, hl with | [_], _ => rfl) sc_law_kinds (fun f cdv A outer s H E p hr hg hp => ⟨_, (pus_cons (pus_own (i := 1) sc_law_kinds.nd pa_nil')
    (pus_cons (pus_if (pt_val' (pu_isC TC 0 rfl hp T.b_isinstance (pu_var 0))) (pus_one (pus_app (i := 1) (pu_tup (pa_cons' pu_str (pa_cons' (pu_fldC TC hp (pu_var 0)) (pa_cons' (pu_callB (call_reprQ hg (hu65H hr)) rb_repr T.b_repr (by decide +kernel) (pa_cons' (pu_fldC TC hp (pu_var 0)) pa_nil')) pa_nil')))))) pus_nil)
    (pus_cons (pus_if (pt_val' (pu_isC TC 1 rfl hp T.b_isinstance (pu_var 0))) (pus_one (pus_app (i := 1) (pu_tup (pa_cons' pu_str (pa_cons' (pu_fldC TC hp (pu_var 0)) (pa_cons' (pu_callB (call_reprQ hg (hu65H hr)) rb_repr T.b_repr (by decide +kernel) (pa_cons' (pu_fldC TC hp (pu_var 0)) pa_nil')) pa_nil')))))) pus_nil)
    (pus_cons (pus_if (pt_val' (pu_isC TC 2 rfl hp T.b_isinstance (pu_var 0))) (pus_one (pus_app (i := 1) (pu_tup (pa_cons' pu_str (pa_cons' (pu_fldC TC hp (pu_var 0)) pa_nil'))))) pus_nil)
    (pus_cons (pus_if (pt_val' (pu_isC TC 3 rfl hp T.b_isinstance (pu_var 0))) (pus_one (pus_app (i := 1) (pu_tup (pa_cons' pu_str (pa_cons' (pu_fldC TC hp (pu_var 0)) pa_nil'))))) pus_nil)
    (pus_cons (pus_if (pt_val' (pu_isC TC 4 rfl hp T.b_isinstance (pu_var 0))) (pus_one (pus_app (i := 1) (pu_tup (pa_cons' pu_str (pa_cons' (pu_fldC TC hp (pu_var 0)) pa_nil'))))) pus_nil)
    (pus_cons (pus_if (pt_val' (pu_isC TC 5 rfl hp T.b_isinstance (pu_var 0))) (pus_one (pus_app (i := 1) (pu_tup (pa_cons' pu_str (pa_cons' (pu_callB (call_reprQ hg (hu65H hr)) rb_repr T.b_repr (by decide +kernel) (pa_cons' (pu_fldC TC hp (pu_var 0)) pa_nil')) pa_nil'))))) pus_nil)
    (pus_cons (pus_if (pt_val' (pu_isC TC 6 rfl hp T.b_isinstance (pu_var 0))) (pus_one (pus_app (i := 1) (pu_tup (pa_cons' pu_str (pa_cons' (pu_fldC TC hp (pu_var 0)) (pa_cons' (pu_fldC TC hp (pu_var 0)) pa_nil')))))) pus_nil)
    (pus_cons (pus_if (pt_val' (pu_isC TC 7 rfl hp T.b_isinstance (pu_var 0))) (pus_one (pus_app (i := 1) (pu_tup (pa_cons' pu_str (pa_cons' (pu_fldC TC hp (pu_var 0)) (pa_cons' (pu_callB (call_reprQ hg (hu65H hr)) rb_repr T.b_repr (by decide +kernel) (pa_cons' (pu_fldC TC hp (pu_var 0)) pa_nil')) pa_nil')))))) pus_nil)
    (pus_show 1 (pus_one (pus_ret (pu_op op_addU ro_add (pu_var 1) (pu_callE D_law_more_kinds hr hg hp (pa_cons' (pu_var 0) pa_nil'))))))))))))))), fun ss R EX hl h => ?_⟩)
  obtain ⟨k, vals, rfl, hk, hv, ho, h⟩ := h
  have more : Hid (∀ (R' : Sl → Prop), R' (.d (.list (if 8 ≤ k then [dueP k vals] else []))) → spMoreP Cs p [.exc p (Cs k) (fdOf k vals)] R' (fun _ _ => False)) := fun R' h' => ⟨k, vals, rfl, hk, hv, ho, h'⟩
  have hk2 : 8 ≤ k ∨ k = 0 ∨ k = 1 ∨ k = 2 ∨ k = 3 ∨ k = 4 ∨ k = 5 ∨ k = 6 ∨ k = 7 := by omega
  rcases hk2 with hk2 | rfl | rfl | rfl | rfl | rfl | rfl | rfl | rfl
  · have kc : okC tab Cs (Cs k) := ⟨k, hk, rfl⟩
    have n0 : (Cs k = Cs 0) = False := ce_ne TC k 0 (by omega) hk
    have n1 : (Cs k = Cs 1) = False := ce_ne TC k 1 (by omega) hk
    have n2 : (Cs k = Cs 2) = False := ce_ne TC k 2 (by omega) hk
    have n3 : (Cs k = Cs 3) = False := ce_ne TC k 3 (by omega) hk
    have n4 : (Cs k = Cs 4) = False := ce_ne TC k 4 (by omega) hk
    have n5 : (Cs k = Cs 5) = False := ce_ne TC k 5 (by omega) hk
    have n6 : (Cs k = Cs 6) = False := ce_ne TC k 6 (by omega) hk
    have n7 : (Cs k = Cs 7) = False := ce_ne TC k 7 (by omega) hk
    refine own_step ?_
    refine if_skip rfl kc (dno n0) ?_
    refine if_skip rfl kc (dno n1) ?_
    refine if_skip rfl kc (dno n2) ?_
    refine if_skip rfl kc (dno n3) ?_
    refine if_skip rfl kc (dno n4) ?_
    refine if_skip rfl kc (dno n5) ?_
    refine if_skip rfl kc (dno n6) ?_
    refine if_skip rfl kc (dno n7) ?_
    walk_at "pv"
    refine more.get _ ?_
    rw [if_pos hk2]
    walk_at "pv"
    exact h
  · -- BadNumber
    obtain ⟨a, b, rfl⟩ : ∃ a b, vals = [a, b] := by match vals, hv with | [a, b], _ => exact ⟨a, b, rfl⟩
    have o_a := ho a (by simp)
    have o_b := ho b (by simp)
    have kc : okC tab Cs (Cs 0) := ⟨0, by decide, rfl⟩
    have kf_what : okF tab Cs "what" (Cs 0) := ⟨0, _, _, rfl, by decide, rfl⟩
    have lk_what : List.lookup ("what" : Str) (fdOf 0 [a, b]) = some a := rfl
    have kf_number : okF tab Cs "number" (Cs 0) := ⟨0, _, _, rfl, by decide, rfl⟩
    have lk_number : List.lookup ("number" : Str) (fdOf 0 [a, b]) = some b := rfl
    have n1 : (Cs 0 = Cs 1) = False := ce_ne TC 0 1
    have n2 : (Cs 0 = Cs 2) = False := ce_ne TC 0 2
    have n3 : (Cs 0 = Cs 3) = False := ce_ne TC 0 3
    have n4 : (Cs 0 = Cs 4) = False := ce_ne TC 0 4
    have n5 : (Cs 0 = Cs 5) = False := ce_ne TC 0 5
    have n6 : (Cs 0 = Cs 6) = False := ce_ne TC 0 6
    have n7 : (Cs 0 = Cs 7) = False := ce_ne TC 0 7
    refine own_step ?_
    refine if_app (dueP 0 [a, b]) rfl kc (decide_eq_true rfl) rfl (by decide) (fun R E hR => ?_) ?_
    · clear more ho hv hk hl F hr hg hp T h
      walk_at "pvh"
      exact hR
    refine if_skip (b := fun C => decide (C = Cs 1)) rfl kc (dno n1) ?_
    refine if_skip (b := fun C => decide (C = Cs 2)) rfl kc (dno n2) ?_
    refine if_skip (b := fun C => decide (C = Cs 3)) rfl kc (dno n3) ?_
    refine if_skip (b := fun C => decide (C = Cs 4)) rfl kc (dno n4) ?_
    refine if_skip (b := fun C => decide (C = Cs 5)) rfl kc (dno n5) ?_
    refine if_skip (b := fun C => decide (C = Cs 6)) rfl kc (dno n6) ?_
    refine if_skip (b := fun C => decide (C = Cs 7)) rfl kc (dno n7) ?_
    walk_at "pv"
    refine more.get _ ?_
    exact ⟨(by show 1 + 0 ≤ 1000000; decide), h⟩
  · -- BadRow
    obtain ⟨a, b, rfl⟩ : ∃ a b, vals = [a, b] := by match vals, hv with | [a, b], _ => exact ⟨a, b, rfl⟩
    have o_a := ho a (by simp)
    have o_b := ho b (by simp)
    have kc : okC tab Cs (Cs 1) := ⟨1, by decide, rfl⟩
    have kf_what : okF tab Cs "what" (Cs 1) := ⟨1, _, _, rfl, by decide, rfl⟩
    have lk_what : List.lookup ("what" : Str) (fdOf 1 [a, b]) = some a := rfl
    have kf_row : okF tab Cs "row" (Cs 1) := ⟨1, _, _, rfl, by decide, rfl⟩
    have lk_row : List.lookup ("row" : Str) (fdOf 1 [a, b]) = some b := rfl
    have n0 : (Cs 1 = Cs 0) = False := ce_ne TC 1 0
    have n2 : (Cs 1 = Cs 2) = False := ce_ne TC 1 2
    have n3 : (Cs 1 = Cs 3) = False := ce_ne TC 1 3
    have n4 : (Cs 1 = Cs 4) = False := ce_ne TC 1 4
    have n5 : (Cs 1 = Cs 5) = False := ce_ne TC 1 5
    have n6 : (Cs 1 = Cs 6) = False := ce_ne TC 1 6
    have n7 : (Cs 1 = Cs 7) = False := ce_ne TC 1 7
    refine own_step ?_
    refine if_skip (b := fun C => decide (C = Cs 0)) rfl kc (dno n0) ?_
    refine if_app (dueP 1 [a, b]) rfl kc (decide_eq_true rfl) rfl (by decide) (fun R E hR => ?_) ?_
    · clear more ho hv hk hl F hr hg hp T h
      walk_at "pvh"
      exact hR
    refine if_skip (b := fun C => decide (C = Cs 2)) rfl kc (dno n2) ?_
    refine if_skip (b := fun C => decide (C = Cs 3)) rfl kc (dno n3) ?_
    refine if_skip (b := fun C => decide (C = Cs 4)) rfl kc (dno n4) ?_
    refine if_skip (b := fun C => decide (C = Cs 5)) rfl kc (dno n5) ?_
    refine if_skip (b := fun C => decide (C = Cs 6)) rfl kc (dno n6) ?_
    refine if_skip (b := fun C => decide (C = Cs 7)) rfl kc (dno n7) ?_
    walk_at "pv"
    refine more.get _ ?_
    exact ⟨(by show 1 + 0 ≤ 1000000; decide), h⟩
  · -- BadTable
    obtain ⟨a, rfl⟩ := List.length_eq_one_iff.mp hv
    have o_a := ho a (by simp)
    have kc : okC tab Cs (Cs 2) := ⟨2, by decide, rfl⟩
    have kf_what : okF tab Cs "what" (Cs 2) := ⟨2, _, _, rfl, by decide, rfl⟩
    have lk_what : List.lookup ("what" : Str) (fdOf 2 [a]) = some a := rfl
    have n0 : (Cs 2 = Cs 0) = False := ce_ne TC 2 0
    have n1 : (Cs 2 = Cs 1) = False := ce_ne TC 2 1
    have n3 : (Cs 2 = Cs 3) = False := ce_ne TC 2 3
    have n4 : (Cs 2 = Cs 4) = False := ce_ne TC 2 4
    have n5 : (Cs 2 = Cs 5) = False := ce_ne TC 2 5
    have n6 : (Cs 2 = Cs 6) = False := ce_ne TC 2 6
    have n7 : (Cs 2 = Cs 7) = False := ce_ne TC 2 7
    refine own_step ?_
    refine if_skip (b := fun C => decide (C = Cs 0)) rfl kc (dno n0) ?_
    refine if_skip (b := fun C => decide (C = Cs 1)) rfl kc (dno n1) ?_
    refine if_app (dueP 2 [a]) rfl kc (decide_eq_true rfl) rfl (by decide) (fun R E hR => ?_) ?_
    · clear more ho hv hk hl F hr hg hp T h
      walk_at "pvh"
      exact hR
    refine if_skip (b := fun C => decide (C = Cs 3)) rfl kc (dno n3) ?_
    refine if_skip (b := fun C => decide (C = Cs 4)) rfl kc (dno n4) ?_
    refine if_skip (b := fun C => decide (C = Cs 5)) rfl kc (dno n5) ?_
    refine if_skip (b := fun C => decide (C = Cs 6)) rfl kc (dno n6) ?_
    refine if_skip (b := fun C => decide (C = Cs 7)) rfl kc (dno n7) ?_
    walk_at "pv"
    refine more.get _ ?_
    exact ⟨(by show 1 + 0 ≤ 1000000; decide), h⟩
  · -- BadTree
    obtain ⟨a, rfl⟩ := List.length_eq_one_iff.mp hv
    have o_a := ho a (by simp)
    have kc : okC tab Cs (Cs 3) := ⟨3, by decide, rfl⟩
    have kf_what : okF tab Cs "what" (Cs 3) := ⟨3, _, _, rfl, by decide, rfl⟩
    have lk_what : List.lookup ("what" : Str) (fdOf 3 [a]) = some a := rfl
    have n0 : (Cs 3 = Cs 0) = False := ce_ne TC 3 0
    have n1 : (Cs 3 = Cs 1) = False := ce_ne TC 3 1
    have n2 : (Cs 3 = Cs 2) = False := ce_ne TC 3 2
    have n4 : (Cs 3 = Cs 4) = False := ce_ne TC 3 4
    have n5 : (Cs 3 = Cs 5) = False := ce_ne TC 3 5
    have n6 : (Cs 3 = Cs 6) = False := ce_ne TC 3 6
    have n7 : (Cs 3 = Cs 7) = False := ce_ne TC 3 7
    refine own_step ?_
    refine if_skip (b := fun C => decide (C = Cs 0)) rfl kc (dno n0) ?_
    refine if_skip (b := fun C => decide (C = Cs 1)) rfl kc (dno n1) ?_
    refine if_skip (b := fun C => decide (C = Cs 2)) rfl kc (dno n2) ?_
    refine if_app (dueP 3 [a]) rfl kc (decide_eq_true rfl) rfl (by decide) (fun R E hR => ?_) ?_
    · clear more ho hv hk hl F hr hg hp T h
      walk_at "pvh"
      exact hR
    refine if_skip (b := fun C => decide (C = Cs 4)) rfl kc (dno n4) ?_
    refine if_skip (b := fun C => decide (C = Cs 5)) rfl kc (dno n5) ?_
    refine if_skip (b := fun C => decide (C = Cs 6)) rfl kc (dno n6) ?_
    refine if_skip (b := fun C => decide (C = Cs 7)) rfl kc (dno n7) ?_
    walk_at "pv"
    refine more.get _ ?_
    exact ⟨(by show 1 + 0 ≤ 1000000; decide), h⟩
  · -- BadBook
    obtain ⟨a, rfl⟩ := List.length_eq_one_iff.mp hv
    have o_a := ho a (by simp)
    have kc : okC tab Cs (Cs 4) := ⟨4, by decide, rfl⟩
    have kf_what : okF tab Cs "what" (Cs 4) := ⟨4, _, _, rfl, by decide, rfl⟩
    have lk_what : List.lookup ("what" : Str) (fdOf 4 [a]) = some a := rfl
    have n0 : (Cs 4 = Cs 0) = False := ce_ne TC 4 0
    have n1 : (Cs 4 = Cs 1) = False := ce_ne TC 4 1
    have n2 : (Cs 4 = Cs 2) = False := ce_ne TC 4 2
    have n3 : (Cs 4 = Cs 3) = False := ce_ne TC 4 3
    have n5 : (Cs 4 = Cs 5) = False := ce_ne TC 4 5
    have n6 : (Cs 4 = Cs 6) = False := ce_ne TC 4 6
    have n7 : (Cs 4 = Cs 7) = False := ce_ne TC 4 7
    refine own_step ?_
    refine if_skip (b := fun C => decide (C = Cs 0)) rfl kc (dno n0) ?_
    refine if_skip (b := fun C => decide (C = Cs 1)) rfl kc (dno n1) ?_
    refine if_skip (b := fun C => decide (C = Cs 2)) rfl kc (dno n2) ?_
    refine if_skip (b := fun C => decide (C = Cs 3)) rfl kc (dno n3) ?_
    refine if_app (dueP 4 [a]) rfl kc (decide_eq_true rfl) rfl (by decide) (fun R E hR => ?_) ?_
    · clear more ho hv hk hl F hr hg hp T h
      walk_at "pvh"
      exact hR
    refine if_skip (b := fun C => decide (C = Cs 5)) rfl kc (dno n5) ?_
    refine if_skip (b := fun C => decide (C = Cs 6)) rfl kc (dno n6) ?_
    refine if_skip (b := fun C => decide (C = Cs 7)) rfl kc (dno n7) ?_
    walk_at "pv"
    refine more.get _ ?_
    exact ⟨(by show 1 + 0 ≤ 1000000; decide), h⟩
  · -- BadName
    obtain ⟨a, rfl⟩ := List.length_eq_one_iff.mp hv
    have o_a := ho a (by simp)
    have kc : okC tab Cs (Cs 5) := ⟨5, by decide, rfl⟩
    have kf_name : okF tab Cs "name" (Cs 5) := ⟨5, _, _, rfl, by decide, rfl⟩
    have lk_name : List.lookup ("name" : Str) (fdOf 5 [a]) = some a := rfl
    have n0 : (Cs 5 = Cs 0) = False := ce_ne TC 5 0
    have n1 : (Cs 5 = Cs 1) = False := ce_ne TC 5 1
    have n2 : (Cs 5 = Cs 2) = False := ce_ne TC 5 2
    have n3 : (Cs 5 = Cs 3) = False := ce_ne TC 5 3
    have n4 : (Cs 5 = Cs 4) = False := ce_ne TC 5 4
    have n6 : (Cs 5 = Cs 6) = False := ce_ne TC 5 6
    have n7 : (Cs 5 = Cs 7) = False := ce_ne TC 5 7
    refine own_step ?_
    refine if_skip (b := fun C => decide (C = Cs 0)) rfl kc (dno n0) ?_
    refine if_skip (b := fun C => decide (C = Cs 1)) rfl kc (dno n1) ?_
    refine if_skip (b := fun C => decide (C = Cs 2)) rfl kc (dno n2) ?_
    refine if_skip (b := fun C => decide (C = Cs 3)) rfl kc (dno n3) ?_
    refine if_skip (b := fun C => decide (C = Cs 4)) rfl kc (dno n4) ?_
    refine if_app (dueP 5 [a]) rfl kc (decide_eq_true rfl) rfl (by decide) (fun R E hR => ?_) ?_
    · clear more ho hv hk hl F hr hg hp T h
      walk_at "pvh"
      exact hR
    refine if_skip (b := fun C => decide (C = Cs 6)) rfl kc (dno n6) ?_
    refine if_skip (b := fun C => decide (C = Cs 7)) rfl kc (dno n7) ?_
    walk_at "pv"
    refine more.get _ ?_
    exact ⟨(by show 1 + 0 ≤ 1000000; decide), h⟩
  · -- BadText
    obtain ⟨a, b, rfl⟩ : ∃ a b, vals = [a, b] := by match vals, hv with | [a, b], _ => exact ⟨a, b, rfl⟩
    have o_a := ho a (by simp)
    have o_b := ho b (by simp)
    have kc : okC tab Cs (Cs 6) := ⟨6, by decide, rfl⟩
    have kf_line : okF tab Cs "line" (Cs 6) := ⟨6, _, _, rfl, by decide, rfl⟩
    have lk_line : List.lookup ("line" : Str) (fdOf 6 [a, b]) = some a := rfl
    have kf_word : okF tab Cs "word" (Cs 6) := ⟨6, _, _, rfl, by decide, rfl⟩
    have lk_word : List.lookup ("word" : Str) (fdOf 6 [a, b]) = some b := rfl
    have n0 : (Cs 6 = Cs 0) = False := ce_ne TC 6 0
    have n1 : (Cs 6 = Cs 1) = False := ce_ne TC 6 1
    have n2 : (Cs 6 = Cs 2) = False := ce_ne TC 6 2
    have n3 : (Cs 6 = Cs 3) = False := ce_ne TC 6 3
    have n4 : (Cs 6 = Cs 4) = False := ce_ne TC 6 4
    have n5 : (Cs 6 = Cs 5) = False := ce_ne TC 6 5
    have n7 : (Cs 6 = Cs 7) = False := ce_ne TC 6 7
    refine own_step ?_
    refine if_skip (b := fun C => decide (C = Cs 0)) rfl kc (dno n0) ?_
    refine if_skip (b := fun C => decide (C = Cs 1)) rfl kc (dno n1) ?_
    refine if_skip (b := fun C => decide (C = Cs 2)) rfl kc (dno n2) ?_
    refine if_skip (b := fun C => decide (C = Cs 3)) rfl kc (dno n3) ?_
    refine if_skip (b := fun C => decide (C = Cs 4)) rfl kc (dno n4) ?_
    refine if_skip (b := fun C => decide (C = Cs 5)) rfl kc (dno n5) ?_
    refine if_app (dueP 6 [a, b]) rfl kc (decide_eq_true rfl) rfl (by decide) (fun R E hR => ?_) ?_
    · clear more ho hv hk hl F hr hg hp T h
      walk_at "pvh"
      exact hR
    refine if_skip (b := fun C => decide (C = Cs 7)) rfl kc (dno n7) ?_
    walk_at "pv"
    refine more.get _ ?_
    exact ⟨(by show 1 + 0 ≤ 1000000; decide), h⟩
  · -- NoPlace
    obtain ⟨a, b, rfl⟩ : ∃ a b, vals = [a, b] := by match vals, hv with | [a, b], _ => exact ⟨a, b, rfl⟩
    have o_a := ho a (by simp)
    have o_b := ho b (by simp)
    have kc : okC tab Cs (Cs 7) := ⟨7, by decide, rfl⟩
    have kf_what : okF tab Cs "what" (Cs 7) := ⟨7, _, _, rfl, by decide, rfl⟩
    have lk_what : List.lookup ("what" : Str) (fdOf 7 [a, b]) = some a := rfl
    have kf_index : okF tab Cs "index" (Cs 7) := ⟨7, _, _, rfl, by decide, rfl⟩
    have lk_index : List.lookup ("index" : Str) (fdOf 7 [a, b]) = some b := rfl
    have n0 : (Cs 7 = Cs 0) = False := ce_ne TC 7 0
    have n1 : (Cs 7 = Cs 1) = False := ce_ne TC 7 1
    have n2 : (Cs 7 = Cs 2) = False := ce_ne TC 7 2
    have n3 : (Cs 7 = Cs 3) = False := ce_ne TC 7 3
    have n4 : (Cs 7 = Cs 4) = False := ce_ne TC 7 4
    have n5 : (Cs 7 = Cs 5) = False := ce_ne TC 7 5
    have n6 : (Cs 7 = Cs 6) = False := ce_ne TC 7 6
    refine own_step ?_
    refine if_skip (b := fun C => decide (C = Cs 0)) rfl kc (dno n0) ?_
    refine if_skip (b := fun C => decide (C = Cs 1)) rfl kc (dno n1) ?_
    refine if_skip (b := fun C => decide (C = Cs 2)) rfl kc (dno n2) ?_
    refine if_skip (b := fun C => decide (C = Cs 3)) rfl kc (dno n3) ?_
    refine if_skip (b := fun C => decide (C = Cs 4)) rfl kc (dno n4) ?_
    refine if_skip (b := fun C => decide (C = Cs 5)) rfl kc (dno n5) ?_
    refine if_skip (b := fun C => decide (C = Cs 6)) rfl kc (dno n6) ?_
    refine if_app (dueP 7 [a, b]) rfl kc (decide_eq_true rfl) rfl (by decide) (fun R E hR => ?_) ?_
    · clear more ho hv hk hl F hr hg hp T h
      walk_at "pvh"
      exact hR
    walk_at "pv"
    refine more.get _ ?_
    exact ⟨(by show 1 + 0 ≤ 1000000; decide), h⟩

end
end K38
namespace K38
open PySem PySem.Spec PyProof.Rows L2 Lx Px
def okRb (d : PyData) : Bool := d.showable && decide (d.depth ≤ 64) && (!d.hasDict || !hasL d) && decide (d.shown.length ≤ 1000) && plainS d
theorem okR_of {d : PyData} (h : okRb d = true) : OkR d ∧ PyData.strOk d.shown = true := by
  unfold okRb at h
  simp only [Bool.and_eq_true, Bool.or_eq_true, Bool.not_eq_true', decide_eq_true_eq] at h
  obtain ⟨⟨⟨⟨h1, h2⟩, h3⟩, h4⟩, h5⟩ := h
  exact ⟨⟨h1, h2, h3, Nat.le_trans h4 (by decide)⟩, strOk_shown h5⟩
theorem odds_ok : ∀ d ∈ odds, OkR d ∧ PyData.strOk d.shown = true := fun d hd => okR_of (List.all_eq_true.mp (by decide +kernel : odds.all okRb = true) d hd)
theorem menuB_ok : ∀ d ∈ menuB, OkR d ∧ PyData.strOk d.shown = true := fun d hd => okR_of (List.all_eq_true.mp (by decide +kernel : menuB.all okRb = true) d hd)
/-- an item of a bent row -/
structure ItemOk (d : PyData) : Prop where
  sh : d.showable = true
  dp : d.depth ≤ 2
  lv : d.leavesShort 200 = true
  wt : d.weight ≤ 400
  pl : plainS d = true
def itemB (d : PyData) : Bool := d.showable && decide (d.depth ≤ 2) && d.leavesShort 200 && decide (d.weight ≤ 400) && plainS d
theorem item_of {d : PyData} (h : itemB d = true) : ItemOk d := by
  unfold itemB at h
  simp only [Bool.and_eq_true, decide_eq_true_eq] at h
  obtain ⟨⟨⟨⟨h1, h2⟩, h3⟩, h4⟩, h5⟩ := h
  exact ⟨h1, h2, h3, h4, h5⟩
theorem odds_item : ∀ d ∈ odds, ItemOk d := fun d hd => item_of (List.all_eq_true.mp (by decide +kernel : odds.all itemB = true) d hd)
theorem int_ok {i : Int} (h : Bn 145 i) : (PyData.int i).showable = true ∧ (PyData.int i).leavesShort 200 = true ∧ (PyData.int i).weight ≤ 146 := by
  have hl : i.natAbs.log2 < 145 := by
    by_cases z : i.natAbs = 0
    · rw [z]; decide
    · exact (Nat.log2_lt z).mpr h
  refine ⟨?_, ?_, ?_⟩
  · simp only [PyData.showable, decide_eq_true_eq]; omega
  · have e1 := int_text_length_le (k := 145) (by decide) hl
    have e2 : (Str.ofString (toString i)).length ≤ 200 := by rw [PySem.ofString_length]; omega
    exact decide_eq_true (show (PyData.shown (.int i)).length ≤ 200 from e2)
  · simp only [PyData.weight]
    split <;> omega
theorem rat_item {q : Rat} (h : Br 145 q) : ItemOk (ratD q) := by
  obtain ⟨a1, a2, a3⟩ := int_ok h.1
  obtain ⟨b1, b2, b3⟩ := int_ok h.2
  unfold ratD
  split
  · exact ⟨a1, by simp [PyData.depth], a2, by omega, rfl⟩
  · refine ⟨?_, ?_, ?_, ?_, rfl⟩
    · simp [PyData.showable, PyData.showableAll] at a1 b1 ⊢
      exact ⟨a1, b1⟩
    · simp [PyData.depth, PyData.depthAll]
    · simp [PyData.leavesShort, PyData.leavesShortAll] at a2 b2 ⊢
      exact ⟨a2, b2⟩
    · simp only [PyData.weight, PyData.weightAll] at a3 b3 ⊢
      omega
theorem all_items : ∀ {l : List PyData}, (∀ d ∈ l, ItemOk d) → PyData.showableAll l = true ∧ PyData.depthAll l ≤ 2 ∧ PyData.leavesShortAll 200 l = true ∧ PyData.weightAll l ≤ 401 * l.length ∧ plainSs l = true
  | [], _ => ⟨rfl, by simp [PyData.depthAll], rfl, by simp [PyData.weightAll], rfl⟩
  | d :: l, h => by
    obtain ⟨a1, a2, a3, a4, a5⟩ := all_items (l := l) fun x hx => h x (List.mem_cons_of_mem _ hx)
    obtain ⟨b1, b2, b3, b4, b5⟩ := h d List.mem_cons_self
    refine ⟨by simp [PyData.showableAll, a1, b1], by simp only [PyData.depthAll]; omega, by simp [PyData.leavesShortAll, a3, b3], by simp only [PyData.weightAll, List.length_cons]; omega, by simp [plainSs, a5, b5]⟩
theorem row_ok {l : List PyData} (hl : l.length ≤ 5) (h : ∀ d ∈ l, ItemOk d) (nd : PyData.hasDictAll l = false ∨ hasLs l = false) : OkR (.tuple l) ∧ PyData.strOk (PyData.shown (.tuple l)) = true := by
  obtain ⟨a1, a2, a3, a4, a5⟩ := all_items h
  refine ⟨⟨by simpa [PyData.showable] using a1, by simp only [PyData.depth]; omega, nd.imp (fun z => by simpa [PyData.hasDict] using z) fun z => by simpa [hasL] using z, ?_⟩, strOk_shown (by simpa [plainS] using a5)⟩
  have e := PyData.shown_le 200 (by decide) (.tuple l) (by simpa [PyData.leavesShort] using a3)
  have w : PyData.weight (.tuple l) ≤ 401 * 5 := by
    simp only [PyData.weight]
    exact Nat.le_trans a4 (Nat.mul_le_mul_left _ hl)
  have m := Nat.mul_le_mul_left 202 w
  rw [sizeLine_eq]
  omega
theorem hd_rat (q : Rat) : (ratD q).hasDict = false ∧ hasL (ratD q) = false := by
  unfold ratD
  split <;> simp [PyData.hasDict, PyData.hasDictAll, hasL, hasLs]
theorem nd_all : ∀ {l : List PyData}, (∀ d ∈ l, ∃ q, d = ratD q ∧ Br 145 q) → PyData.hasDictAll l = false ∧ hasLs l = false
  | [], _ => ⟨rfl, rfl⟩
  | d :: l, h => by
    obtain ⟨a1, a2⟩ := nd_all (l := l) fun x hx => h x (List.mem_cons_of_mem _ hx)
    obtain ⟨q, rfl, _⟩ := h d List.mem_cons_self
    obtain ⟨b1, b2⟩ := hd_rat q
    exact ⟨by simp [PyData.hasDictAll, a1, b1], by simp [hasLs, a2, b2]⟩
theorem hda_app : ∀ (a b : List PyData), PyData.hasDictAll (a ++ b) = (PyData.hasDictAll a || PyData.hasDictAll b)
  | [], b => by simp [PyData.hasDictAll]
  | x :: a, b => by simp [PyData.hasDictAll, hda_app a b, Bool.or_assoc]
theorem hls_app : ∀ (a b : List PyData), hasLs (a ++ b) = (hasLs a || hasLs b)
  | [], b => by simp [hasLs]
  | x :: a, b => by simp [hasLs, hls_app a b, Bool.or_assoc]
theorem odds_nd : ∀ d ∈ odds, d.hasDict = false ∨ hasL d = false := fun d hd => (odds_ok d hd).1.nd
theorem bent_ok {x : PyData} (h : Bent x) : OkR x ∧ PyData.strOk x.shown = true := by
  rcases h with h | ⟨l, rfl, hl, h | ⟨a, b, o, rfl, ho, ha, hb⟩⟩
  · exact menuB_ok x h
  · exact row_ok hl (fun d hd => by obtain ⟨q, rfl, hq⟩ := h d hd; exact rat_item hq) (.inl (nd_all h).1)
  · refine row_ok hl (fun d hd => ?_) ?_
    · rcases List.mem_append.mp hd with z | z
      · obtain ⟨q, rfl, hq⟩ := ha d z; exact rat_item hq
      · rcases List.mem_cons.mp z with z | z
        · rw [z]; exact odds_item o ho
        · obtain ⟨q, rfl, hq⟩ := hb d z; exact rat_item hq
    · rw [hda_app, hls_app, PyData.hasDictAll, hasLs, (nd_all ha).1, (nd_all ha).2, (nd_all hb).1, (nd_all hb).2]
      simpa using odds_nd o ho
end K38
namespace K38
open PySem PySem.Spec PyProof.Rows L2 Lx Px
local macro_rules | `(tactic| walk_at "pv") => `(tactic| simp only [psSeq, psSet, psPar, psIf, psRet, psDrop, psCont, psNext, psAsg, psFor, psRaise, psOwn, psApp, psShow, uIsP, uFld, pCallE, pdNo, pVar, Px.nth, pC, pOp, pUn, oI, oI0, uI, oAdd, oEq, oEqE, eqv_rat0, List.isEmpty_nil, List.isEmpty_cons, oNe, oIs, oNis, oIx, pNil, pCons, allD, pTup, pLst, pDisp0, bOf, ptB, ptAnd, ptOr, ptNot, pIf, pAndV, pOrV, pNotV, pCalln, pB, bInt, bAbs, bGcd, bLen, bList, bTuple, bRepr, bAll, uIsi, uIsi2, pgName, pgNil, pgCons, pgTup, Px.iR1, Px.iR2, Px.iS, Px.iZip, iZipU, pSl, pNo, pSome, pLc, pYes, noOwn, noOwn1, wipeE, pdOf, startP, List.set, List.map, List.append, List.cons_append, List.nil_append, List.length_cons, List.length_nil, List.replicate, Nat.reduceAdd, Nat.reduceSub, List.getElem?_cons_zero, List.getElem?_cons_succ, isNone, isBool, oSub, oMul, oDiv, oMod, oPow, oLt, oLe, oGt, oGe, at_0, at_1, okE_int, okE_bool, okE_none, okE_rat, eqv_int, eqv_ti, isTy_int_int, isTy_int_tup, isTy_tup_tup, isTy_tup_int, isTy_bool_int, true_and, and_true, beq_iff_eq, decide_eq_true_eq, decide_eq_false_iff_not, beq_eq_false_iff_ne, Bool.not_true, Bool.not_false, Bool.not_eq_true', Bool.not_eq_false', Nat.reduceLeDiff, Option.some.injEq, exists_eq_left', exists_eq_left, forall_const, true_imp_iff, Bool.false_eq_true, Bool.true_eq_false, false_imp_iff, reduceCtorEq])
local macro_rules | `(tactic| walk_at "pvs") => `(tactic| simp [isTy, tyN, at_0, at_1, okE_int, okE_bool, okE_none, eqv_int, oLt, oLe, oGt, oGe, oSub, oMul, oDiv, oMod, oI, oI0])
local macro_rules | `(tactic| walk_at "pvh") => `(tactic| simp only [psSeq, psSet, psPar, psIf, psRet, psDrop, psCont, psNext, psAsg, psFor, psRaise, psOwn, psApp, psShow, uIsP, uFld, pCallE, pdNo, pVar, Px.nth, pC, pOp, pUn, oI, oI0, uI, oAdd, oEq, oEqE, eqv_rat0, List.isEmpty_nil, List.isEmpty_cons, oNe, oIs, oNis, oIx, pNil, pCons, allD, pTup, pLst, pDisp0, bOf, ptB, ptAnd, ptOr, ptNot, pIf, pAndV, pOrV, pNotV, pCalln, pB, bInt, bAbs, bGcd, bLen, bList, bTuple, bRepr, bAll, uIsi, uIsi2, pgName, pgNil, pgCons, pgTup, Px.iR1, Px.iR2, Px.iS, Px.iZip, iZipU, pSl, pNo, pSome, pLc, pYes, noOwn, noOwn1, wipeE, pdOf, startP, List.set, List.map, List.append, List.cons_append, List.nil_append, List.length_cons, List.length_nil, List.replicate, Nat.reduceAdd, Nat.reduceSub, List.getElem?_cons_zero, List.getElem?_cons_succ, isNone, isBool, oSub, oMul, oDiv, oMod, oPow, oLt, oLe, oGt, oGe, at_0, at_1, okE_int, okE_bool, okE_none, okE_rat, eqv_int, eqv_ti, isTy_int_int, isTy_int_tup, isTy_tup_tup, isTy_tup_int, isTy_bool_int, true_and, and_true, beq_iff_eq, decide_eq_true_eq, decide_eq_false_iff_not, beq_eq_false_iff_ne, Bool.not_true, Bool.not_false, Bool.not_eq_true', Bool.not_eq_false', Nat.reduceLeDiff, Option.some.injEq, exists_eq_left', exists_eq_left, forall_const, true_imp_iff, Bool.false_eq_true, Bool.true_eq_false, false_imp_iff, reduceCtorEq, if_true, if_false, not_false_eq_true, not_true_eq_false, *])

abbrev s_law_fault : Stmt := topS 52
theorem sc_law_fault : FnScope ["call", "found", "e"] ["call"] (defScope s_law_fault) := ⟨rfl, rfl, rfl, by decide +kernel, rfl, by decide +kernel, by decide +kernel⟩
theorem roomMk {A : Around} {k : Nat} {v : Option Value} (h : Room k A) : L2H.RoomH k (A.mark v) := ⟨h.dp, h.un⟩
def dueK (Cs : Nat → Addr) : Px.Due := fun C ds r => ∃ (k : Nat) (vals : List PyData), C = Cs k ∧ ds = fdOf k vals ∧ k < 16 ∧ vals.length = ((tab.getD k ("", [])).2).length ∧ (∀ v ∈ vals, OkR v) ∧ r = dueP k vals
def tbF (f c' : Addr) (q : Str) (tl : XK → Hp → VK → Prop) (W : WX) : TS := fun D σ H => ∃ Ech : XK, (∀ cls d σ' H', Ech cls d H' → W cls d σ' H') ∧ σ[0]? = some (some (.ref f)) ∧ H c' = some (LamX.CodeO c' q) ∧ tl Ech H fun _ H' => D.nx σ H'
def tsF (Z : Cx) (suite : List Stmt) : Addr → Value → Option Addr → TS := fun a cls d D σ H => σ.length = Z.N.length → ∀ (oe : Obj) (pn : List (Addr × Obj)), Zc cls d oe → (∃ vs, oe.data = .fields vs) → ∃ t, PSs (Z.suite a ((a, oe) :: pn)) suite t ∧ t D σ H
theorem tbF_ok {Z : Cx} {W : WX} {f c' : Addr} {q a : Str} {tl : XK → Hp → VK → Prop} {p1 p2 p3 : Pos} (h : ∀ (E : XK) (p1 p2 : Pos), (∀ cls d σ' H', E cls d H' → W cls d σ' H') → PE Z (.Call (.Name a p1) [] [] p2) (fun σ H Q => σ[0]? = some (some (.ref f)) ∧ H c' = some (LamX.CodeO c' q) ∧ tl E H Q))
    (hs : swapsWith (.Call (.Name a p1) [] [] p2) none p3.line Z.env = pure false := by rfl) : PSs Z [.Expr (.Call (.Name a p1) [] [] p2) p3] (tbF f c' q tl W) :=
  ⟨fun pins s σ H D I ⟨E, hW, h1, h2, h3⟩ => (pss_one (ps_expr (h E p1 p2 hW) hs)).run pins s σ H D I ⟨h1, h2, h3⟩⟩
theorem tsF_ok {Z : Cx} {suite : List Stmt} {a : Addr} {oe : Obj} {cls : Value} {d : Option Addr} {pn : List (Addr × Obj)} (hz : Zc cls d oe) (hf : ∃ vs, oe.data = .fields vs) (hN : (Z.suite a ((a, oe) :: pn)).N = Z.N) : PSs (Z.suite a ((a, oe) :: pn)) suite (tsF Z suite a cls d) :=
  ⟨fun pins s σ H D I h => let ⟨t, ht, hq⟩ := h (by rw [← hN]; exact I.len) oe pn hz hf; ht.run pins s σ H D I hq⟩
theorem of_puss {Z : Cx} {c : Cc} {W : WX} {sts : List Stmt} {pt : PTS} {H0 F0 F H : Hp} {env : Ev} {σ : Px.St} {D : Ends} {P : PD} (h : PuSs Z c W sts pt) (J : Rel c H0 F0 env F σ H) (L : Lk c W H0 F0 F D P) (hp : pt P env) : ∃ t, PSs Z sts t ∧ t D σ H :=
  let ⟨t, a, b⟩ := h; ⟨t, a, b _ _ _ _ _ _ _ _ J L hp⟩
section
variable {c : Cc} {X : Cx} {S : Addr} {Cs : Nat → Addr}
/-- what the suite of the clause makes of the caught exception -/
theorem p_suite {p : Addr × Obj} {ok : Addr → Prop} (k : Nat) (vals : List PyData) {P : PD} (hk : k < 16) (hl : vals.length = ((tab.getD k ("", [])).2).length) (ho : ∀ v ∈ vals, OkR v) (hok : ok (Cs k)) (h : ∀ env, Px.nth env 1 = some (.d (dueP k vals)) → P.nx env) :
    psSeq (psSet 1 (pCallE 1 (spKindsP Cs p) (pCons (pVar 2) pNil))) (psSet 1 (pIf (ptAnd (ptB (pOp oEq (pB bLen (pCons (pVar 1) pNil)) (pC (.d (.int 1))))) (ptB (pUn (uIsP p ok fun _ => true) (pVar 2)))) (pOp oIx (pVar 1) (pC (.d (.int 0)))) (pTup (pCons (pC (.d (.str "several"))) (pCons (pB bLen (pCons (pVar 1) pNil)) pNil))))) P
      [none, none, some (.exc p (Cs k) (fdOf k vals))] := by
  refine ⟨rfl, k, vals, rfl, hk, hl, ho, ?_⟩
  refine ⟨okE_int _, okE_int _, fun _ => ⟨rfl, hok, fun _ => ⟨_, rfl, h _ rfl⟩, fun z => by cases z⟩, fun z => by simp [PyData.eqv] at z⟩
/-- what _law_fault makes of a lambda -/
theorem give_fault {g : Addr} {cdg : Value} {q : Str} {j : Nat} (T : Blt X.mg) (hVE : X.mg "ValueError" = none) (TC : Tc X.K X.mg S tab Cs) (DK : KpE X.prog X.w X.K X.mg X.base c 2 "_law_kinds" ["e"] (spKindsP Cs)) (hr : Room (j + 3) X.A) (hg : X.A.guards = some []) :
    LamX.GivesTo X ["call", "found", "e"] "_law_fault" (defScope s_law_fault) g cdg (defBody s_law_fault) "call" q (TTf c (dueK Cs)) := by
  intro f c' s H Q tl act hc h
  have hr2 : Room (j + 2) (X.A.deeper (envOfC "_law_fault" (defScope s_law_fault) s.heap.objs.size g cdg)) := hr.deeper _
  have hok : ∀ C, okC tab Cs C → XcF X.K C ∧ PySem.W.kitOne X.K (.ref C) (.type "ValueError") = some true := fun C ⟨i, hi, e⟩ => by
    subst e
    exact ⟨TC.xc i hi, TC.ve i hi⟩
  refine ⟨_, pss_cons (ps_set (i := 1) sc_law_fault.nd rfl (.inl rfl) pe_non) (pss_cons (ps_try_as (i := 2) (tb := tbF f c' q tl) (ts := tsF (cxOf C8.CX0 X.prog X.w X.K X.mg X.base ["call", "found", "e"] "_law_fault" (defScope s_law_fault) g cdg X.A X.stack s H C8.E0).nox _) (Wout := fun _ _ _ _ => False) rfl rfl sc_law_fault.nd rfl rfl ⟨rfl, by decide, .inl TC.gS⟩ LamX.takes0
      (fun W pn xe tk _ => tbF_ok fun E p1 p2 hW => act W pn xe E p1 p2 tk hW) (fun a oe cls d pn hz hf => tsF_ok hz hf rfl)) (pss_one (ps_ret (pv 1)))), ?_⟩
  have es : L2.start ["call", "found", "e"] [V.ref f] = [some (.ref f), none, none] := rfl
  rw [es]
  refine ⟨FaultOut c (dueK Cs) Q, fun cls d σ' H' z => ?_, rfl, hc, h _ _ (fun v H' z => ⟨.non, rfl, z⟩) fun _ _ _ z => z⟩
  obtain ⟨C, ds, r, F', rfl, B, ed, ⟨k, vals, rfl, rfl, hk, hl, ho, rfl⟩, fin⟩ := z
  refine ⟨true, TC.sub k hk, fun _ a ha => ?_, fun z => nomatch z⟩
  intro h3 oe pn hz hf
  obtain ⟨hz1, hz2⟩ := hz
  have J : Rel c H' F' [none, none, some (.exc (a, oe) (Cs k) (fdOf k vals))] F' (σ'.set 2 (some (.ref a))) H' := by
    refine ⟨B, h3, fun i ov s' e1 e2 => ?_, fun i j q xs ys e1 _ _ _ => ?_⟩
    · match i, e2 with
      | 0, e2 => cases e2; exact True.intro
      | 1, e2 => cases e2; exact True.intro
      | 2, e2 =>
        cases e2
        have h4 : 2 < σ'.length := by
          have h5 : (σ'.set 2 (some (V.ref a))).length = 3 := h3
          rw [List.length_set] at h5
          omega
        rw [List.getElem?_set_self h4] at e1
        cases e1
        exact ⟨rfl, hz1, hf, by rw [hz2]; exact ed⟩
      | i + 3, e2 => cases e2
    · match i, e1 with
      | 0, e1 => cases e1
      | 1, e1 => cases e1
      | 2, e1 => cases e1
      | i + 3, e1 => cases e1
  refine of_puss (c := c) (W := WNo) (P := ⟨fun env => Px.nth env 1 = some (.d (dueP k vals)), fun _ => False, fun _ => False, fun _ => False, ENo⟩)
    (pus_cons (pus_set (i := 1) sc_law_fault.nd (pu_callE DK (roomMk hr2) hg List.mem_cons_self (pa_cons' (pu_var 2) pa_nil') (hjk := by omega)))
      (pus_one (pus_set (i := 1) sc_law_fault.nd (pu_if (PuW.pt (pw_and' (pt_cmp' (op_eqD (hu64H (roomMk hr2))) ro_eq (pu_callB c_len rb_len T.b_len PySem.boot_len (pa_cons' (pu_var 1) pa_nil')) pu_int) (pw_and1' (pt_val' (pu_isVE (ok := okC tab Cs) List.mem_cons_self T.b_isinstance hVE hok (pu_var 2)))))) (pu_ix (pu_var 1) pu_int) (pu_tup (pa_cons' pu_str (pa_cons' (pu_callB c_len rb_len T.b_len PySem.boot_len (pa_cons' (pu_var 1) pa_nil')) pa_nil')))))))
    J ⟨fun env' F1 σ1 H1 J1 k1 hn => ?_, fun _ _ _ _ _ _ z => z.elim, fun _ _ _ _ _ _ z => z.elim, fun _ _ _ _ _ _ z => z.elim, link_no⟩ (p_suite k vals hk hl ho ⟨k, hk, rfl⟩ fun env h => h)
  obtain ⟨ov, e1, v, rfl, rv⟩ := J1.get (nth_eq _ _ hn)
  refine ⟨v, ?_, fin v F1 H1 J1.b rv⟩
  rw [List.getElem?_set_ne (by decide)]
  exact e1
end
end K38
namespace K38
open PySem PySem.Spec PyProof.Rows L2 Lx Px
local macro_rules | `(tactic| walk_at "pv") => `(tactic| simp only [psSeq, psSet, psPar, psIf, psRet, psDrop, psCont, psNext, psAsg, psFor, psRaise, psOwn, psApp, psShow, uIsP, uFld, pCallE, pdNo, pVar, Px.nth, pC, pOp, pUn, oI, oI0, uI, oAdd, oEq, oEqE, eqv_rat0, List.isEmpty_nil, List.isEmpty_cons, oNe, oIs, oNis, oIx, pNil, pCons, allD, pTup, pLst, pDisp0, bOf, ptB, ptAnd, ptOr, ptNot, pIf, pAndV, pOrV, pNotV, pCalln, pB, bInt, bAbs, bGcd, bLen, bList, bTuple, bRepr, bAll, uIsi, uIsi2, pgName, pgNil, pgCons, pgTup, Px.iR1, Px.iR2, Px.iS, Px.iZip, iZipU, pSl, pNo, pSome, pLc, pYes, noOwn, noOwn1, wipeE, pdOf, startP, List.set, List.map, List.append, List.cons_append, List.nil_append, List.length_cons, List.length_nil, List.replicate, Nat.reduceAdd, Nat.reduceSub, List.getElem?_cons_zero, List.getElem?_cons_succ, isNone, isBool, oSub, oMul, oDiv, oMod, oPow, oLt, oLe, oGt, oGe, at_0, at_1, okE_int, okE_bool, okE_none, okE_rat, eqv_int, eqv_ti, isTy_int_int, isTy_int_tup, isTy_tup_tup, isTy_tup_int, isTy_bool_int, true_and, and_true, beq_iff_eq, decide_eq_true_eq, decide_eq_false_iff_not, beq_eq_false_iff_ne, Bool.not_true, Bool.not_false, Bool.not_eq_true', Bool.not_eq_false', Nat.reduceLeDiff, Option.some.injEq, exists_eq_left', exists_eq_left, forall_const, true_imp_iff, Bool.false_eq_true, Bool.true_eq_false, false_imp_iff, reduceCtorEq])
local macro_rules | `(tactic| walk_at "pvs") => `(tactic| simp [isTy, tyN, at_0, at_1, okE_int, okE_bool, okE_none, eqv_int, oLt, oLe, oGt, oGe, oSub, oMul, oDiv, oMod, oI, oI0])
local macro_rules | `(tactic| walk_at "pvh") => `(tactic| simp only [psSeq, psSet, psPar, psIf, psRet, psDrop, psCont, psNext, psAsg, psFor, psRaise, psOwn, psApp, psShow, uIsP, uFld, pCallE, pdNo, pVar, Px.nth, pC, pOp, pUn, oI, oI0, uI, oAdd, oEq, oEqE, eqv_rat0, List.isEmpty_nil, List.isEmpty_cons, oNe, oIs, oNis, oIx, pNil, pCons, allD, pTup, pLst, pDisp0, bOf, ptB, ptAnd, ptOr, ptNot, pIf, pAndV, pOrV, pNotV, pCalln, pB, bInt, bAbs, bGcd, bLen, bList, bTuple, bRepr, bAll, uIsi, uIsi2, pgName, pgNil, pgCons, pgTup, Px.iR1, Px.iR2, Px.iS, Px.iZip, iZipU, pSl, pNo, pSome, pLc, pYes, noOwn, noOwn1, wipeE, pdOf, startP, List.set, List.map, List.append, List.cons_append, List.nil_append, List.length_cons, List.length_nil, List.replicate, Nat.reduceAdd, Nat.reduceSub, List.getElem?_cons_zero, List.getElem?_cons_succ, isNone, isBool, oSub, oMul, oDiv, oMod, oPow, oLt, oLe, oGt, oGe, at_0, at_1, okE_int, okE_bool, okE_none, okE_rat, eqv_int, eqv_ti, isTy_int_int, isTy_int_tup, isTy_tup_tup, isTy_tup_int, isTy_bool_int, true_and, and_true, beq_iff_eq, decide_eq_true_eq, decide_eq_false_iff_not, beq_eq_false_iff_ne, Bool.not_true, Bool.not_false, Bool.not_eq_true', Bool.not_eq_false', Nat.reduceLeDiff, Option.some.injEq, exists_eq_left', exists_eq_left, forall_const, true_imp_iff, Bool.false_eq_true, Bool.true_eq_false, false_imp_iff, reduceCtorEq, if_true, if_false, not_false_eq_true, not_true_eq_false, *])

def lamQ (x : Str) : Str := x ++ ".<locals>." ++ "<lambda>"
/-- the code object of the def x is at cd, its table at P' -/
structure Mk (base : Heap) (mg : Str → Option Value) (c : Cc) (x : Str) (cd P' : Addr) : Prop where
  tb : LamX.TabB base mg cd P'
  inT : (P', lamQ x) ∈ c.T
  un : ∀ p ∈ c.T, p.1 = P' → p.2 = lamQ x
section
variable {X : Cx} {c : Cc} {W : WX} {S : Addr} {Cs : Nat → Addr}
theorem pu_flt {x : Str} {cd P' : Addr} {params : Arguments} {body : Expr} {scope : Scope} {p lpos pos : Pos} {pe : PTE} (FF : Has X.K X.mg "_law_fault" s_law_fault) (T : Blt X.mg) (hVE : X.mg "ValueError" = none) (TC : Tc X.K X.mg S tab Cs) (DK : KpE X.prog X.w X.K X.mg X.base c 2 "_law_kinds" ["e"] (spKindsP Cs)) (M : Mk X.base X.mg c x cd P')
    (hr : Room 7 X.A) (hg : X.A.guards = some []) (L : LamX.LamS X.env.scope scope) (hbody : ∀ (A : Around) (outer : List Env) (s : Shared) (H : Hp) (E : XK) (f c' : Addr), Room 5 (A.deeper (LamX.lamEnv X scope s.heap.objs.size f c')) → PuE (LamX.lamCx X A outer s H E scope f c') c (WF E) body pe)
    (hq : X.env.qual ++ "<lambda>" = lamQ x := by rfl) (hcode : X.env.code = .ref cd := by rfl) (hgl : Gl X "_law_fault" := by rfl) (hdef : defaultsOf params X.env = ([], []) := by rfl)
    (hbind : ∀ (q : Str) (cl : List (Str × Addr)) (pm cv ctv : Value), bindArgs (PySem.W.kla_fn "<lambda>" q params body scope cl pm cv ctv) ⟨[], []⟩ = pure [] := by intros; rfl) :
    PuE X c W (.Call (.Name "_law_fault" p) [.Lambda params body scope lpos] [] pos) (pFault (dueK Cs) pe) :=
  pu_fault FF (fun _ _ _ _ _ _ us hl => match us, hl with | [_], _ => rfl) sc_law_fault rfl (.inl rfl) (fun g cdg => give_fault (j := 4) T hVE TC DK hr hg) M.tb hcode (by rw [hq]; exact M.inT) (fun p hp e => by rw [hq]; exact M.un p hp e) hr L hbody hgl hdef hbind
end
theorem rat_inj {p q : Rat} (h : ratD p = ratD q) : q = p := by
  have h1 := congrArg topD h
  have h2 := congrArg botD h
  rw [topD_rat, topD_rat] at h1
  rw [botD_rat, botD_rat] at h2
  exact Rat.ext h1.symm (by omega)
theorem rat_num {q : Rat} (h : ratD q = .int 0) : q.num = 0 := by
  have h1 := congrArg topD h
  rw [topD_rat] at h1
  exact h1
section
variable {C : Addr} {R : Sl → Prop} {EX : Addr → FD → Prop} {p q : Rat} {f : Rat → Rat → PyData}
theorem chk_i (hp : Br 2000 p) (hq : Br 2000 q) (h : R (.d (f p q))) : spChk C f [.d (ratD p), .d (ratD q)] R EX :=
  ⟨_, _, rfl, fun z => (by rw [isRat_rat] at z; cases z), fun _ z => (by rw [isRat_rat] at z; cases z), fun p' q' e1 e2 => by cases rat_inj e1; cases rat_inj e2; exact ⟨hp, hq, h⟩⟩
theorem r2_i {C : Rat → Rat → Prop} (hp : Br 4000 p) (hq : Br 4000 q) (hc : C p q) (h : R (.d (f p q))) : spR2 C f [.d (ratD p), .d (ratD q)] R EX := ⟨_, _, rfl, hp, hq, hc, h⟩
theorem isr_i (h : R (.d (.bool true))) : spIsR [.d (ratD q), .d (ratD q)] R EX := ⟨_, rfl, h⟩
theorem isi_i {i : Int} (h : R (.d (.bool true))) : spIsR [.d (.int i), .d (.int i)] R EX := ⟨Rat.divInt i 1, by rw [ratD_int], h⟩
theorem sg_i (h : R (.d (fSgn p))) : spSign C [.d (ratD p)] R EX := ⟨_, rfl, fun z => (by rw [isRat_rat] at z; cases z), fun p' e => by cases rat_inj e; exact h⟩
theorem ov_i (hp : Br 2000 p) (hq : Br 2000 q) (hn : q.num ≠ 0) (h : R (.d (fDiv p q))) : spOver C [.d (ratD p), .d (ratD q)] R EX :=
  ⟨_, _, rfl, fun z => (by rw [isRat_rat] at z; cases z), fun _ z => (by rw [isRat_rat] at z; cases z), fun p' _ e2 => absurd (rat_num e2) hn, fun p' q' e1 e2 _ => by cases rat_inj e1; cases rat_inj e2; exact ⟨hp, hq, h⟩⟩
theorem ov0_i (hz : q.num = 0) (h : EX C (bn "other" (.int 0))) : spOver C [.d (ratD p), .d (ratD q)] R EX :=
  ⟨_, _, rfl, fun z => (by rw [isRat_rat] at z; cases z), fun _ z => (by rw [isRat_rat] at z; cases z), fun p' _ e2 => (by rw [e2]; exact h), fun p' q' _ e2 hn => by cases rat_inj e2; exact absurd hz hn⟩
theorem yes_i {A B : Prop} (h : B) : (true = false → A) ∧ (true = true → B) := ⟨fun z => Bool.noConfusion z, fun _ => h⟩
end
theorem eq_self {d : PyData} (h : okE d = true) : PyData.eqv d d = true := SeqAt.eqv_refl d (SeqAt.canLay_of_shaped (okE_of h).1)
theorem okE_t2 {a b : Str} (ha : PyData.strOk a = true) (hb : PyData.strOk b = true) : okE (.tuple [.str a, .str b]) = true := by
  simp [Px.okE, SeqAt.shaped, PyData.canLay0, PyData.canLayAll0, PyData.depth, PyData.depthAll, PyData.hasDict, PyData.hasDictAll, ha, hb]
theorem okE_t3 {a b s : Str} (ha : PyData.strOk a = true) (hb : PyData.strOk b = true) (hs : PyData.strOk s = true) : okE (.tuple [.str a, .str b, .str s]) = true := by
  simp [Px.okE, SeqAt.shaped, PyData.canLay0, PyData.canLayAll0, PyData.depth, PyData.depthAll, PyData.hasDict, PyData.hasDictAll, ha, hb, hs]
/-- a told value is the due one -/
theorem same_i {d : PyData} {R : Sl → Prop} (h : okE d = true) (hR : R (.d (.bool true))) : okE d = true ∧ okE d = true ∧ R (.d (.bool (PyData.eqv d d))) := ⟨h, h, by rw [eq_self h]; exact hR⟩
theorem due0 {Cs : Nat → Addr} {x : Str} {d : PyData} (hx : OkR (.str x)) (hd : OkR d) : dueK Cs (Cs 0) (bn x d) (.tuple [.str "number", .str x, .str d.shown]) :=
  ⟨0, [.str x, d], rfl, rfl, by decide, rfl, fun v hv => by rcases List.mem_cons.mp hv with rfl | hv; exact hx; rw [List.mem_singleton.mp hv]; exact hd, rfl⟩
theorem due1 {Cs : Nat → Addr} {x : Str} {d : PyData} (hx : OkR (.str x)) (hd : OkR d) : dueK Cs (Cs 1) (rowF x d) (.tuple [.str "row", .str x, .str d.shown]) :=
  ⟨1, [.str x, d], rfl, rfl, by decide, rfl, fun v hv => by rcases List.mem_cons.mp hv with rfl | hv; exact hx; rw [List.mem_singleton.mp hv]; exact hd, rfl⟩
theorem due10 {Cs : Nat → Addr} {x : Str} (hx : OkR (.str x)) : dueK Cs (Cs 10) (unF x) (.tuple [.str "unlike", .str x]) :=
  ⟨10, [.str x], rfl, rfl, by decide, rfl, fun v hv => by rw [List.mem_singleton.mp hv]; exact hx, rfl⟩
def spPen (c : Cc) : PSp := fun ss R _ => ss = [.raw (.ref c.p)] ∧ R (.d (.bool true))
def spReck : PSp := fun ss R _ => ∃ p q : Rat, ss = [.d (ratD p), .d (ratD q)] ∧ Br 145 p ∧ Br 145 q ∧ R (.d (.bool true))

section
variable {P : Program} {w : World} {K : PySem.W.Frag} {mg : Str → Option Value} {base : Heap} {c : Cc} {S : Addr} {Cs : Nat → Addr} {cd P' : Addr}

end
end K38
namespace K38
open PySem PySem.Spec PyProof.Rows L2 Lx Px
local macro_rules | `(tactic| walk_at "pv") => `(tactic| simp only [psSeq, psSet, psPar, psIf, psRet, psDrop, psCont, psNext, psAsg, psFor, psRaise, psOwn, psApp, psShow, uIsP, uFld, pCallE, pdNo, pVar, Px.nth, pC, pOp, pUn, oI, oI0, uI, oAdd, oEq, oEqE, eqv_rat0, List.isEmpty_nil, List.isEmpty_cons, oNe, oIs, oNis, oIx, pNil, pCons, allD, pTup, pLst, pDisp0, bOf, ptB, ptAnd, ptOr, ptNot, pIf, pAndV, pOrV, pNotV, pCalln, pB, bInt, bAbs, bGcd, bLen, bList, bTuple, bRepr, bAll, uIsi, uIsi2, pgName, pgNil, pgCons, pgTup, Px.iR1, Px.iR2, Px.iS, Px.iZip, iZipU, pSl, pNo, pSome, pLc, pYes, noOwn, noOwn1, wipeE, pdOf, startP, List.set, List.map, List.append, List.cons_append, List.nil_append, List.length_cons, List.length_nil, List.replicate, Nat.reduceAdd, Nat.reduceSub, List.getElem?_cons_zero, List.getElem?_cons_succ, isNone, isBool, oSub, oMul, oDiv, oMod, oPow, oLt, oLe, oGt, oGe, at_0, at_1, okE_int, okE_bool, okE_none, okE_rat, eqv_int, eqv_ti, isTy_int_int, isTy_int_tup, isTy_tup_tup, isTy_tup_int, isTy_bool_int, true_and, and_true, beq_iff_eq, decide_eq_true_eq, decide_eq_false_iff_not, beq_eq_false_iff_ne, Bool.not_true, Bool.not_false, Bool.not_eq_true', Bool.not_eq_false', Nat.reduceLeDiff, Option.some.injEq, exists_eq_left', exists_eq_left, forall_const, true_imp_iff, Bool.false_eq_true, Bool.true_eq_false, false_imp_iff, reduceCtorEq])
local macro_rules | `(tactic| walk_at "pvs") => `(tactic| simp [isTy, tyN, at_0, at_1, okE_int, okE_bool, okE_none, eqv_int, oLt, oLe, oGt, oGe, oSub, oMul, oDiv, oMod, oI, oI0])
local macro_rules | `(tactic| walk_at "pvh") => `(tactic| simp only [psSeq, psSet, psPar, psIf, psRet, psDrop, psCont, psNext, psAsg, psFor, psRaise, psOwn, psApp, psShow, uIsP, uFld, pCallE, pdNo, pVar, Px.nth, pC, pOp, pUn, oI, oI0, uI, oAdd, oEq, oEqE, eqv_rat0, List.isEmpty_nil, List.isEmpty_cons, oNe, oIs, oNis, oIx, pNil, pCons, allD, pTup, pLst, pDisp0, bOf, ptB, ptAnd, ptOr, ptNot, pIf, pAndV, pOrV, pNotV, pCalln, pB, bInt, bAbs, bGcd, bLen, bList, bTuple, bRepr, bAll, uIsi, uIsi2, pgName, pgNil, pgCons, pgTup, Px.iR1, Px.iR2, Px.iS, Px.iZip, iZipU, pSl, pNo, pSome, pLc, pYes, noOwn, noOwn1, wipeE, pdOf, startP, List.set, List.map, List.append, List.cons_append, List.nil_append, List.length_cons, List.length_nil, List.replicate, Nat.reduceAdd, Nat.reduceSub, List.getElem?_cons_zero, List.getElem?_cons_succ, isNone, isBool, oSub, oMul, oDiv, oMod, oPow, oLt, oLe, oGt, oGe, at_0, at_1, okE_int, okE_bool, okE_none, okE_rat, eqv_int, eqv_ti, isTy_int_int, isTy_int_tup, isTy_tup_tup, isTy_tup_int, isTy_bool_int, true_and, and_true, beq_iff_eq, decide_eq_true_eq, decide_eq_false_iff_not, beq_eq_false_iff_ne, Bool.not_true, Bool.not_false, Bool.not_eq_true', Bool.not_eq_false', Nat.reduceLeDiff, Option.some.injEq, exists_eq_left', exists_eq_left, forall_const, true_imp_iff, Bool.false_eq_true, Bool.true_eq_false, false_imp_iff, reduceCtorEq, if_true, if_false, not_false_eq_true, not_true_eq_false, *])

def odds1 : List PyData := [.none, .bool true, .str "1", .tuple [.int 1, .int 2], .list [.int 1]]
def odds2 : List PyData := [.int 0, .none, .bool false, .tuple [.int 1, .int 2]]
theorem not_no' {a : PTT} {env : Ev} {R : Bool → Prop} {E : XP} (h1 : ∀ R : Bool → Prop, R true → a env R E) (h : R false) : ptNot a env R E := h1 _ h

theorem same_n {d : PyData} {R : Bool → Prop} (h : Px.okE d = true) (hR : R false) : Px.okE d = true ∧ Px.okE d = true ∧ R (!(PyData.eqv d d)) := ⟨h, h, by rw [eq_self h]; exact hR⟩
section
variable {P : Program} {w : World} {K : PySem.W.Frag} {mg : Str → Option Value} {base : Heap} {c : Cc} {S : Addr} {Cs : Nat → Addr} {cd P' : Addr}

end
end K38
namespace K38
open PySem PySem.Spec PyProof.Rows L2 Lx
local macro_rules | `(tactic| walk_at "rd") => `(tactic| (with_reducible first
  | refine rr_seq ?_ | refine rr_asg ?_ | refine rr_n0 ?_ | refine rr_n1 ?_ | refine rr_n2 ?_ | refine rr_n3 ?_ | refine rr_n4 ?_ | refine rr_n5 ?_ | refine rr_n6 ?_ | refine rr_n7 ?_ | refine rr_n8 ?_ | refine rr_n9 ?_ | refine rr_n10 ?_ | refine rr_n11 ?_ | refine rr_n12 ?_ | refine rr_n13 ?_ | refine rr_drop ?_ | refine rr_ret ?_ | refine rr_ifs ?_ | refine rr_if ?_ | refine rr_test ?_ | refine rr_tB ?_ | refine rr_bl ?_
  | refine rr_and ?_ | refine rr_or ?_ | refine rr_not ?_ | refine rr_v0 ?_ | refine rr_v1 ?_ | refine rr_v2 ?_ | refine rr_v3 ?_ | refine rr_v4 ?_ | refine rr_v5 ?_ | refine rr_v6 ?_ | refine rr_v7 ?_ | refine rr_v8 ?_ | refine rr_v9 ?_ | refine rr_v10 ?_ | refine rr_v11 ?_ | refine rr_v12 ?_ | refine rr_v13 ?_ | refine rr_c ?_ | refine rr_op ?_ | refine rr_un ?_ | refine rr_i0 ?_ | refine rr_eqi ?_ | refine rr_nei ?_
  | refine rr_cons ?_ | refine rr_nil ?_ | refine rr_cb ?_ | refine rr_call ?_ | refine rr_tup ?_ | refine rr_lst ?_ | refine rr_lstN ?_ | refine rr_dget ?_ | refine rr_dput ?_ | refine rr_next ?_ | refine rr_int ?_ | refine rr_disp ?_ | refine rr_pcons ?_ | refine rr_pnil ?_ | refine rr_isN ?_ | refine rr_notN ?_ | refine rr_callR ?_ | refine rr_bm ?_ | refine rr_fldP ?_ | refine rr_rf ?_))
local macro_rules | `(tactic| walk_at "rds") => `(tactic| repeat walk_at "rd")
theorem ini_BadNumber {K : PySem.W.Frag} {mg : Str → Option Value} {C fI : Addr} {fd : FuncData} (F : Fun K "__init__" "BadNumber.__init__" (inClass (topS 3) 0) fI fd) (T : OexC K C) (nf : ∀ f : Str, f ∈ (["what", "number"] : List Str) → PySem.W.findIn K (.ref C) f = some none) (P : Program) (w : World) (base : Heap) :
    FnOk P w K mg base CX0 1 fI fd ["self", "what", "number"] (spI C ["what", "number"]) := by
  have sc : FnScope ["self", "what", "number"] ["self", "what", "number"] (defScope (inClass (topS 3) 0)) := ⟨rfl, rfl, rfl, by decide +kernel, rfl, by decide +kernel, by decide +kernel⟩
  refine F.ok sc (fun vs H Q E h => ?_) (fun cdv A outer s H vs Q E hr h => ⟨_, (pss_cons (ps_ost (pv 0) (pv 1)) (pss_one (ps_ost (pv 0) (pv 2)))), ?_⟩)
  · obtain ⟨a, ws, rfl, hl, _⟩ := h
    rw [List.length_cons, hl]
    rfl
  obtain ⟨a, ws, rfl, hl, ha, k⟩ := h
  obtain ⟨v0, v1, rfl⟩ : ∃ v0 v1, ws = [v0, v1] := match ws, hl with | [a, b], _ => ⟨a, b, rfl⟩
  have es : L2.start ["self", "what", "number"] [V.ref a, v0, v1] = [some (V.ref a), some v0, some v1] := rfl
  rw [es]
  walk_at "rds"
  refine rr_ostA T (nf _ (by simp)) rfl rfl ha fun d hd hn => ?_
  walk_at "rds"
  refine rr_ostB T (nf _ (by simp)) rfl rfl upd_same (by rw [upd_ne hn, upd_same]) (by simp) ?_
  refine k d _ hd hn (by rw [upd_ne (Ne.symm hn), upd_same]) (by rw [upd_same]; rfl) fun b n1 n2 => by rw [upd_ne n2, upd_ne n1, upd_ne n2]
theorem ini_BadRow {K : PySem.W.Frag} {mg : Str → Option Value} {C fI : Addr} {fd : FuncData} (F : Fun K "__init__" "BadRow.__init__" (inClass (topS 4) 0) fI fd) (T : OexC K C) (nf : ∀ f : Str, f ∈ (["what", "row"] : List Str) → PySem.W.findIn K (.ref C) f = some none) (P : Program) (w : World) (base : Heap) :
    FnOk P w K mg base CX0 1 fI fd ["self", "what", "row"] (spI C ["what", "row"]) := by
  have sc : FnScope ["self", "what", "row"] ["self", "what", "row"] (defScope (inClass (topS 4) 0)) := ⟨rfl, rfl, rfl, by decide +kernel, rfl, by decide +kernel, by decide +kernel⟩
  refine F.ok sc (fun vs H Q E h => ?_) (fun cdv A outer s H vs Q E hr h => ⟨_, (pss_cons (ps_ost (pv 0) (pv 1)) (pss_one (ps_ost (pv 0) (pv 2)))), ?_⟩)
  · obtain ⟨a, ws, rfl, hl, _⟩ := h
    rw [List.length_cons, hl]
    rfl
  obtain ⟨a, ws, rfl, hl, ha, k⟩ := h
  obtain ⟨v0, v1, rfl⟩ : ∃ v0 v1, ws = [v0, v1] := match ws, hl with | [a, b], _ => ⟨a, b, rfl⟩
  have es : L2.start ["self", "what", "row"] [V.ref a, v0, v1] = [some (V.ref a), some v0, some v1] := rfl
  rw [es]
  walk_at "rds"
  refine rr_ostA T (nf _ (by simp)) rfl rfl ha fun d hd hn => ?_
  walk_at "rds"
  refine rr_ostB T (nf _ (by simp)) rfl rfl upd_same (by rw [upd_ne hn, upd_same]) (by simp) ?_
  refine k d _ hd hn (by rw [upd_ne (Ne.symm hn), upd_same]) (by rw [upd_same]; rfl) fun b n1 n2 => by rw [upd_ne n2, upd_ne n1, upd_ne n2]
theorem ini_Unlike {K : PySem.W.Frag} {mg : Str → Option Value} {C fI : Addr} {fd : FuncData} (F : Fun K "__init__" "Unlike.__init__" (inClass (topS 13) 0) fI fd) (T : OexC K C) (nf : ∀ f : Str, f ∈ (["what"] : List Str) → PySem.W.findIn K (.ref C) f = some none) (P : Program) (w : World) (base : Heap) :
    FnOk P w K mg base CX0 1 fI fd ["self", "what"] (spI C ["what"]) := by
  have sc : FnScope ["self", "what"] ["self", "what"] (defScope (inClass (topS 13) 0)) := ⟨rfl, rfl, rfl, by decide +kernel, rfl, by decide +kernel, by decide +kernel⟩
  refine F.ok sc (fun vs H Q E h => ?_) (fun cdv A outer s H vs Q E hr h => ⟨_, (pss_one (ps_ost (pv 0) (pv 1))), ?_⟩)
  · obtain ⟨a, ws, rfl, hl, _⟩ := h
    rw [List.length_cons, hl]
    rfl
  obtain ⟨a, ws, rfl, hl, ha, k⟩ := h
  obtain ⟨v0, rfl⟩ : ∃ v0, ws = [v0] := match ws, hl with | [a], _ => ⟨a, rfl⟩
  have es : L2.start ["self", "what"] [V.ref a, v0] = [some (V.ref a), some v0] := rfl
  rw [es]
  walk_at "rds"
  refine rr_ostA T (nf _ (by simp)) rfl rfl ha fun d hd hn => ?_
  refine k d _ hd hn upd_same (by rw [upd_ne hn, upd_same]; rfl) fun b n1 n2 => by rw [upd_ne n1, upd_ne n2]
end K38
namespace K38
open PySem PySem.Spec PyProof.Rows L2 Lx Px

theorem bn_up {a n : Nat} {i : Int} (h1 : Bn a i) (h : a ≤ n) : Bn n i := Nat.lt_of_lt_of_le h1 (Nat.pow_le_pow_right (by decide) h)
theorem bn_mulL {a b : Nat} {i j : Int} (h1 : Bn a i) (h2 : Bn b j) : Bn (a + b) (i * j) := wide_lt h1 h2
theorem bn_addL {a : Nat} {i j : Int} (h1 : Bn a i) (h2 : Bn a j) : Bn (a + 1) (i + j) := by
  unfold Bn at *
  rw [Nat.pow_succ]
  have := Int.natAbs_add_le i j
  omega
theorem br_add {n m : Nat} {p q : Rat} (hp : Br n p) (hq : Br m q) : Br (n + m + 1) (p + q) := by
  have d1 := p.den_nz
  have d2 := q.den_nz
  rw [← divInt_add]
  refine br_div (Int.mul_ne_zero (by omega) (by omega)) ?_ ?_
  · exact bn_addL (bn_mulL hp.1 hq.2) (by rw [Nat.add_comm n m]; exact bn_mulL hq.1 hp.2)
  · exact bn_up (bn_mulL hp.2 hq.2) (by omega)
theorem br_mul {n m : Nat} {p q : Rat} (hp : Br n p) (hq : Br m q) : Br (n + m) (p * q) := by
  have d1 := p.den_nz
  have d2 := q.den_nz
  rw [← divInt_mul]
  exact br_div (Int.mul_ne_zero (by omega) (by omega)) (bn_mulL hp.1 hq.1) (bn_mulL hp.2 hq.2)
theorem br_up {a n : Nat} {q : Rat} (h : Br a q) (hn : a ≤ n) : Br n q := ⟨bn_up h.1 hn, bn_up h.2 hn⟩
theorem br_zero {n : Nat} : Br (n + 1) 0 := ⟨by unfold Bn; exact Nat.pow_pos (by decide), by unfold Bn; exact Nat.one_lt_two_pow (by omega)⟩
theorem br_one {n : Nat} : Br (n + 1) 1 := ⟨by unfold Bn; exact Nat.one_lt_two_pow (by omega), by unfold Bn; exact Nat.one_lt_two_pow (by omega)⟩
theorem br_frac {a b : Int} (a0 : -3 ≤ a) (a1 : a ≤ 3) (b0 : 1 ≤ b) (b1 : b ≤ 4) : Br 3 (Rat.divInt a b) := br_div (by omega) (by unfold Bn; omega) (by unfold Bn; omega)
/-- names of the builtins and numbers of the program -/
structure Blx (mg : Str → Option Value) : Prop where
  e : mg "enumerate" = none
  s : mg "sorted" = none
  su : mg "sum" = none
  ml : ∃ t, mg "MOST_LETTERS" = some (.int 9 t)
  md : ∃ t, mg "MOST_DEGREE" = some (.int 8 t)
theorem pu_const_MOST_LETTERS {X : Cx} {c : Cc} {W : WX} {pos : Pos} (Z : Blx X.mg) (hg : Gl X "MOST_LETTERS" := by rfl) : PuE X c W (.Name "MOST_LETTERS" pos) (pC (.d (.int 9))) := pu_glob (v := .int 9) (s := .d (.int 9)) Z.ml.choose_spec ⟨_, rfl⟩ (fun _ => Rq.int 9) hg
theorem pu_const_MOST_DEGREE {X : Cx} {c : Cc} {W : WX} {pos : Pos} (Z : Blx X.mg) (hg : Gl X "MOST_DEGREE" := by rfl) : PuE X c W (.Name "MOST_DEGREE" pos) (pC (.d (.int 8))) := pu_glob (v := .int 8) (s := .d (.int 8)) Z.md.choose_spec ⟨_, rfl⟩ (fun _ => Rq.int 8) hg
/-! ### movings as data -/
abbrev Term := List Nat × Rat
def natsD (o : List Nat) : List PyData := o.map fun (i : Nat) => .int (i : Int)
abbrev termT (t : Term) : PyData := .tuple [.tuple (natsD t.1), ratD t.2]
abbrev lineT (l : List Term) : PyData := .tuple (l.map termT)
abbrev movD (m : List (List Term)) : PyData := .tuple (m.map lineT)
abbrev fdM (n : Nat) (m : List (List Term)) : FD := [("d", .int (n : Int)), ("rows", movD m)]
abbrev stM (S : Addr) (n : Nat) (m : List (List Term)) : Sl := .obj S (fdM n m)
abbrev rowD (r : List Rat) : PyData := .tuple (r.map ratD)
def SeqOf (l : List PyData) (x : PyData) : Prop := x = .list l ∨ x = .tuple l
def TermIn (t : Term) (x : PyData) : Prop := ∃ e, SeqOf (natsD t.1) e ∧ SeqOf [e, ratD t.2] x
def LineIn (l : List Term) (x : PyData) : Prop := ∃ xs, SeqOf xs x ∧ Paired TermIn l xs
def MovIn (m : List (List Term)) (x : PyData) : Prop := ∃ xs, SeqOf xs x ∧ Paired LineIn m xs
def RowIn (r : List Rat) (x : PyData) : Prop := SeqOf (r.map ratD) x
def natI (o : List Nat) : List Int := o.map fun (i : Nat) => (i : Int)
def cd (t : Term) : Int := TS.code 16 (natI t.1)
def ascB (l : List Term) : Bool := (List.range (l.length - 1)).all fun i => decide (cd (l.getD i ([], 0)) < cd (l.getD (i + 1) ([], 0)))
structure TermOk (n : Nat) (t : Term) : Prop where
  len : t.1.length = n
  deg : t.1.sum ≤ 8
  nz : t.2.num ≠ 0
structure LineOk (n : Nat) (l : List Term) : Prop where
  tm : ∀ t ∈ l, TermOk n t
  asc : ascB l = true
structure MovOk (n : Nat) (m : List (List Term)) : Prop where
  len : m.length = n
  ln : ∀ l ∈ m, LineOk n l ∧ l.length ≤ 100
/-- nested so deep at most, few items -/
def WD : Nat → PyData → Prop
  | 0, _ => False
  | n + 1, x => ∀ l, seqD x = some l → l.length ≤ 1000 ∧ ∀ d ∈ l, WD n d
/-- nested, few items, so deep as one looks -/
def WL : Nat → PyData → Prop
  | 0, _ => True
  | n + 1, x => ∀ l, seqD x = some l → l.length ≤ 1000 ∧ ∀ d ∈ l, WL n d
mutual
def asT : PyData → PyData
  | .list l => .tuple (asTs l)
  | .tuple l => .tuple (asTs l)
  | d => d
def asTs : List PyData → List PyData
  | [] => []
  | d :: l => asT d :: asTs l
end
theorem asTs_map : ∀ l : List PyData, asTs l = l.map asT
  | [] => rfl
  | d :: l => by unfold asTs; rw [asTs_map l]; rfl
def natB : PyData → Bool
  | .int i => decide (0 ≤ i)
  | _ => false
def intSum : List PyData → Int
  | [] => 0
  | d :: l => topD d + intSum l
def expB (x : PyData) (n : Nat) : Bool := match seqD x with
  | some l => l.length == n && (l.all natB && decide (intSum l ≤ 8))
  | none => false
def termB (x : PyData) (n : Nat) : Bool := match seqD x with
  | some [e, r] => expB e n && (isRat r && !decide (topD r = 0))
  | _ => false
def toInts : List PyData → List Int := fun l => l.map topD
def expsOf (x : PyData) : List Int := match seqD x with
  | some (e :: _) => match seqD e with
    | some l => toInts l
    | none => []
  | _ => []
def ascD (l : List PyData) : Bool := (List.range (l.length - 1)).all fun i => decide (TS.code 16 (expsOf (l.getD i .none)) < TS.code 16 (expsOf (l.getD (i + 1) .none)))
def sumB (x : PyData) (n : Nat) : Bool := match seqD x with
  | some l => (l.all fun d => termB d n) && ascD l
  | none => false
def movB (x : PyData) (n : Nat) : Bool := match seqD x with
  | some l => l.length == n && l.all fun d => sumB d n
  | none => false
def dB : PyData → Bool
  | .int i => decide (1 ≤ i) && decide (i ≤ 9)
  | _ => false
def Sh1 (x : PyData) : Prop := ∀ l, seqD x = some l → l.length ≤ 1000
def spAsT (k : Nat) : PSp := fun ss R _ => ∃ x, ss = [.d x] ∧ WD k x ∧ R (.d (asT x))
def spTerm : PSp := fun ss R _ => ∃ (x : PyData) (n : Nat), ss = [.d x, .d (.int (n : Int))] ∧ n ≤ 9 ∧ WL 2 x ∧ R (.d (.bool (termB x n)))
def spSumB : PSp := fun ss R _ => ∃ (x : PyData) (n : Nat), ss = [.d x, .d (.int (n : Int))] ∧ n ≤ 9 ∧ WL 3 x ∧ R (.d (.bool (sumB x n)))
def spIM (CN CT : Addr) : PIs := fun ss R EX => ∃ x y : PyData, ss = [.d x, .d y] ∧ ((dB x = false ∧ EX CN [("number", x), ("what", .str "d")]) ∨ ∃ n : Nat, x = .int (n : Int) ∧ 1 ≤ n ∧ n ≤ 9 ∧
  ((WL 4 y ∧ movB y n = false ∧ EX CT [("what", .str "rows")]) ∨ ∃ m, MovIn m y ∧ MovOk n m ∧ R (fdM n m)))
def spEM (S : Addr) : PSp := fun ss R _ => (∃ n m n' m', ss = [stM S n m, stM S n' m'] ∧ R (.d (.bool (decide (n = n' ∧ m = m'))))) ∨ ∃ ds d, ss = [.obj S ds, .d d] ∧ R (.d (.bool false))
def spNeedM (S CT : Addr) : PSp := fun ss R EX => (∃ ds, ss = [.obj S ds] ∧ R (.obj S ds)) ∨ ∃ d, ss = [.d d] ∧ EX CT [("what", .str "moving")]
def spPt (CR : Addr) : PSp := fun ss R EX => ∃ (x : PyData) (n : Nat), ss = [.d x, .d (.int (n : Int))] ∧ ((Sh1 x ∧ rowOk x (n : Int) = false ∧ EX CR [("row", x), ("what", .str "point")]) ∨ ∃ p : List Rat, RowIn p x ∧ p.length = n ∧ n ≤ 9 ∧ R (.d (rowD p)))
def powr (p : Rat) (y : Rat) : Nat → Rat
  | 0 => p
  | n + 1 => powr p y n * y
def monoZ (y : List Rat) (t : Term) : Rat := (y.zip t.1).foldl (fun p z => powr p z.1 z.2) t.2
def lineZ (y : List Rat) (l : List Term) : Rat := l.foldl (fun s t => s + monoZ y t) 0
def movZ (y : List Rat) (m : List (List Term)) : List Rat := m.map (lineZ y)
abbrev one1 (q : Rat) : PyData := .tuple [ratD q]
def spTm0 : PSp := fun ss R _ => ∃ p q : Rat, ss = [.d (one1 p), .d (one1 q), .d (.int 0)] ∧ Br 4000 p ∧ Br 4000 q ∧ Br 4000 (p * q) ∧ R (.d (one1 (p * q)))
def spPl0 : PSp := fun ss R _ => ∃ p q : Rat, ss = [.d (one1 p), .d (one1 q)] ∧ Br 4000 p ∧ Br 4000 q ∧ R (.d (one1 (p + q)))
/-- a sum of small terms at a small point: b for the point, e for the numbers, g the degree -/
structure LineS (b e g : Nat) (p : List Rat) (l : List Term) : Prop where
  few : l.length * (e + g * b + 1) + 1 ≤ 4000
  tm : ∀ t ∈ l, t.1.length = p.length ∧ t.1.sum ≤ g ∧ Br e t.2
  pt : ∀ q ∈ p, Br b q
def spSumAt : PSp := fun ss R _ => ∃ (b e g : Nat) (l : List Term) (p : List Rat), ss = [.d (lineT l), .d (.list (p.map one1)), .d (.int 0)] ∧ p.length ≤ 9 ∧ g ≤ 8 ∧ LineS b e g p l ∧ R (.d (one1 (lineZ p l)))
def MovS (b e g : Nat) (p : List Rat) (m : List (List Term)) : Prop := ∀ l ∈ m, LineS b e g p l
def spVals (S : Addr) : PSp := fun ss R _ => ∃ (b e g n : Nat) (m : List (List Term)) (p : List Rat), ss = [stM S n m, .d (.list (p.map one1)), .d (.int 0)] ∧ m.length ≤ 9 ∧ p.length ≤ 9 ∧ g ≤ 8 ∧ MovS b e g p m ∧ R (.d (.list ((movZ p m).map one1)))
def spVal (S CT CR : Addr) : PSp := fun ss R EX => (∃ d x, ss = [.d d, .d x] ∧ EX CT [("what", .str "moving")]) ∨ ∃ n m x, ss = [stM S n m, .d x] ∧ n ≤ 9 ∧ ((Sh1 x ∧ rowOk x (n : Int) = false ∧ EX CR [("row", x), ("what", .str "point")]) ∨
  ∃ (b e g : Nat) (p : List Rat), RowIn p x ∧ p.length = n ∧ m.length = n ∧ g ≤ 8 ∧ MovS b e g p m ∧ R (.d (rowD (movZ p m))))
theorem bools_true : ∀ {l : List PyData} {f : PyData → Bool}, (∀ d ∈ l, f d = true) → ∃ bs, boolsOf (l.map fun d => .bool (f d)) = some bs ∧ bs.all id = true
  | [], _, _ => ⟨[], rfl, rfl⟩
  | d :: l, f, h => by
    obtain ⟨bs, e1, e2⟩ := bools_true (l := l) (f := f) fun x hx => h x (List.mem_cons_of_mem _ hx)
    refine ⟨f d :: bs, ?_, ?_⟩
    · rw [List.map_cons]; unfold boolsOf; rw [e1]; rfl
    · rw [List.all_cons, e2, h d List.mem_cons_self]; rfl
/-- data that == takes, n deep -/
structure OkN (n : Nat) (d : PyData) : Prop where
  lay : d.canLay0 = true
  dep : d.depth ≤ n
  nd : d.hasDict = false
theorem okN_all {n : Nat} : ∀ {l : List PyData}, (∀ d ∈ l, OkN n d) → PyData.canLayAll0 l = true ∧ PyData.depthAll l ≤ n ∧ PyData.hasDictAll l = false
  | [], _ => ⟨rfl, Nat.zero_le _, rfl⟩
  | d :: l, h => by
    obtain ⟨h1, h2, h3⟩ := h d List.mem_cons_self
    obtain ⟨e1, e2, e3⟩ := okN_all (l := l) fun x hx => h x (List.mem_cons_of_mem _ hx)
    refine ⟨?_, ?_, ?_⟩
    · simp [PyData.canLayAll0, h1, e1]
    · simp only [PyData.depthAll]; omega
    · simp [PyData.hasDictAll, h3, e3]
theorem okN_tup {n : Nat} {l : List PyData} (h : ∀ d ∈ l, OkN n d) : OkN (n + 1) (.tuple l) := by
  obtain ⟨e1, e2, e3⟩ := okN_all h
  exact ⟨by simpa [PyData.canLay0] using e1, by simp only [PyData.depth]; omega, by simpa [PyData.hasDict] using e3⟩
theorem okN_lst {n : Nat} {l : List PyData} (h : ∀ d ∈ l, OkN n d) : OkN (n + 1) (.list l) := by
  obtain ⟨e1, e2, e3⟩ := okN_all h
  exact ⟨by simpa [PyData.canLay0] using e1, by simp only [PyData.depth]; omega, by simpa [PyData.hasDict] using e3⟩
theorem okN_up {n m : Nat} {d : PyData} (h : OkN n d) (hm : n ≤ m) : OkN m d := ⟨h.lay, Nat.le_trans h.dep hm, h.nd⟩
theorem okN_E {n : Nat} {d : PyData} (h : OkN n d) (hn : n ≤ 64) : Px.okE d = true := by
  have : d.depth ≤ 64 := Nat.le_trans h.dep hn
  simp [Px.okE, SeqAt.shaped, h.lay, h.nd, this]
theorem okN_int (i : Int) : OkN 0 (.int i) := ⟨rfl, Nat.le_refl _, rfl⟩
theorem okN_str {x : Str} (h : PyData.strOk x = true) : OkN 0 (.str x) := ⟨by simpa [PyData.canLay0] using h, by simp [PyData.depth], rfl⟩
theorem okN_rat (q : Rat) : OkN 1 (ratD q) := by
  rcases ratD_or q with ⟨i, e, _⟩ | ⟨a, b, e, _⟩ <;> rw [e]
  · exact okN_up (okN_int i) (by decide)
  · refine okN_tup fun d hd => ?_
    simp only [List.mem_cons, List.not_mem_nil, or_false] at hd
    rcases hd with rfl | rfl <;> exact okN_int _
theorem zipD_map {α β : Type} (f : α → PyData) (g : β → PyData) : ∀ (l : List α) (m : List β), zipD (l.map f) (m.map g) = (List.zip l m).map fun z => .tuple [f z.1, g z.2]
  | [], _ => by simp [zipD]
  | _ :: _, [] => by simp [zipD]
  | a :: l, b :: m => by
    have ih := zipD_map f g l m
    unfold zipD at ih ⊢
    simp only [List.map_cons, List.zipWith_cons_cons, List.zip_cons_cons, ih]
theorem rep0 (n : Nat) : repD n [.int 0] = (List.replicate n (0 : Rat)).map ratD := by
  unfold repD
  induction n with
  | zero => rfl
  | succ n ih => rw [List.replicate_succ, List.replicate_succ, List.flatten_cons, ih]; rfl
theorem hu_lt {A : Around} {k : Nat} (hr : Room k A) : A.units < cLine := by have := hr.un; omega
theorem uAt_d {S : Addr} {x y : PyData} {R : Sl → Prop} : uAt S ["d", "rows"] "d" (.obj S [("d", x), ("rows", y)]) R = R (.d x) := propext ⟨fun ⟨_, _, d, e, h⟩ => by
  have e : some x = some d := e
  cases e; exact h, fun h => ⟨rfl, List.mem_cons_self, x, rfl, h⟩⟩
theorem uAt_rows {S : Addr} {x y : PyData} {R : Sl → Prop} : uAt S ["d", "rows"] "rows" (.obj S [("d", x), ("rows", y)]) R = R (.d y) := propext ⟨fun ⟨_, _, d, e, h⟩ => by
  have e : some y = some d := e
  cases e; exact h, fun h => ⟨rfl, List.mem_cons_of_mem _ List.mem_cons_self, y, rfl, h⟩⟩
theorem nat_ints : ∀ {es : List PyData}, es.all natB = true → ∃ ns : List Int, es = intsD ns
  | [], _ => ⟨[], rfl⟩
  | d :: es, h => by
    rw [List.all_cons, Bool.and_eq_true] at h
    obtain ⟨ns, rfl⟩ := nat_ints h.2
    have h1 := h.1
    cases d <;> simp [natB] at h1
    rename_i i
    exact ⟨i :: ns, rfl⟩
theorem intSum_eq : ∀ ns : List Int, intSum (intsD ns) = ns.sum
  | [] => rfl
  | i :: ns => by
    have := intSum_eq ns
    unfold intsD at this ⊢
    rw [List.map_cons]
    unfold intSum
    rw [this, List.sum_cons]
    rfl
theorem bools_mapA {α : Type} {f : α → Bool} : ∀ l : List α, boolsOf (l.map fun d => .bool (f d)) = some (l.map f)
  | [] => rfl
  | d :: l => by rw [List.map_cons]; unfold boolsOf; rw [bools_mapA l]; rfl
theorem all_idmapA {α : Type} {f : α → Bool} (l : List α) : (l.map f).all id = l.all f := by rw [List.all_map]; rfl
theorem rangeD_nats (n : Nat) : rangeD 0 n = natsD (List.range n) := by
  unfold rangeD natsD
  refine List.map_congr_left fun i _ => ?_
  rw [Int.zero_add]
theorem natsD_ints (o : List Nat) : natsD o = intsD (natI o) := by unfold natsD intsD natI; rw [List.map_map]; rfl
theorem toInts_eq (ns : List Int) : toInts (intsD ns) = ns := by
  unfold toInts intsD
  rw [List.map_map]
  exact (List.map_congr_left fun i _ => rfl).trans (List.map_id ns)
theorem seqOf_d {l : List PyData} {x : PyData} (h : SeqOf l x) : seqD x = some l := by rcases h with rfl | rfl <;> rfl
theorem natI_sum : ∀ o : List Nat, (natI o).sum = (o.sum : Nat)
  | [] => rfl
  | i :: o => by
    have := natI_sum o
    unfold natI at this ⊢
    rw [List.map_cons, List.sum_cons, List.sum_cons, this]
    omega
theorem sum_ge {o : List Nat} {i : Nat} (h : i ∈ o) : i ≤ o.sum := by
  induction o with
  | nil => cases h
  | cons a o ih =>
    rw [List.sum_cons]
    rcases List.mem_cons.mp h with rfl | h
    · omega
    · have := ih h; omega
theorem nats_all (o : List Nat) : (natsD o).all natB = true := by
  rw [List.all_eq_true]
  intro d hd
  obtain ⟨i, _, rfl⟩ := List.mem_map.mp hd
  simp [natB]
theorem termIn_ok {t : Term} {x : PyData} {n : Nat} (h : TermIn t x) (ok : TermOk n t) : termB x n = true := by
  obtain ⟨e, h1, h2⟩ := h
  unfold termB
  rw [seqOf_d h2]
  simp only []
  unfold expB
  rw [seqOf_d h1]
  simp only []
  rw [nats_all, natsD_ints, intSum_eq, natI_sum, isRat_rat, topD_rat]
  have h3 : ((intsD (natI t.1)).length == n) = true := by unfold intsD natI; simp [ok.len]
  rw [h3, decide_eq_true (by have := ok.deg; omega), decide_eq_false ok.nz]
  rfl
theorem termIn_exp {t : Term} {x : PyData} (h : TermIn t x) : expsOf x = natI t.1 := by
  obtain ⟨e, h1, h2⟩ := h
  unfold expsOf
  rw [seqOf_d h2]
  simp only []
  rw [seqOf_d h1, natsD_ints]
  exact toInts_eq _
theorem paired_get {α β : Type} {F : α → β → Prop} : ∀ {l : List α} {m : List β}, Paired F l m → ∀ {i : Nat} {a : α}, l[i]? = some a → ∃ b, m[i]? = some b ∧ F a b
  | _, _, .nil, i, a, h => by simp at h
  | _, _, .cons p t, 0, a, h => by simp at h; subst h; exact ⟨_, rfl, p⟩
  | _, _, .cons p t, i + 1, a, h => by
    obtain ⟨b, e, f⟩ := paired_get t (i := i) (by simpa using h)
    exact ⟨b, by simpa using e, f⟩
theorem paired_mem {α β : Type} {F : α → β → Prop} : ∀ {l : List α} {m : List β}, Paired F l m → ∀ {b : β}, b ∈ m → ∃ a ∈ l, F a b
  | _, _, .nil, b, h => by cases h
  | _, _, .cons p t, b, h => by
    rcases List.mem_cons.mp h with rfl | h
    · exact ⟨_, List.mem_cons_self, p⟩
    · obtain ⟨a, h1, h2⟩ := paired_mem t h
      exact ⟨a, List.mem_cons_of_mem _ h1, h2⟩
theorem paired_map {α β γ : Type} {F : α → β → Prop} {f : β → γ} {g : α → γ} (h : ∀ a b, F a b → f b = g a) : ∀ {l : List α} {m : List β}, Paired F l m → m.map f = l.map g
  | _, _, .nil => rfl
  | _, _, .cons p t => by rw [List.map_cons, List.map_cons, h _ _ p, paired_map h t]
theorem lineIn_asc {l : List Term} {xs : List PyData} (h : Paired TermIn l xs) : ascD xs = ascB l := by
  have hl : xs.length = l.length := (Paired.length h).symm
  have at' : ∀ i, i < l.length → expsOf (xs.getD i .none) = natI (l.getD i ([], 0)).1 := fun i hi => by
    obtain ⟨b, e, f⟩ := paired_get h (List.getElem?_eq_getElem hi)
    rw [List.getD_eq_getElem?_getD, e, List.getD_eq_getElem?_getD, List.getElem?_eq_getElem hi]
    exact termIn_exp f
  unfold ascD ascB
  rw [hl, Bool.eq_iff_iff, List.all_eq_true, List.all_eq_true]
  have key : ∀ i ∈ List.range (l.length - 1), (decide (TS.code 16 (expsOf (xs.getD i .none)) < TS.code 16 (expsOf (xs.getD (i + 1) .none)))) = decide (cd (l.getD i ([], 0)) < cd (l.getD (i + 1) ([], 0))) := fun i hi => by
    have := List.mem_range.mp hi
    rw [at' i (by omega), at' (i + 1) (by omega)]
    rfl
  exact ⟨fun z i hi => by rw [← key i hi]; exact z i hi, fun z i hi => by rw [key i hi]; exact z i hi⟩
theorem lineIn_ok {l : List Term} {x : PyData} {n : Nat} (h : LineIn l x) (ok : LineOk n l) : sumB x n = true := by
  obtain ⟨xs, h1, h2⟩ := h
  unfold sumB
  rw [seqOf_d h1]
  simp only []
  rw [lineIn_asc h2, ok.asc, Bool.and_true, List.all_eq_true]
  intro d hd
  obtain ⟨t, ht, p⟩ := paired_mem h2 hd
  exact termIn_ok p (ok.tm t ht)
theorem movIn_ok {m : List (List Term)} {x : PyData} {n : Nat} (h : MovIn m x) (ok : MovOk n m) : movB x n = true := by
  obtain ⟨xs, h1, h2⟩ := h
  unfold movB
  rw [seqOf_d h1]
  simp only []
  have hl : xs.length = n := (Paired.length h2).symm.trans ok.len
  rw [show (xs.length == n) = true by simpa using hl, Bool.true_and, List.all_eq_true]
  intro d hd
  obtain ⟨l, hl, p⟩ := paired_mem h2 hd
  exact lineIn_ok p (ok.ln l hl).1
theorem wd_int {k : Nat} (i : Int) : WD (k + 1) (.int i) := fun l e => by cases e
theorem wd_nats {k : Nat} {o : List Nat} {x : PyData} (h : SeqOf (natsD o) x) (hl : o.length ≤ 1000) : WD (k + 2) x := fun l e => by
  rw [seqOf_d h] at e
  cases e
  refine ⟨by unfold natsD; rw [List.length_map]; exact hl, fun d hd => ?_⟩
  obtain ⟨i, _, rfl⟩ := List.mem_map.mp hd
  exact wd_int _
theorem wd_rat {k : Nat} (q : Rat) : WD (k + 2) (ratD q) := fun l e => by
  rcases ratD_or q with ⟨i, e1, _⟩ | ⟨a, b, e1, _⟩ <;> rw [e1] at e
  · cases e
  · cases e
    refine ⟨by simp, fun d hd => ?_⟩
    simp only [List.mem_cons, List.not_mem_nil, or_false] at hd
    rcases hd with rfl | rfl <;> exact wd_int _
theorem wd_term {k : Nat} {t : Term} {x : PyData} {n : Nat} (h : TermIn t x) (ok : TermOk n t) (n9 : n ≤ 9) : WD (k + 3) x := fun l e => by
  obtain ⟨y, h1, h2⟩ := h
  rw [seqOf_d h2] at e
  cases e
  refine ⟨by simp, fun d hd => ?_⟩
  simp only [List.mem_cons, List.not_mem_nil, or_false] at hd
  rcases hd with rfl | rfl
  · exact wd_nats h1 (by have := ok.len; omega)
  · exact wd_rat _
theorem wd_line {k : Nat} {l : List Term} {x : PyData} {n : Nat} (h : LineIn l x) (ok : LineOk n l) (hl : l.length ≤ 100) (n9 : n ≤ 9) : WD (k + 4) x := fun ys e => by
  obtain ⟨xs, h1, h2⟩ := h
  rw [seqOf_d h1] at e
  cases e
  refine ⟨by rw [← Paired.length h2]; omega, fun d hd => ?_⟩
  obtain ⟨t, ht, p⟩ := paired_mem h2 hd
  exact wd_term p (ok.tm t ht) n9
theorem wd_mov {k : Nat} {m : List (List Term)} {x : PyData} {n : Nat} (h : MovIn m x) (ok : MovOk n m) (n9 : n ≤ 9) : WD (k + 5) x := fun ys e => by
  obtain ⟨xs, h1, h2⟩ := h
  rw [seqOf_d h1] at e
  cases e
  refine ⟨by rw [← Paired.length h2, ok.len]; omega, fun d hd => ?_⟩
  obtain ⟨l, hl, p⟩ := paired_mem h2 hd
  exact wd_line p (ok.ln l hl).1 (ok.ln l hl).2 n9
theorem wd_mono : ∀ {k : Nat} {x : PyData}, WD k x → WD (k + 1) x
  | 0, _, h => h.elim
  | k + 1, x, h => fun l e => ⟨(h l e).1, fun d hd => wd_mono ((h l e).2 d hd)⟩
theorem wd_wl : ∀ {k : Nat} {x : PyData}, WD k x → WL k x
  | 0, _, _ => True.intro
  | k + 1, x, h => fun l e => ⟨(h l e).1, fun d hd => wd_wl ((h l e).2 d hd)⟩
theorem wl_down : ∀ {k : Nat} {x : PyData}, WL (k + 1) x → WL k x
  | 0, _, _ => True.intro
  | k + 1, x, h => fun l e => ⟨(h l e).1, fun d hd => wl_down ((h l e).2 d hd)⟩
theorem asT_seq {l : List PyData} {x : PyData} (h : SeqOf l x) : asT x = .tuple (l.map asT) := by
  rw [← asTs_map]
  rcases h with rfl | rfl <;> rfl
theorem asT_nats {o : List Nat} {x : PyData} (h : SeqOf (natsD o) x) : asT x = .tuple (natsD o) := by
  rw [asT_seq h]
  unfold natsD
  rw [List.map_map]
  rfl
theorem asT_rat (q : Rat) : asT (ratD q) = ratD q := by
  rcases ratD_or q with ⟨i, e, _⟩ | ⟨a, b, e, _⟩ <;> (rw [e]; rfl)
theorem asT_term {t : Term} {x : PyData} (h : TermIn t x) : asT x = termT t := by
  obtain ⟨e, h1, h2⟩ := h
  rw [asT_seq h2]
  simp only [List.map_cons, List.map_nil]
  rw [asT_nats h1, asT_rat]
theorem asT_line {l : List Term} {x : PyData} (h : LineIn l x) : asT x = lineT l := by
  obtain ⟨xs, h1, h2⟩ := h
  rw [asT_seq h1, paired_map (fun a b p => asT_term p) h2]
theorem asT_mov {m : List (List Term)} {x : PyData} (h : MovIn m x) : asT x = movD m := by
  obtain ⟨xs, h1, h2⟩ := h
  rw [asT_seq h1, paired_map (fun a b p => asT_line p) h2]
theorem asT_row {p : List Rat} {x : PyData} (h : RowIn p x) : asT x = rowD p := by
  rw [asT_seq h, List.map_map]
  exact congrArg PyData.tuple (List.map_congr_left fun q _ => asT_rat q)
theorem exp_of {d : PyData} {n : Nat} (h : termB d n = true) : ∃ e r ns, seqD d = some [e, r] ∧ seqD e = some (intsD ns) ∧ expsOf d = ns ∧ ns.length = n ∧ TS.Bd 16 ns := by
  unfold termB at h
  split at h
  · rename_i e r hq
    simp only [Bool.and_eq_true] at h
    obtain ⟨h, _⟩ := h
    unfold expB at h
    cases he : seqD e with
    | none => rw [he] at h; cases h
    | some es =>
      rw [he] at h
      simp only [Bool.and_eq_true, beq_iff_eq, decide_eq_true_eq] at h
      obtain ⟨h1, h2, h3⟩ := h
      obtain ⟨ns, rfl⟩ := nat_ints h2
      rw [intSum_eq] at h3
      refine ⟨e, r, ns, hq, he, ?_, by unfold intsD at h1; rw [List.length_map] at h1; exact h1, ?_⟩
      · unfold expsOf
        rw [hq]
        simp only []
        rw [he]
        exact toInts_eq ns
      · have pos : ∀ i ∈ ns, 0 ≤ i := fun i hi => by
          have := List.all_eq_true.mp h2 (.int i) (List.mem_map.mpr ⟨i, hi, rfl⟩)
          simpa [natB] using this
        have le : ∀ (ns : List Int), (∀ i ∈ ns, 0 ≤ i) → ∀ i ∈ ns, i ≤ ns.sum := fun ns => by
          induction ns with
          | nil => intro _ i hi; cases hi
          | cons a ns ih =>
            intro hp i hi
            have ha := hp a List.mem_cons_self
            have hs : 0 ≤ ns.sum := by
              cases ns with
              | nil => exact Int.le_refl _
              | cons b ns => have := ih (fun j hj => hp j (List.mem_cons_of_mem _ hj)) b List.mem_cons_self; have := hp b (List.mem_cons_of_mem _ List.mem_cons_self); omega
            rw [List.sum_cons]
            rcases List.mem_cons.mp hi with rfl | hi
            · omega
            · have := ih (fun j hj => hp j (List.mem_cons_of_mem _ hj)) i hi; omega
        exact fun i hi => ⟨pos i hi, by have := le ns pos i hi; omega⟩
  · cases h
theorem zip_nats (y : List Rat) (o : List Nat) : zipD (y.map one1) (natsD o) = (y.zip o).map fun z => .tuple [one1 z.1, .int (z.2 : Int)] := zipD_map one1 (fun (i : Nat) => .int (i : Int)) y o
theorem powr_br {b k : Nat} {p y : Rat} (hp : Br k p) (hy : Br b y) : ∀ n, Br (k + n * b) (powr p y n)
  | 0 => by simpa [powr] using hp
  | n + 1 => by
    have := br_mul (powr_br hp hy n) hy
    rw [show k + (n + 1) * b = k + n * b + b by rw [Nat.succ_mul]; omega]
    exact this
theorem mono_br {b e : Nat} : ∀ {zs : List (Rat × Nat)} {p : Rat}, Br e p → (∀ z ∈ zs, Br b z.1) → Br (e + (zs.map (·.2)).sum * b) (zs.foldl (fun p z => powr p z.1 z.2) p)
  | [], p, hp, _ => by simpa using hp
  | z :: zs, p, hp, hz => by
    rw [List.foldl_cons, List.map_cons, List.sum_cons]
    have := mono_br (powr_br hp (hz z List.mem_cons_self) z.2) fun w hw => hz w (List.mem_cons_of_mem _ hw)
    rw [Nat.add_mul, ← Nat.add_assoc]
    exact this
theorem snd_zip_sum (y : List Rat) (o : List Nat) : ((y.zip o).map (·.2)).sum ≤ o.sum := by
  induction y generalizing o with
  | nil => simp
  | cons q y ih =>
    cases o with
    | nil => simp
    | cons i o =>
      rw [List.zip_cons_cons, List.map_cons, List.sum_cons, List.sum_cons]
      have := ih o
      omega
theorem sum_take_le : ∀ (l : List Nat) (i : Nat), (l.take i).sum ≤ l.sum
  | [], i => by simp
  | a :: l, 0 => by simp
  | a :: l, i + 1 => by
    have := sum_take_le l i
    rw [List.take_succ_cons, List.sum_cons, List.sum_cons]
    omega
theorem monoZ_br {b e g : Nat} {p : List Rat} {l : List Term} (L : LineS b e g p l) {t : Term} (ht : t ∈ l) (i : Nat) : Br (e + g * b) (((p.zip t.1).take i).foldl (fun p z => powr p z.1 z.2) t.2) := by
  obtain ⟨h1, h2, h3⟩ := L.tm t ht
  have := mono_br (b := b) (zs := (p.zip t.1).take i) h3 fun z hz => L.pt _ (List.of_mem_zip (List.mem_of_mem_take hz)).1
  refine br_up this (Nat.add_le_add_left (Nat.mul_le_mul_right _ ?_) _)
  rw [List.map_take]
  exact Nat.le_trans (sum_take_le _ _) (Nat.le_trans (snd_zip_sum _ _) h2)
theorem line_br {b e g : Nat} {p : List Rat} {l : List Term} (L : LineS b e g p l) (i : Nat) : Br ((l.take i).length * (e + g * b + 1) + 1) ((l.take i).foldl (fun s t => s + monoZ p t) 0) := by
  have go : ∀ (ts : List Term) (k : Nat) (a : Rat), Br k a → (∀ t ∈ ts, t ∈ l) → Br (k + ts.length * (e + g * b + 1)) (ts.foldl (fun s t => s + monoZ p t) a) := by
    intro ts
    induction ts with
    | nil => intro k a h _; simpa using h
    | cons t ts ih =>
      intro k a h hm
      rw [List.foldl_cons]
      have h2 := monoZ_br L (hm t List.mem_cons_self) (p.zip t.1).length
      rw [List.take_of_length_le (Nat.le_refl _)] at h2
      have := ih (k + (e + g * b) + 1) (a + monoZ p t) (br_add h h2) fun s hs => hm s (List.mem_cons_of_mem _ hs)
      refine br_up this ?_
      rw [List.length_cons, Nat.succ_mul]
      omega
  have := go (l.take i) 1 0 (br_zero (n := 0)) fun t ht => List.mem_of_mem_take ht
  rwa [Nat.add_comm] at this
theorem zero_num {q : Rat} (h : q.num = 0) : q = 0 := Rat.num_eq_zero.mp h
theorem own_i' {i : Nat} {pn : PTN} {rest : PTS} {P : PD} {env : Ev} (I : List PyData → Prop) (h1 : ∀ R : List PyData → Prop, (∀ ds, I ds → R ds) → pn env R P.ex) (h2 : ∀ ds, I ds → rest P (env.set i (some (.own ds)))) : psSeq (psOwnN i pn) rest P env := h1 _ h2
theorem okN_nats (o : List Nat) : OkN 1 (.tuple (natsD o)) := okN_tup fun d hd => by
  obtain ⟨i, _, rfl⟩ := List.mem_map.mp hd
  exact okN_int _
theorem okN_termT (t : Term) : OkN 2 (termT t) := okN_tup fun d hd => by
  simp only [List.mem_cons, List.not_mem_nil, or_false] at hd
  rcases hd with rfl | rfl
  · exact okN_nats _
  · exact okN_rat _
theorem okN_lineT (l : List Term) : OkN 3 (lineT l) := okN_tup fun d hd => by
  obtain ⟨t, _, rfl⟩ := List.mem_map.mp hd
  exact okN_termT t
theorem okN_mov (m : List (List Term)) : OkN 4 (movD m) := okN_tup fun d hd => by
  obtain ⟨t, _, rfl⟩ := List.mem_map.mp hd
  exact okN_lineT t
theorem okN_fd (n : Nat) (m : List (List Term)) : OkN 5 (.tuple [.int (n : Int), movD m]) := okN_tup fun d hd => by
  simp only [List.mem_cons, List.not_mem_nil, or_false] at hd
  rcases hd with rfl | rfl
  · exact okN_up (okN_int _) (by decide)
  · exact okN_mov m
theorem it_nats (o : List Nat) : itBs (natsD o) = true := itBs_map fun _ _ => rfl
theorem it_mov (m : List (List Term)) : itB (movD m) = true := by
  unfold itB
  refine itBs_map fun l _ => ?_
  unfold itB
  refine itBs_map fun t _ => ?_
  simp [itB, itBs, it_nats, itB_rat]
theorem natsD_inj : ∀ {a b : List Nat}, natsD a = natsD b → a = b
  | [], [], _ => rfl
  | [], _ :: _, h => by cases h
  | _ :: _, [], h => by cases h
  | i :: a, j :: b, h => by
    unfold natsD at h
    simp only [List.map_cons, List.cons.injEq, PyData.int.injEq] at h
    obtain ⟨h1, h2⟩ := h
    rw [show i = j by omega, natsD_inj (a := a) (b := b) (by unfold natsD; exact h2)]
theorem map_inj' {α : Type} {f : α → PyData} (h : ∀ a b, f a = f b → a = b) : ∀ {l m : List α}, l.map f = m.map f → l = m
  | [], [], _ => rfl
  | [], _ :: _, e => by cases e
  | _ :: _, [], e => by cases e
  | a :: l, b :: m, e => by
    simp only [List.map_cons, List.cons.injEq] at e
    rw [h _ _ e.1, map_inj' h e.2]
theorem termT_inj (s t : Term) (h : termT s = termT t) : s = t := by
  simp only [termT, PyData.tuple.injEq, List.cons.injEq, and_true] at h
  obtain ⟨h1, h2⟩ := h
  have e1 := natsD_inj h1
  have e2 := rat_inj h2
  cases s
  cases t
  cases e1
  cases e2
  rfl
theorem movD_inj {m m' : List (List Term)} (h : movD m = movD m') : m = m' := map_inj' (fun a b e => map_inj' termT_inj (PyData.tuple.inj e)) (PyData.tuple.inj h)
theorem eqv_fd (n n' : Nat) (m m' : List (List Term)) : PyData.eqv (.tuple [.int (n : Int), movD m]) (.tuple [.int (n' : Int), movD m']) = decide (n = n' ∧ m = m') := by
  have i1 : ∀ (n : Nat) (m : List (List Term)), itB (.tuple [.int (n : Int), movD m]) = true := fun n m => by simp only [itB, itBs, Bool.and_true, Bool.true_and]; exact it_mov m
  by_cases h : n = n' ∧ m = m'
  · obtain ⟨rfl, rfl⟩ := h
    rw [decide_eq_true ⟨rfl, rfl⟩]
    exact eq_self (okN_E (okN_fd n m) (by decide))
  · rw [decide_eq_false h, Bool.eq_false_iff]
    intro z
    have := eqv_it _ _ (i1 n m) (i1 n' m') z
    simp only [PyData.tuple.injEq, List.cons.injEq, PyData.int.injEq, and_true] at this
    exact h ⟨by omega, movD_inj (congrArg PyData.tuple this.2)⟩

local macro_rules | `(tactic| walk_at "pv") => `(tactic| simp only [psNewT, psPutT, psShowT, pIxT, pRepN, oRepZ, psParNN, psParNE, pLstN, psAppPop, psExt, pSlO, pIxO, psSetI, pTr, pLendN, pLcN, pLend, uAt_d, uAt_rows, List.length_map, uIsO, pMake, psOwnN, pListN, pLr, pRg1, pRg2, pTupO, pLenO, oRep, pChain, iEnumP, iZipTL, List.lookup_cons, psSeq, psSet, psPar, psIf, psRet, psDrop, psCont, psNext, psAsg, psFor, psRaise, psOwn, psApp, psShow, uIsP, uFld, pCallE, pdNo, pVar, Px.nth, pC, pOp, pUn, oI, oI0, uI, oAdd, oEq, oEqE, eqv_rat0, List.isEmpty_nil, List.isEmpty_cons, oNe, oIs, oNis, oIx, pNil, pCons, allD, pTup, pLst, pDisp0, bOf, ptB, ptAnd, ptOr, ptNot, pIf, pAndV, pOrV, pNotV, pCalln, pB, bInt, bAbs, bGcd, bLen, bList, bTuple, bRepr, bAll, uIsi, uIsi2, pgName, pgNil, pgCons, pgTup, Px.iR1, Px.iR2, Px.iS, Px.iZip, iZipU, pSl, pNo, pSome, pLc, pYes, noOwn, noOwn1, wipeE, pdOf, startP, List.set, List.map, List.append, List.cons_append, List.nil_append, List.length_cons, List.length_nil, List.replicate, Nat.reduceAdd, Nat.reduceSub, List.getElem?_cons_zero, List.getElem?_cons_succ, isNone, isBool, oSub, oMul, oDiv, oMod, oPow, oLt, oLe, oGt, oGe, at_0, at_1, okE_int, okE_bool, okE_none, okE_rat, eqv_int, eqv_ti, isTy_int_int, isTy_int_tup, isTy_tup_tup, isTy_tup_int, isTy_bool_int, true_and, and_true, beq_iff_eq, decide_eq_true_eq, decide_eq_false_iff_not, beq_eq_false_iff_ne, Bool.not_true, Bool.not_false, Bool.not_eq_true', Bool.not_eq_false', Nat.reduceLeDiff, Option.some.injEq, exists_eq_left', exists_eq_left, forall_const, true_imp_iff, Bool.false_eq_true, Bool.true_eq_false, false_imp_iff, reduceCtorEq])
local macro_rules | `(tactic| walk_at "pvs") => `(tactic| simp [isTy, tyN, at_0, at_1, okE_int, okE_bool, okE_none, eqv_int, oLt, oLe, oGt, oGe, oSub, oMul, oDiv, oMod, oI, oI0])
local macro_rules | `(tactic| walk_at "pvh") => `(tactic| simp only [psNewT, psPutT, psShowT, pIxT, pRepN, oRepZ, psParNN, psParNE, pLstN, psAppPop, psExt, pSlO, pIxO, psSetI, pTr, pLendN, pLcN, pLend, uAt_d, uAt_rows, List.length_map, uIsO, pMake, psOwnN, pListN, pLr, pRg1, pRg2, pTupO, pLenO, oRep, pChain, iEnumP, iZipTL, List.lookup_cons, psSeq, psSet, psPar, psIf, psRet, psDrop, psCont, psNext, psAsg, psFor, psRaise, psOwn, psApp, psShow, uIsP, uFld, pCallE, pdNo, pVar, Px.nth, pC, pOp, pUn, oI, oI0, uI, oAdd, oEq, oEqE, eqv_rat0, List.isEmpty_nil, List.isEmpty_cons, oNe, oIs, oNis, oIx, pNil, pCons, allD, pTup, pLst, pDisp0, bOf, ptB, ptAnd, ptOr, ptNot, pIf, pAndV, pOrV, pNotV, pCalln, pB, bInt, bAbs, bGcd, bLen, bList, bTuple, bRepr, bAll, uIsi, uIsi2, pgName, pgNil, pgCons, pgTup, Px.iR1, Px.iR2, Px.iS, Px.iZip, iZipU, pSl, pNo, pSome, pLc, pYes, noOwn, noOwn1, wipeE, pdOf, startP, List.set, List.map, List.append, List.cons_append, List.nil_append, List.length_cons, List.length_nil, List.replicate, Nat.reduceAdd, Nat.reduceSub, List.getElem?_cons_zero, List.getElem?_cons_succ, isNone, isBool, oSub, oMul, oDiv, oMod, oPow, oLt, oLe, oGt, oGe, at_0, at_1, okE_int, okE_bool, okE_none, okE_rat, eqv_int, eqv_ti, isTy_int_int, isTy_int_tup, isTy_tup_tup, isTy_tup_int, isTy_bool_int, true_and, and_true, beq_iff_eq, decide_eq_true_eq, decide_eq_false_iff_not, beq_eq_false_iff_ne, Bool.not_true, Bool.not_false, Bool.not_eq_true', Bool.not_eq_false', Nat.reduceLeDiff, Option.some.injEq, exists_eq_left', exists_eq_left, forall_const, true_imp_iff, Bool.false_eq_true, Bool.true_eq_false, false_imp_iff, reduceCtorEq, if_true, if_false, not_false_eq_true, not_true_eq_false, *])
local macro_rules | `(tactic| walk_at "env") => `(tactic| try simp only [startP, List.map, List.append, List.cons_append, List.nil_append, List.length_cons, List.length_nil, List.replicate, Nat.reduceAdd, Nat.reduceSub, List.set_cons_zero, List.set_cons_succ])

abbrev s_is_list : Stmt := topS 28
theorem sc_is_list : FnScope ["value"] ["value"] (defScope s_is_list) := ⟨rfl, rfl, rfl, by decide +kernel, rfl, by decide +kernel, by decide +kernel⟩
abbrev s_as_tuples : Stmt := topS 27
theorem sc_as_tuples : FnScope ["value", "one"] ["value"] (defScope s_as_tuples) := ⟨rfl, rfl, rfl, by decide +kernel, rfl, by decide +kernel, by decide +kernel⟩
abbrev s_is_term : Stmt := topS 33
theorem sc_is_term : FnScope ["value", "d", "one"] ["value", "d"] (defScope s_is_term) := ⟨rfl, rfl, rfl, by decide +kernel, rfl, by decide +kernel, by decide +kernel⟩
abbrev s_is_sum : Stmt := topS 34
theorem sc_is_sum : FnScope ["value", "d", "powers", "one", "at"] ["value", "d"] (defScope s_is_sum) := ⟨rfl, rfl, rfl, by decide +kernel, rfl, by decide +kernel, by decide +kernel⟩
abbrev s_need_moving : Stmt := topS 35
theorem sc_need_moving : FnScope ["moving"] ["moving"] (defScope s_need_moving) := ⟨rfl, rfl, rfl, by decide +kernel, rfl, by decide +kernel, by decide +kernel⟩
abbrev s_need_point : Stmt := topS 36
theorem sc_need_point : FnScope ["point", "d", "one"] ["point", "d"] (defScope s_need_point) := ⟨rfl, rfl, rfl, by decide +kernel, rfl, by decide +kernel, by decide +kernel⟩
abbrev s_times_to : Stmt := topS 37
theorem sc_times_to : FnScope ["one", "other", "n", "found", "i", "x", "k"] ["one", "other", "n"] (defScope s_times_to) := ⟨rfl, rfl, rfl, by decide +kernel, rfl, by decide +kernel, by decide +kernel⟩
abbrev s_plus_to : Stmt := topS 38
theorem sc_plus_to : FnScope ["one", "other", "x", "y"] ["one", "other"] (defScope s_plus_to) := ⟨rfl, rfl, rfl, by decide +kernel, rfl, by decide +kernel, by decide +kernel⟩
abbrev s_sum_at : Stmt := topS 39
theorem sc_sum_at : FnScope ["row", "letters", "n", "found", "exponents", "by", "term", "letter", "times", "lap"] ["row", "letters", "n"] (defScope s_sum_at) := ⟨rfl, rfl, rfl, by decide +kernel, rfl, by decide +kernel, by decide +kernel⟩
abbrev s_values_at : Stmt := topS 40
theorem sc_values_at : FnScope ["moving", "letters", "n", "row"] ["moving", "letters", "n"] (defScope s_values_at) := ⟨rfl, rfl, rfl, by decide +kernel, rfl, by decide +kernel, by decide +kernel⟩
abbrev s_value : Stmt := topS 41
theorem sc_value : FnScope ["moving", "point", "told", "row", "one"] ["moving", "point"] (defScope s_value) := ⟨rfl, rfl, rfl, by decide +kernel, rfl, by decide +kernel, by decide +kernel⟩
abbrev s_Moving_init : Stmt := inClass (topS 32) 0
theorem sc_Moving_init : FnScope ["self", "d", "rows", "row"] ["self", "d", "rows"] (defScope s_Moving_init) := ⟨rfl, rfl, rfl, by decide +kernel, rfl, by decide +kernel, by decide +kernel⟩
abbrev s_Moving_eq : Stmt := inClass (topS 32) 1
theorem sc_Moving_eq : FnScope ["self", "other"] ["self", "other"] (defScope s_Moving_eq) := ⟨rfl, rfl, rfl, by decide +kernel, rfl, by decide +kernel, by decide +kernel⟩
section
variable {P : Program} {w : World} {K : PySem.W.Frag} {mg : Str → Option Value} {base : Heap} {c : Cc} {S_Moving C_BadNumber C_BadRow C_BadTable S : Addr} {Cs : Nat → Addr} {cd P' : Addr}

theorem d_is_list (F : Has K mg "is_list" s_is_list) (T : Blt mg)  : KpO P w K mg base c 1 "is_list" ["value"] (spList) := by
  refine keepO F (fun _ _ _ _ _ _ us hl => match us, hl with | [_], _ => rfl) sc_is_list (fun f cdv A outer s H E hr => ⟨_, (pus_one (pus_ret (pu_isi2 isi_list isi_tuple T.b_isinstance T.b_list (by decide +kernel) T.b_tuple (by decide +kernel) (pu_var 0)))), fun ss R EX hl h => ?_⟩)
  obtain ⟨x, rfl, h⟩ := h
  walk_at "pv"
  exact h
theorem d_as_tuplesN (F : Has K mg "as_tuples" s_as_tuples) (T : Blt mg) {n : Nat} (D_as_tuples : KpO P w K mg base c n "as_tuples" ["value"] (spAsT n)) : KpO P w K mg base c (n + 1) "as_tuples" ["value"] (spAsT (n + 1)) := by
  refine keepO F (fun _ _ _ _ _ _ us hl => match us, hl with | [_], _ => rfl) sc_as_tuples (fun f cdv A outer s H E hr => ⟨_, (pus_cons (pus_if (pt_val' (pu_isi2 isi_list isi_tuple T.b_isinstance T.b_list (by decide +kernel) T.b_tuple (by decide +kernel) (pu_var 0))) (pus_one (pus_ret (pu_callTy c_tuple rb_tuple T.b_tuple (by decide +kernel) (pa_cons' (pu_lc (own := [("one", 1)]) rfl sc_as_tuples.nd (pui_seq (pu_var 0)) (blkOk_by (by show blkC ["value", "one"] (defScope s_as_tuples) _ _ = true; decide +kernel)) (fun ci => (pug_name (i := 1) sc_as_tuples.nd)) (fun ci => (pu_callO (hjk := Nat.le_refl _) D_as_tuples hr takes0 (pa_cons' (pu_var 1) pa_nil')))) pa_nil')))) pus_nil)
    (pus_one (pus_ret (pu_var 0)))), fun ss R EX hl h => ?_⟩)
  obtain ⟨x, rfl, hx, h⟩ := h
  have go : ∀ l : List PyData, seqD x = some l → asT x = .tuple (l.map asT) := fun l e => by
    rw [← asTs_map]
    cases x <;> simp [seqD] at e <;> (subst e; rfl)
  cases x with
  | list l =>
    walk_at "pv"
    refine ⟨fun _ => ?_, fun z => by simp [isTy, tyN] at z⟩
    refine lc_map asT (by have := (hx l rfl).1; omega) (fun d hd R hR => ?_) (by rw [← go l rfl]; exact h)
    walk_at "pv"
    exact ⟨d, rfl, (hx l rfl).2 d hd, hR⟩
  | tuple l =>
    walk_at "pv"
    refine ⟨fun _ => ?_, fun z => by simp [isTy, tyN] at z⟩
    refine lc_map asT (by have := (hx l rfl).1; omega) (fun d hd R hR => ?_) (by rw [← go l rfl]; exact h)
    walk_at "pv"
    exact ⟨d, rfl, (hx l rfl).2 d hd, hR⟩
  | _ =>
    walk_at "pv"
    exact ⟨fun z => by simp [isTy, tyN] at z, fun _ => h⟩
theorem d_is_term (F : Has K mg "is_term" s_is_term) (T : Blt mg) (Z : Blx mg) (D_is_integer : KpO P w K mg base c 1 "is_integer" ["value"] (spIsInt)) (D_is_list : KpO P w K mg base c 1 "is_list" ["value"] (spList)) (D_is_ratio : KpO P w K mg base c 2 "is_ratio" ["value"] (spIsRat)) : KpO P w K mg base c 3 "is_term" ["value", "d"] (spTerm) := by
  refine keepO F (fun _ _ _ _ _ _ us hl => match us, hl with | [_, _], _ => rfl) sc_is_term (fun f cdv A outer s H E hr => ⟨_, (pus_cons (pus_if (PuW.pt (pw_or' (pt_not' (pt_val' (pu_callO D_is_list hr takesF (pa_cons' (pu_var 0) pa_nil')))) (pw_or' (pt_cmp' (op_neD (hu64 hr)) ro_ne (pu_callB c_len rb_len T.b_len PySem.boot_len (pa_cons' (pu_var 0) pa_nil')) pu_int) (pw_or' (pt_not' (pt_val' (pu_callO D_is_list hr takesF (pa_cons' (pu_ix (pu_var 0) pu_int) pa_nil')))) (pw_or1' (pt_cmp' (op_neD (hu64 hr)) ro_ne (pu_callB c_len rb_len T.b_len PySem.boot_len (pa_cons' (pu_ix (pu_var 0) pu_int) pa_nil')) (pu_var 1))))))) (pus_one (pus_ret pu_bl)) pus_nil)
    (pus_cons (pus_if (PuW.pt (pw_or' (pt_not' (pt_val' (pu_callB (cr_all rfl) rb_all T.b_all (by decide +kernel) (pa_cons' (pu_lc (own := [("one", 2)]) rfl sc_is_term.nd (pui_seq (pu_ix (pu_var 0) pu_int)) (blkOk_by (by show blkC ["value", "d", "one"] (defScope s_is_term) _ _ = true; decide +kernel)) (fun ci => (pug_name (i := 2) sc_is_term.nd)) (fun ci => (pu_and (pu_callO D_is_integer hr takes0 (pa_cons' (pu_var 2) pa_nil')) (pu_one (pu_cmp op_ge ro_ge (pu_var 2) pu_int))))) pa_nil')))) (pw_or1' (pt_cmp' op_gt ro_gt (pu_callB (cr_sum2 rfl) rb_sum Z.su (by decide +kernel) (pa_cons' (pu_ix (pu_var 0) pu_int) pa_nil')) (pu_const_MOST_DEGREE Z))))) (pus_one (pus_ret pu_bl)) pus_nil)
    (pus_one (pus_ret (pu_and (pu_callO D_is_ratio hr takesF (pa_cons' (pu_ix (pu_var 0) pu_int) pa_nil')) (pu_one (pu_cmp (op_neD (hu64 hr)) ro_ne (pu_ix (pu_var 0) pu_int) pu_int))))))), fun ss R EX hl h => ?_⟩)
  obtain ⟨x, n, rfl, hn, hx, h⟩ := h
  have isl : ∀ {y : PyData} {o : Option (List PyData)} {R' : Sl → Prop} {EX' : Addr → FD → Prop}, seqD y = o → R' (.d (.bool o.isSome)) → spList [.d y] R' EX' := fun {y o R' EX'} e hR => ⟨y, rfl, by rw [seq_ty, e]; exact hR⟩
  cases hq : seqD x with
  | none =>
    have z : termB x n = false := by unfold termB; rw [hq]
    rw [z] at h
    refine if_yes (fun R' hR => or_yes (fun R' hR => not_i false (fun R' hR => tB_i false (fun R' hR => ?_) hR) hR) hR) ?_
    · exact call1_i (s := .d x) (fun R hR => hR) ⟨rfl, isl hq hR⟩
    · exact h
  | some l =>
    obtain ⟨hl, hd⟩ := hx l hq
    have t1 : ∀ {R' : Bool → Prop} {E : XP}, R' false → ptNot (ptB (pCalln 1 spList (pCons (pVar 0) pNil))) [some (.d x), some (.d (.int (n : Int))), none] R' E := fun hR => not_no' (fun R' hR => tB_i true (fun R' hR => call1_i (s := .d x) (fun R hR => hR) ⟨rfl, isl hq hR⟩) hR) hR
    by_cases h2 : l.length = 2
    · obtain ⟨e, r, rfl⟩ : ∃ e r, l = [e, r] := match l, h2 with | [e, r], _ => ⟨e, r, rfl⟩
      have t2 : ∀ {R' : Bool → Prop} {E : XP}, R' false → ptB (pOp oNe (pB bLen (pCons (pVar 0) pNil)) (pC (.d (.int 2)))) [some (.d x), some (.d (.int (n : Int))), none] R' E := fun hR => tne_i (a := 2) (fun R hR => len_i rfl hq hR) hR
      have v0 : ∀ {R' : Sl → Prop} {E : XP}, R' (.d e) → pOp oIx (pVar 0) (pC (.d (.int 0))) [some (.d x), some (.d (.int (n : Int))), none] R' E := fun hR => ix_i rfl hq at_0 hR
      have v1 : ∀ {R' : Sl → Prop} {E : XP}, R' (.d r) → pOp oIx (pVar 0) (pC (.d (.int 1))) [some (.d x), some (.d (.int (n : Int))), none] R' E := fun hR => ix_i rfl hq at_1 hR
      cases he : seqD e with
      | none =>
        have z : termB x n = false := by unfold termB; rw [hq]; simp only []; unfold expB; rw [he]; rfl
        rw [z] at h
        refine if_yes (fun R' hR => or_f true (fun R' hR => t1 hR) (fun R' hR => or_f true (fun R' hR => t2 hR) (fun R' hR => or_yes (fun R' hR => not_i false (fun R' hR => tB_i false (fun R' hR => ?_) hR) hR) hR) hR) hR) ?_
        · exact call1_i (fun R hR => v0 hR) ⟨rfl, isl he hR⟩
        · exact h
      | some es =>
        obtain ⟨hel, _⟩ := hd e List.mem_cons_self es he
        have t3 : ∀ {R' : Bool → Prop} {E : XP}, R' false → ptNot (ptB (pCalln 1 spList (pCons (pOp oIx (pVar 0) (pC (.d (.int 0)))) pNil))) [some (.d x), some (.d (.int (n : Int))), none] R' E := fun hR => not_no' (fun R' hR => tB_i true (fun R' hR => call1_i (fun R hR => v0 hR) ⟨rfl, isl he hR⟩) hR) hR
        have t4 : ∀ {R' : Bool → Prop} {E : XP}, R' (!((es.length : Int) == (n : Int))) → ptB (pOp oNe (pB bLen (pCons (pOp oIx (pVar 0) (pC (.d (.int 0)))) pNil)) (pVar 1)) [some (.d x), some (.d (.int (n : Int))), none] R' E := fun hR => tneV_i (fun R hR => len_of (fun R hR => v0 hR) he hR) (fun R hR => hR) hR
        have ex : termB x n = (es.length == n && (es.all natB && decide (intSum es ≤ 8)) && (isRat r && !decide (topD r = 0))) := by unfold termB; rw [hq]; simp only []; unfold expB; rw [he]
        by_cases h3 : es.length = n
        · refine if_no (fun R' hR => or_no (fun R' hR => t1 hR) (fun R' hR => or_no (fun R' hR => t2 hR) (fun R' hR => or_no (fun R' hR => t3 hR) (fun R' hR => t4 ?_) hR) hR) hR) ?_
          · rw [show (((es.length : Nat) : Int) == (n : Int)) = true by rw [h3]; simp]; exact hR
          have h3' : (es.length == n) = true := by simpa using h3
          rw [h3', Bool.true_and] at ex
          have allc : ∀ {R' : Bool → Prop}, R' (es.all natB) → ptB (pB bAll (pCons (pLc (Px.iS (pOp oIx (pVar 0) (pC (.d (.int 0))))) (pgName 2) pYes (pAndV (pCalln 1 spIsInt (pCons (pVar 2) pNil)) (pOp oGe (pVar 2) (pC (.d (.int 0))))) [2]) pNil)) [some (.d x), some (.d (.int (n : Int))), none] R' (fun _ => EX) := fun {R'} hR => by
            refine tB_i _ (fun R' hR => ?_) hR
            simp only [pB, pCons, pNil, pLc]
            refine iS_i he (fun R hR => v0 hR) ?_
            refine lc_map (fun d => .bool (natB d)) (by omega) (fun d _ R hR => ?_) ⟨_, bools_map es, by rw [all_idmap]; exact hR⟩
            walk_at "pv"
            refine ⟨d, rfl, fun z => ?_, fun z => ?_⟩
            · cases d <;> simp [isIntD] at z
              simp only [natB] at hR
              walk_at "pv"
              exact hR
            · have : natB d = false := by cases d <;> simp [isIntD] at z <;> rfl
              rw [this] at hR
              exact hR
          by_cases h4 : es.all natB = true
          · obtain ⟨ns, rfl⟩ := nat_ints h4
            have sc : ∀ {R' : Bool → Prop}, R' (decide (8 < ns.sum)) → ptB (pOp oGt (pB bSum (pCons (pOp oIx (pVar 0) (pC (.d (.int 0)))) pNil)) (pC (.d (.int 8)))) [some (.d x), some (.d (.int (n : Int))), none] R' (fun _ => EX) := fun {R'} hR => by
              refine tB_i _ (fun R' hR => ?_) hR
              simp only [pOp, pB, pCons, pNil]
              refine v0 ⟨e, ns, rfl, seq_or he, ?_⟩
              walk_at "pv"
              exact hR
            rw [h4, Bool.true_and, intSum_eq] at ex
            by_cases h5 : ns.sum ≤ 8
            · rw [decide_eq_true h5, Bool.true_and] at ex
              rw [ex] at h
              refine if_no (fun R' hR => or_no (fun R' hR => not_no' (fun R' hR => allc (by rw [h4]; exact hR)) hR) (fun R' hR => sc (by rw [decide_eq_false (show ¬ 8 < ns.sum by omega)]; exact hR)) hR) ?_
              refine ret_i ?_
              unfold pAndV
              refine call1_i (fun R hR => v1 hR) ⟨rfl, r, rfl, ?_⟩
              refine ⟨fun z => ?_, fun z => ?_⟩
              · obtain ⟨q, rfl⟩ := rat_of z
                rw [isRat_rat, topD_rat, Bool.true_and] at h
                unfold pOp
                refine v1 ?_
                show _ ∧ _ ∧ _
                exact ⟨okE_rat q, rfl, by rw [eqv_rat0]; exact h⟩
              · rw [z, Bool.false_and] at h
                exact h
            · rw [decide_eq_false h5, Bool.false_and] at ex
              rw [ex] at h
              refine if_yes (fun R' hR => or_f true (fun R' hR => not_no' (fun R' hR => allc (by rw [h4]; exact hR)) hR) (fun R' hR => sc (by rw [decide_eq_true (show 8 < ns.sum by omega)]; exact hR)) hR) ?_
              exact h
          · have h4 : es.all natB = false := by simpa using h4
            rw [h4, Bool.false_and, Bool.false_and] at ex
            rw [ex] at h
            refine if_yes (fun R' hR => or_yes (fun R' hR => not_i false (fun R' hR => allc (by rw [h4]; exact hR)) hR) hR) ?_
            exact h
        · have h3' : (es.length == n) = false := by simpa using h3
          rw [h3', Bool.false_and, Bool.false_and] at ex
          rw [ex] at h
          refine if_yes (fun R' hR => or_f true (fun R' hR => t1 hR) (fun R' hR => or_f true (fun R' hR => t2 hR) (fun R' hR => or_f true (fun R' hR => t3 hR) (fun R' hR => t4 ?_) hR) hR) hR) ?_
          · rw [show (((es.length : Nat) : Int) == (n : Int)) = false by simp; omega]; exact hR
          · exact h
    · have z : termB x n = false := by
        unfold termB
        rw [hq]
        match l, h2 with
        | [], _ => rfl
        | [_], _ => rfl
        | [_, _], h => exact absurd rfl h
        | _ :: _ :: _ :: _, _ => rfl
      rw [z] at h
      refine if_yes (fun R' hR => or_f true (fun R' hR => t1 hR) (fun R' hR => or_yes (fun R' hR => tne_i (fun R hR => len_i rfl hq hR) ?_) hR) hR) ?_
      · rw [show (((l.length : Nat) : Int) == 2) = false by simp; omega]; exact hR
      · exact h
theorem d_is_sum (F : Has K mg "is_sum" s_is_sum) (T : Blt mg) (D_is_list : KpO P w K mg base c 1 "is_list" ["value"] (spList)) (D_is_term : KpO P w K mg base c 3 "is_term" ["value", "d"] (spTerm)) : KpO P w K mg base c 4 "is_sum" ["value", "d"] (spSumB) := by
  refine keepO F (fun _ _ _ _ _ _ us hl => match us, hl with | [_, _], _ => rfl) sc_is_sum (fun f cdv A outer s H E hr => ⟨_, (pus_cons (pus_if (PuW.pt (pw_or' (pt_not' (pt_val' (pu_callO D_is_list hr takesF (pa_cons' (pu_var 0) pa_nil')))) (pw_or1' (pt_not' (pt_val' (pu_callB (cr_all rfl) rb_all T.b_all (by decide +kernel) (pa_cons' (pu_lc (own := [("one", 3)]) rfl sc_is_sum.nd (pui_seq (pu_var 0)) (blkOk_by (by show blkC ["value", "d", "powers", "one", "at"] (defScope s_is_sum) _ _ = true; decide +kernel)) (fun ci => (pug_name (i := 3) sc_is_sum.nd)) (fun ci => (pu_callO D_is_term hr takes0 (pa_cons' (pu_var 3) (pa_cons' (pu_var 1) pa_nil'))))) pa_nil'))))))) (pus_one (pus_ret pu_bl)) pus_nil)
    (pus_cons (pus_set (i := 2) sc_is_sum.nd (pu_lc (own := [("one", 3)]) rfl sc_is_sum.nd (pui_seq (pu_var 0)) (blkOk_by (by show blkC ["value", "d", "powers", "one", "at"] (defScope s_is_sum) _ _ = true; decide +kernel)) (fun ci => (pug_name (i := 3) sc_is_sum.nd)) (fun ci => (pu_callTy c_tuple rb_tuple T.b_tuple (by decide +kernel) (pa_cons' (pu_ix (pu_var 3) pu_int) pa_nil')))))
    (pus_one (pus_ret (pu_callB (cr_all rfl) rb_all T.b_all (by decide +kernel) (pa_cons' (pu_lc (own := [("at", 4)]) rfl sc_is_sum.nd (pui_range1 T.b_range (pa_cons' (pu_op op_sub ro_sub (pu_callB c_len rb_len T.b_len PySem.boot_len (pa_cons' (pu_var 2) pa_nil')) pu_int) pa_nil')) (blkOk_by (by show blkC ["value", "d", "powers", "one", "at"] (defScope s_is_sum) _ _ = true; decide +kernel)) (fun ci => (pug_name (i := 4) sc_is_sum.nd)) (fun ci => (pu_cmp (Px.op_ltT (hu_lt hr)) (ro_ltT (B := 16)) (pu_ix (pu_var 2) (pu_var 4)) (pu_ix (pu_var 2) (pu_op op_addU ro_add (pu_var 4) pu_int))))) pa_nil')))))), fun ss R EX hl h => ?_⟩)
  obtain ⟨x, n, rfl, hn, hx, h⟩ := h
  have isl : ∀ {y : PyData} {o : Option (List PyData)} {R' : Sl → Prop} {EX' : Addr → FD → Prop}, seqD y = o → R' (.d (.bool o.isSome)) → spList [.d y] R' EX' := fun {y o R' EX'} e hR => ⟨y, rfl, by rw [seq_ty, e]; exact hR⟩
  cases hq : seqD x with
  | none =>
    have z : sumB x n = false := by unfold sumB; rw [hq]
    rw [z] at h
    refine if_yes (fun R' hR => or_yes (fun R' hR => not_i false (fun R' hR => tB_i false (fun R' hR => ?_) hR) hR) hR) ?_
    · exact call1_i (s := .d x) (fun R hR => hR) ⟨rfl, isl hq hR⟩
    · exact h
  | some l =>
    obtain ⟨hl, hd⟩ := hx l hq
    have ex : sumB x n = ((l.all fun d => termB d n) && ascD l) := by unfold sumB; rw [hq]
    have t1 : ∀ {R' : Bool → Prop} {E : XP}, R' false → ptNot (ptB (pCalln 1 spList (pCons (pVar 0) pNil))) [some (.d x), some (.d (.int (n : Int))), none, none, none] R' E := fun hR => not_no' (fun R' hR => tB_i true (fun R' hR => call1_i (s := .d x) (fun R hR => hR) ⟨rfl, isl hq hR⟩) hR) hR
    have allc : ∀ {R' : Bool → Prop}, R' (l.all fun d => termB d n) → ptB (pB bAll (pCons (pLc (Px.iS (pVar 0)) (pgName 3) pYes (pCalln 2 spTerm (pCons (pVar 3) (pCons (pVar 1) pNil))) [3]) pNil)) [some (.d x), some (.d (.int (n : Int))), none, none, none] R' (fun _ => EX) := fun {R'} hR => by
      refine tB_i _ (fun R' hR => ?_) hR
      simp only [pB, pCons, pNil, pLc]
      refine iS_i hq (fun R hR => hR) ?_
      refine lc_map (fun d => .bool (termB d n)) (by omega) (fun d hd' R hR => ?_) ⟨_, bools_map l, by rw [all_idmap]; exact hR⟩
      walk_at "pv"
      exact ⟨d, n, rfl, hn, hd d hd', hR⟩
    by_cases h1 : (l.all fun d => termB d n) = true
    · rw [h1, Bool.true_and] at ex
      rw [ex] at h
      have it := fun d hd' => exp_of (List.all_eq_true.mp h1 d hd')
      refine if_no (fun R' hR => or_no (fun R' hR => t1 hR) (fun R' hR => not_no' (fun R' hR => allc (by rw [h1]; exact hR)) hR) hR) ?_
      refine set_step (fun s => s = .d (.list (l.map fun d => .tuple (intsD (expsOf d))))) (fun R' hR => ?_) ?_
      · simp only [pLc]
        refine iS_i hq (fun R hR => hR) ?_
        refine lc_map (fun d => .tuple (intsD (expsOf d))) (by omega) (fun d hd' R hR => ?_) (hR _ rfl)
        obtain ⟨e, r, ns, e1, e2, e3, _, _⟩ := it d hd'
        rw [e3] at hR
        simp only [pgName, pB, pCons, pNil]
        exact ix_i rfl e1 at_0 (bTuple_i e2 hR)
      rintro s rfl
      walk_at "env"
      walk_at "pv"
      refine ⟨by omega, by omega, ?_⟩
      rw [show (((l.length : Nat) : Int) - 1).toNat = l.length - 1 by omega, rangeD_nats]
      refine lc_mapT (fun i : Nat => .int (i : Int)) (fun i => .bool (decide (TS.code 16 (expsOf (l.getD i .none)) < TS.code 16 (expsOf (l.getD (i + 1) .none))))) (by rw [List.length_range]; omega) (fun i hi R hR => ?_) ⟨_, bools_mapA _, by rw [all_idmapA]; exact h⟩
      have hi' := List.mem_range.mp hi
      have g : ∀ k, k < l.length → ∃ d ∈ l, l.getD k .none = d ∧ atI (l.map fun d => PyData.tuple (intsD (expsOf d))) ((k : Nat) : Int) = some (.tuple (intsD (expsOf d))) := fun k hk => by
        refine ⟨l[k], List.getElem_mem hk, by rw [List.getD_eq_getElem?_getD, List.getElem?_eq_getElem hk]; rfl, atI_nat ?_⟩
        rw [List.getElem?_map, List.getElem?_eq_getElem hk]
        rfl
      obtain ⟨d1, m1, g1, a1⟩ := g i (by omega)
      obtain ⟨d2, m2, g2, a2⟩ := g (i + 1) (by omega)
      rw [g1, g2] at hR
      obtain ⟨_, _, ns1, _, _, e1, l1, b1⟩ := it d1 m1
      obtain ⟨_, _, ns2, _, _, e2, l2, b2⟩ := it d2 m2
      walk_at "pv"
      refine ⟨_, a1, _, a2, expsOf d1, expsOf d2, rfl, rfl, by rw [e1, e2, l1, l2], by rw [e1]; exact b1, by rw [e2]; exact b2, hR⟩
    · have h1 : (l.all fun d => termB d n) = false := by simpa using h1
      rw [h1, Bool.false_and] at ex
      rw [ex] at h
      refine if_yes (fun R' hR => or_f true (fun R' hR => t1 hR) (fun R' hR => not_i false (fun R' hR => allc (by rw [h1]; exact hR)) hR) hR) ?_
      exact h
theorem d_Moving_init {qI : Str} {fI : Addr} {fdI : FuncData} (Fu : Fun K "__init__" qI s_Moving_init fI fdI) (T : Blt mg) (Z : Blx mg) (O_Moving : ObK K mg "Moving" S_Moving ["d", "rows"]) (X_BadNumber : XcI K mg "BadNumber" C_BadNumber ["what", "number"]) (X_BadTable : XcI K mg "BadTable" C_BadTable ["what"]) (D_as_tuples : KpO P w K mg base c 5 "as_tuples" ["value"] (spAsT 5)) (D_is_integer : KpO P w K mg base c 1 "is_integer" ["value"] (spIsInt)) (D_is_list : KpO P w K mg base c 1 "is_list" ["value"] (spList)) (D_is_sum : KpO P w K mg base c 4 "is_sum" ["value", "d"] (spSumB)) : FnOk P w K mg base (L2.CX P w) 6 fI fdI ["self", "d", "rows"] (liftI c S_Moving 2 (spIM C_BadNumber C_BadTable)) := by
  refine keepI (ps := ["d", "rows"]) Fu sc_Moving_init (fun f cdv A outer s H E hr => ⟨_, (pus_cons (pus_if (PuW.pt (pw_or' (pt_not' (pt_val' (pu_callO D_is_integer hr takesF (pa_cons' (pu_var 1) pa_nil')))) (pw_or1' (pt_not' (pt_chain' op_le ro_le op_le ro_le pu_int (pu_var 1) (pu_const_MOST_LETTERS Z)))))) (pus_one (pus_raise X_BadNumber hr takesF (pa_cons' pu_str (pa_cons' (pu_var 1) pa_nil')))) pus_nil)
    (pus_cons (pus_if (PuW.pt (pw_or' (pt_not' (pt_val' (pu_callO D_is_list hr takesF (pa_cons' (pu_var 2) pa_nil')))) (pw_or' (pt_cmp' (op_neD (hu64 hr)) ro_ne (pu_callB c_len rb_len T.b_len PySem.boot_len (pa_cons' (pu_var 2) pa_nil')) (pu_var 1)) (pw_or1' (pt_not' (pt_val' (pu_callB (cr_all rfl) rb_all T.b_all (by decide +kernel) (pa_cons' (pu_lc (own := [("row", 3)]) rfl sc_Moving_init.nd (pui_seq (pu_var 2)) (blkOk_by (by show blkC ["self", "d", "rows", "row"] (defScope s_Moving_init) _ _ = true; decide +kernel)) (fun ci => (pug_name (i := 3) sc_Moving_init.nd)) (fun ci => (pu_callO D_is_sum hr takes0 (pa_cons' (pu_var 3) (pa_cons' (pu_var 1) pa_nil'))))) pa_nil')))))))) (pus_one (pus_raise X_BadTable hr takesF (pa_cons' pu_str pa_nil'))) pus_nil)
    (pus_cons (pus_fld (i := 0) O_Moving.o (pu_var 1))
    (pus_one (pus_fld (i := 0) O_Moving.o (pu_callO D_as_tuples hr takesF (pa_cons' (pu_var 2) pa_nil'))))))), fun x ss R EX hl h => ?_⟩)
  obtain ⟨x', y, rfl, h⟩ := h
  have isl : ∀ {y : PyData} {o : Option (List PyData)} {R' : Sl → Prop} {EX' : Addr → FD → Prop}, seqD y = o → R' (.d (.bool o.isSome)) → spList [.d y] R' EX' := fun {y o R' EX'} e hR => ⟨y, rfl, by rw [seq_ty, e]; exact hR⟩
  rcases h with ⟨hd, h⟩ | ⟨n, rfl, n1, n9, h⟩
  · refine if_yes (fun R' hR => ?_) ?_
    · by_cases hi : isIntD x' = true
      · cases x' <;> simp [isIntD] at hi
        rename_i i
        simp only [dB] at hd
        refine or_f true (fun R' hR => not_no' (fun R' hR => ?_) hR) (fun R' hR => not_i false (fun R' hR => tB_i false (fun R' hR => ?_) hR) hR) hR
        · walk_at "pv"
          exact ⟨_, rfl, hR⟩
        · walk_at "pv"
          refine ⟨fun z => ?_, fun _ => hR⟩
          rw [decide_eq_true z, Bool.true_and] at hd
          rw [hd]
          exact hR
      · have hi : isIntD x' = false := by simpa using hi
        refine or_yes (fun R' hR => not_i false (fun R' hR => ?_) hR) hR
        walk_at "pv"
        exact ⟨_, rfl, by rw [hi]; exact hR⟩
    · walk_at "pv"
      exact h
  refine if_no (fun R' hR => or_no (fun R' hR => not_no' (fun R' hR => ?_) hR) (fun R' hR => not_no' (fun R' hR => tB_i true (fun R' hR => ?_) hR) hR) hR) ?_
  · walk_at "pv"
    exact ⟨_, rfl, hR⟩
  · walk_at "pv"
    exact ⟨fun _ => by rw [decide_eq_true (show (n : Int) ≤ 9 by omega)]; exact hR, fun z => absurd (show (1 : Int) ≤ n by omega) z⟩
  have cond : ∀ {R' : Bool → Prop}, WL 4 y → R' (!movB y n) → ptOr (ptNot (ptB (pCalln 1 spList (pCons (pVar 2) pNil)))) (ptOr (ptB (pOp oNe (pB bLen (pCons (pVar 2) pNil)) (pVar 1))) (ptNot (ptB (pB bAll (pCons (pLc (Px.iS (pVar 2)) (pgName 3) pYes (pCalln 2 spSumB (pCons (pVar 3) (pCons (pVar 1) pNil))) [3]) pNil))))) [some (.slf x S_Moving []), some (.d (.int (n : Int))), some (.d y), none] R' (fun _ => EX) := fun {R'} hw hR => by
    cases hq : seqD y with
    | none =>
      have z : movB y n = false := by unfold movB; rw [hq]
      rw [z] at hR
      exact or_yes (fun R' hR => not_i false (fun R' hR => tB_i false (fun R' hR => call1_i (s := .d y) (fun R hR => hR) ⟨rfl, isl hq hR⟩) hR) hR) hR
    | some l =>
      obtain ⟨hl, hd⟩ := hw l hq
      have ex : movB y n = (l.length == n && l.all fun d => sumB d n) := by unfold movB; rw [hq]
      rw [ex] at hR
      refine or_f _ (fun R' hR => not_no' (fun R' hR => tB_i true (fun R' hR => call1_i (s := .d y) (fun R hR => hR) ⟨rfl, isl hq hR⟩) hR) hR) (fun R' hR => ?_) hR
      refine or_two (!(l.length == n)) (!(l.all fun d => sumB d n)) (fun R' hR => tneV_i (fun R hR => len_i rfl hq hR) (fun R hR => hR) ?_) (fun _ R' hR => not_i (l.all fun d => sumB d n) (fun R' hR => ?_) hR) ?_
      · rw [show (((l.length : Nat) : Int) == (n : Int)) = (l.length == n) by rw [Bool.eq_iff_iff]; simp; omega]; exact hR
      · refine tB_i _ (fun R' hR => ?_) hR
        simp only [pB, pCons, pNil, pLc]
        refine iS_i hq (fun R hR => hR) ?_
        refine lc_map (fun d => .bool (sumB d n)) (by omega) (fun d hd' R hR => ?_) ⟨_, bools_map l, by rw [all_idmap]; exact hR⟩
        walk_at "pv"
        exact ⟨d, n, rfl, n9, hd d hd', hR⟩
      · rw [← Bool.not_and]; exact hR
  rcases h with ⟨hw, hb, h⟩ | ⟨m, hm, ok, h⟩
  · refine if_yes (fun R' hR => cond hw (by rw [hb]; exact hR)) ?_
    walk_at "pv"
    exact h
  · refine if_no (fun R' hR => cond ?_ (by rw [movIn_ok hm ok]; exact hR)) ?_
    · exact wl_down (wd_wl (wd_mov (k := 0) hm ok n9))
    refine seq_i (fld_i (.int (n : Int)) rfl (fun R' hR => ?_) (by simp) (by simp) (by simp) rfl ?_)
    · exact hR
    refine fld_i (movD m) rfl (fun R' hR => ?_) (by simp; decide) (by simp) (by simp) rfl ⟨_, rfl, h⟩
    walk_at "pv"
    exact ⟨_, rfl, wd_mov hm ok n9, by rw [asT_mov hm]; exact hR⟩
theorem d_Moving_eq {qI : Str} {fI : Addr} {fdI : FuncData} (Fu : Fun K "__eq__" qI s_Moving_eq fI fdI) (T : Blt mg) (O_Moving : ObK K mg "Moving" S_Moving ["d", "rows"]) : FnOk P w K mg base (L2.CX P w) 2 fI fdI ["self", "other"] (lift c 2 (spEM S_Moving)) := by
  refine keepM (ps := ["self", "other"]) Fu sc_Moving_eq (fun f cdv A outer s H E hr => ⟨_, (pus_one (pus_ret (pu_and (pu_isO O_Moving T.b_isinstance (pu_var 1)) (pu_one (pu_cmp (op_eqD (hu64 hr)) ro_eq (pu_tup (pa_cons' (pu_at O_Moving.o (pu_var 0)) (pa_cons' (pu_at O_Moving.o (pu_var 0)) pa_nil'))) (pu_tup (pa_cons' (pu_at O_Moving.o (pu_var 1)) (pa_cons' (pu_at O_Moving.o (pu_var 1)) pa_nil')))))))), fun ss R EX hl h => ?_⟩)
  rcases h with ⟨n, m, n', m', rfl, h⟩ | ⟨ds, d, rfl, h⟩
  · walk_at "pv"
    refine ⟨okN_E (okN_fd n m) (by decide), okN_E (okN_fd n' m') (by decide), ?_⟩
    rw [eqv_fd]
    exact h
  · walk_at "pv"
    exact h
theorem d_need_moving (F : Has K mg "need_moving" s_need_moving) (T : Blt mg) (O_Moving : ObK K mg "Moving" S_Moving ["d", "rows"]) (X_BadTable : XcI K mg "BadTable" C_BadTable ["what"]) : KpO P w K mg base c 3 "need_moving" ["moving"] (spNeedM S_Moving C_BadTable) := by
  refine keepO F (fun _ _ _ _ _ _ us hl => match us, hl with | [_], _ => rfl) sc_need_moving (fun f cdv A outer s H E hr => ⟨_, (pus_cons (pus_if (pt_not' (pt_val' (pu_isO O_Moving T.b_isinstance (pu_var 0)))) (pus_one (pus_raise X_BadTable hr takesF (pa_cons' pu_str pa_nil'))) pus_nil)
    (pus_one (pus_ret (pu_var 0)))), fun ss R EX hl h => ?_⟩)
  rcases h with ⟨ds, rfl, h⟩ | ⟨d, rfl, h⟩
  · walk_at "pv"
    exact h
  · walk_at "pv"
    exact h
theorem d_need_point (F : Has K mg "need_point" s_need_point) (T : Blt mg) (X_BadRow : XcI K mg "BadRow" C_BadRow ["what", "row"]) (D_as_tuples : KpO P w K mg base c 5 "as_tuples" ["value"] (spAsT 5)) (D_is_list : KpO P w K mg base c 1 "is_list" ["value"] (spList)) (D_is_ratio : KpO P w K mg base c 2 "is_ratio" ["value"] (spIsRat)) : KpO P w K mg base c 6 "need_point" ["point", "d"] (spPt C_BadRow) := by
  refine keepO F (fun _ _ _ _ _ _ us hl => match us, hl with | [_, _], _ => rfl) sc_need_point (fun f cdv A outer s H E hr => ⟨_, (pus_cons (pus_if (PuW.pt (pw_or' (pt_not' (pt_val' (pu_callO D_is_list hr takesF (pa_cons' (pu_var 0) pa_nil')))) (pw_or' (pt_cmp' (op_neD (hu64 hr)) ro_ne (pu_callB c_len rb_len T.b_len PySem.boot_len (pa_cons' (pu_var 0) pa_nil')) (pu_var 1)) (pw_or1' (pt_not' (pt_val' (pu_callB (cr_all rfl) rb_all T.b_all (by decide +kernel) (pa_cons' (pu_lc (own := [("one", 2)]) rfl sc_need_point.nd (pui_seq (pu_var 0)) (blkOk_by (by show blkC ["point", "d", "one"] (defScope s_need_point) _ _ = true; decide +kernel)) (fun ci => (pug_name (i := 2) sc_need_point.nd)) (fun ci => (pu_callO D_is_ratio hr takes0 (pa_cons' (pu_var 2) pa_nil')))) pa_nil')))))))) (pus_one (pus_raise X_BadRow hr takesF (pa_cons' pu_str (pa_cons' (pu_var 0) pa_nil')))) pus_nil)
    (pus_one (pus_ret (pu_callO D_as_tuples hr takesF (pa_cons' (pu_var 0) pa_nil'))))), fun ss R EX hl h => ?_⟩)
  obtain ⟨x, n, rfl, h⟩ := h
  have isl : ∀ {y : PyData} {o : Option (List PyData)} {R' : Sl → Prop} {EX' : Addr → FD → Prop}, seqD y = o → R' (.d (.bool o.isSome)) → spList [.d y] R' EX' := fun {y o R' EX'} e hR => ⟨y, rfl, by rw [seq_ty, e]; exact hR⟩
  have cond : ∀ {R' : Bool → Prop}, Sh1 x → R' (!rowOk x (n : Int)) → ptOr (ptNot (ptB (pCalln 1 spList (pCons (pVar 0) pNil)))) (ptOr (ptB (pOp oNe (pB bLen (pCons (pVar 0) pNil)) (pVar 1))) (ptNot (ptB (pB bAll (pCons (pLc (Px.iS (pVar 0)) (pgName 2) pYes (pCalln 1 spIsRat (pCons (pVar 2) pNil)) [2]) pNil))))) [some (.d x), some (.d (.int (n : Int))), none] R' (fun _ => EX) := fun {R'} hw hR => by
    cases hq : seqD x with
    | none =>
      have z : rowOk x (n : Int) = false := by unfold rowOk; rw [hq]
      rw [z] at hR
      exact or_yes (fun R' hR => not_i false (fun R' hR => tB_i false (fun R' hR => call1_i (s := .d x) (fun R hR => hR) ⟨rfl, isl hq hR⟩) hR) hR) hR
    | some l =>
      have hl := hw l hq
      have ex : rowOk x (n : Int) = ((l.length : Int) == (n : Int) && l.all isRat) := by unfold rowOk; rw [hq]
      rw [ex] at hR
      refine or_f _ (fun R' hR => not_no' (fun R' hR => tB_i true (fun R' hR => call1_i (s := .d x) (fun R hR => hR) ⟨rfl, isl hq hR⟩) hR) hR) (fun R' hR => ?_) hR
      refine or_two (!((l.length : Int) == (n : Int))) (!(l.all isRat)) (fun R' hR => tneV_i (fun R hR => len_i rfl hq hR) (fun R hR => hR) hR) (fun _ R' hR => not_i (l.all isRat) (fun R' hR => ?_) hR) ?_
      · refine tB_i _ (fun R' hR => ?_) hR
        simp only [pB, pCons, pNil, pLc]
        refine iS_i hq (fun R hR => hR) ?_
        refine lc_map (fun d => .bool (isRat d)) (by omega) (fun d hd' R hR => ?_) ⟨_, bools_map l, by rw [all_idmap]; exact hR⟩
        walk_at "pv"
        exact ⟨d, rfl, hR⟩
      · rw [← Bool.not_and]; exact hR
  rcases h with ⟨hs, hb, h⟩ | ⟨p, hp, hl, n9, h⟩
  · refine if_yes (fun R' hR => cond hs (by rw [hb]; exact hR)) ?_
    walk_at "pv"
    exact h
  · have hr : rowOk x (n : Int) = true := by
      unfold rowOk
      rw [seqOf_d hp]
      simp only []
      rw [List.length_map, hl]
      simp only [beq_self_eq_true, Bool.true_and, List.all_map, List.all_eq_true]
      exact fun q _ => isRat_rat q
    refine if_no (fun R' hR => cond (fun l e => ?_) (by rw [hr]; exact hR)) ?_
    · rw [seqOf_d hp] at e
      cases e
      rw [List.length_map]; omega
    walk_at "pv"
    refine ⟨_, rfl, fun l e => ?_, by rw [asT_row hp]; exact h⟩
    rw [seqOf_d hp] at e
    cases e
    refine ⟨by rw [List.length_map]; omega, fun d hd => ?_⟩
    obtain ⟨q, _, rfl⟩ := List.mem_map.mp hd
    exact wd_rat q
theorem d_times_to (F : Has K mg "times_to" s_times_to) (T : Blt mg) (Z : Blx mg) (D_added : KpO P w K mg base c 2 "added" ["one", "other"] (spR2 C0 fAdd)) (D_multiplied : KpO P w K mg base c 2 "multiplied" ["one", "other"] (spR2 C0 fMul)) : KpO P w K mg base c 3 "times_to" ["one", "other", "n"] (spTm0) := by
  refine keepO F (fun _ _ _ _ _ _ us hl => match us, hl with | [_, _, _], _ => rfl) sc_times_to (fun f cdv A outer s H E hr => ⟨_, (pus_cons (pus_ownN (i := 3) sc_times_to.nd (pun_rep (pu_lstK (pa_consK pu_int pa_nilK)) (pu_op op_addU ro_add (pu_var 2) pu_int)))
    (pus_cons (pus_for passF rfl (pui_enumT Z.e (pa_cons' (pu_var 0) pa_nil')) (pug_tup (n := 2) (by rfl) (pugs_cons (pug_name (i := 4) sc_times_to.nd) (pugs_cons (pug_name (i := 5) sc_times_to.nd) pugs_nil))) (pus_one (pus_if (pt_cmp' (op_neD (hu64 hr)) ro_ne (pu_var 5) pu_int) (pus_one (pus_for passF rfl (pui_range1 T.b_range (pa_cons' (pu_op op_sub ro_sub (pu_op op_addU ro_add (pu_var 2) pu_int) (pu_var 4)) pa_nil')) (pug_name (i := 6) sc_times_to.nd) (pus_one (pus_if (pt_cmp' (op_neD (hu64 hr)) ro_ne (pu_ix (pu_var 1) (pu_var 6)) pu_int) (pus_one (pus_setI 3 (pu_op op_addU ro_add (pu_var 4) (pu_var 6)) (pu_callO D_added hr takesF (pa_cons' (pu_ixO 3 (pu_op op_addU ro_add (pu_var 4) (pu_var 6))) (pa_cons' (pu_callO D_multiplied hr takesF (pa_cons' (pu_var 5) (pa_cons' (pu_ix (pu_var 1) (pu_var 6)) pa_nil'))) pa_nil'))))) pus_nil)))) pus_nil)))
    (pus_one (pus_ret (pu_tupO 3 T.b_tuple))))), fun ss R EX hl h => ?_⟩)
  obtain ⟨p, q, rfl, bp, bq, bpq, h⟩ := h
  refine own_i' (fun ds => ds = [.int 0]) (fun R' hR => ?_) ?_
  · walk_at "pv"
    exact ⟨by decide, by decide, hR _ rfl⟩
  rintro ds rfl
  walk_at "env"
  have z0 : p * q = 0 → R (.d (.tuple [.int 0])) := fun e => by rw [e] at h; exact h
  walk_at "pv"
  refine for_one ?_
  walk_at "pv"
  refine ⟨fun hp => ?_, fun hp => ?_⟩
  · refine ⟨by decide, by decide, ?_⟩
    rw [show rangeD 0 (0 + 1 - ((0 : Nat) : Int)).toNat = [.int 0] from rfl]
    refine for_one ?_
    walk_at "pv"
    refine ⟨fun hq => ?_, fun hq => ?_⟩
    · trace_state
      refine ⟨_, at_0, r2_i bp bq True.intro (r2_i (p := 0) (q := p * q) br_zero bpq True.intro ⟨0, rfl, ?_⟩)⟩
      show R (.d (.tuple [fAdd 0 (p * q)]))
      unfold fAdd
      rw [Rat.zero_add]
      exact h
    · exact z0 (by rw [zero_num (q := q) (by simpa using hq), Rat.mul_zero])
  · exact z0 (by rw [zero_num (q := p) (by simpa using hp), Rat.zero_mul])
theorem d_plus_to (F : Has K mg "plus_to" s_plus_to) (T : Blt mg) (D_added : KpO P w K mg base c 2 "added" ["one", "other"] (spR2 C0 fAdd)) : KpO P w K mg base c 3 "plus_to" ["one", "other"] (spPl0) := by
  refine keepO F (fun _ _ _ _ _ _ us hl => match us, hl with | [_, _], _ => rfl) sc_plus_to (fun f cdv A outer s H E hr => ⟨_, (pus_one (pus_ret (pu_callTy c_tuple rb_tuple T.b_tuple (by decide +kernel) (pa_cons' (pu_lc (own := [("x", 2), ("y", 3)]) rfl sc_plus_to.nd (pui_zipU T.b_zip (pa_cons' (pu_var 0) (pa_cons' (pu_var 1) pa_nil'))) (blkOk_by (by show blkC ["one", "other", "x", "y"] (defScope s_plus_to) _ _ = true; decide +kernel)) (fun ci => (pug_tup (n := 2) (by rfl) (pugs_cons (pug_name (i := 2) sc_plus_to.nd) (pugs_cons (pug_name (i := 3) sc_plus_to.nd) pugs_nil)))) (fun ci => (pu_callO D_added hr takes0 (pa_cons' (pu_var 2) (pa_cons' (pu_var 3) pa_nil'))))) pa_nil')))), fun ss R EX hl h => ?_⟩)
  obtain ⟨p, q, rfl, bp, bq, h⟩ := h
  walk_at "pv"
  have e : zipD [ratD p] [ratD q] = [.tuple [ratD p, ratD q]] := rfl
  rw [e]
  refine lc_mapT (fun z : Rat × Rat => .tuple [ratD z.1, ratD z.2]) (fun z => ratD (z.1 + z.2)) (xs := [(p, q)]) (by simp) (fun z hz R hR => ?_) h
  rw [List.mem_singleton.mp hz] at hR ⊢
  walk_at "pv"
  exact r2_i bp bq True.intro hR
theorem d_sum_at (F : Has K mg "sum_at" s_sum_at) (T : Blt mg) (D_plus_to : KpO P w K mg base c 3 "plus_to" ["one", "other"] (spPl0)) (D_times_to : KpO P w K mg base c 3 "times_to" ["one", "other", "n"] (spTm0)) : KpO P w K mg base c 4 "sum_at" ["row", "letters", "n"] (spSumAt) := by
  refine keepO F (fun _ _ _ _ _ _ us hl => match us, hl with | [_, _, _], _ => rfl) sc_sum_at (fun f cdv A outer s H E hr => ⟨_, (pus_cons (pus_set (i := 3) sc_sum_at.nd (pu_op op_repZ ro_repZ (pu_tupK (pa_consK pu_int pa_nilK)) (pu_op op_addU ro_add (pu_var 2) pu_int)))
    (pus_cons (pus_for passF rfl (pui_seq (pu_var 0)) (pug_tup (n := 2) (by rfl) (pugs_cons (pug_name (i := 4) sc_sum_at.nd) (pugs_cons (pug_name (i := 5) sc_sum_at.nd) pugs_nil))) (pus_cons (pus_set (i := 6) sc_sum_at.nd (pu_op op_addU ro_add (pu_tup (pa_cons' (pu_var 5) pa_nil')) (pu_op op_repZ ro_repZ (pu_tupK (pa_consK pu_int pa_nilK)) (pu_var 2))))
    (pus_cons (pus_for passF rfl (pui_zipU T.b_zip (pa_cons' (pu_var 1) (pa_cons' (pu_var 4) pa_nil'))) (pug_tup (n := 2) (by rfl) (pugs_cons (pug_name (i := 7) sc_sum_at.nd) (pugs_cons (pug_name (i := 8) sc_sum_at.nd) pugs_nil))) (pus_one (pus_for passF rfl (pui_range1 T.b_range (pa_cons' (pu_var 8) pa_nil')) (pug_name (i := 9) sc_sum_at.nd) (pus_one (pus_set (i := 6) sc_sum_at.nd (pu_callO D_times_to hr takesF (pa_cons' (pu_var 6) (pa_cons' (pu_var 7) (pa_cons' (pu_var 2) pa_nil')))))))))
    (pus_one (pus_set (i := 3) sc_sum_at.nd (pu_callO D_plus_to hr takesF (pa_cons' (pu_var 3) (pa_cons' (pu_var 6) pa_nil'))))))))
    (pus_one (pus_ret (pu_var 3))))), fun ss R EX hl h => ?_⟩)
  obtain ⟨b, e, g, l, p, rfl, hp, hg, L, h⟩ := h
  refine set_step (fun s => s = .d (one1 0)) (fun R' hR => ?_) ?_
  · walk_at "pv"
    exact ⟨by decide, by decide, by simp, hR _ rfl⟩
  rintro s rfl
  walk_at "env"
  refine for_step (l.map termT) (fun R' hR => ?_) ?_
  · walk_at "pv"
    exact hR
  refine for_foldT termT (fun i (s : Rat) env => ∃ s4 s5 s6 s7 s8 s9, env = [some (.d (lineT l)), some (.d (.list (p.map one1))), some (.d (.int 0)), some (.d (one1 s)), s4, s5, s6, s7, s8, s9]) (fun s t => s + monoZ p t) (a0 := 0) ⟨_, _, _, _, _, _, rfl⟩ (fun i t env N hi hE hN => ?_) fun env hE => ?_
  · obtain ⟨s4, s5, s6, s7, s8, s9, rfl⟩ := hE
    have ht := List.mem_of_getElem? hi
    have hi' := (List.getElem?_eq_some_iff.mp hi).1
    have B := line_br L i
    have few : (l.take i).length * (e + g * b + 1) + (e + g * b + 1) + 1 ≤ 4000 := by
      have : ((l.take i).length + 1) * (e + g * b + 1) ≤ l.length * (e + g * b + 1) := Nat.mul_le_mul_right _ (by rw [List.length_take]; omega)
      rw [Nat.succ_mul] at this
      have := L.few
      omega
    generalize (l.take i).foldl (fun s t => s + monoZ p t) 0 = acc at hN B ⊢
    obtain ⟨h1, h2, h3⟩ := L.tm t ht
    walk_at "pv"
    refine ⟨by decide, by decide, by simp, by decide, ?_⟩
    rw [show (ratD t.2 :: repD (Int.toNat 0) [PyData.int 0]) = [ratD t.2] from rfl, zip_nats]
    refine for_foldT (fun z : Rat × Nat => .tuple [one1 z.1, .int (z.2 : Int)]) (fun i (q : Rat) env => ∃ s7 s8 s9, env = [some (.d (lineT l)), some (.d (.list (p.map one1))), some (.d (.int 0)), some (.d (one1 acc)), some (.d (.tuple (natsD t.1))), some (.d (ratD t.2)), some (.d (one1 q)), s7, s8, s9]) (fun q z => powr q z.1 z.2) (a0 := t.2) ⟨_, _, _, rfl⟩ (fun j z env N hj hE hN' => ?_) fun env hE => ?_
    · obtain ⟨s7, s8, s9, rfl⟩ := hE
      have hz := List.mem_of_getElem? hj
      obtain ⟨z1, z2⟩ := List.of_mem_zip hz
      have M := monoZ_br L ht (j + 1)
      have M0 := mono_br (b := b) (zs := (p.zip t.1).take j) h3 fun z hz => L.pt _ (List.of_mem_zip (List.mem_of_mem_take hz)).1
      have hs : (((p.zip t.1).take j).map (·.2)).sum + z.2 ≤ g := by
        have e1 : (p.zip t.1).take (j + 1) = (p.zip t.1).take j ++ [z] := by rw [List.take_add_one, hj]; rfl
        have e2 : (((p.zip t.1).take (j + 1)).map (·.2)).sum = (((p.zip t.1).take j).map (·.2)).sum + z.2 := by rw [e1, List.map_append, List.sum_append]; simp
        rw [← e2, List.map_take]
        exact Nat.le_trans (sum_take_le _ _) (Nat.le_trans (snd_zip_sum _ _) h2)
      have hy := L.pt _ z1
      generalize ((p.zip t.1).take j).foldl (fun p z => powr p z.1 z.2) t.2 = q0 at hN' M0 ⊢
      generalize (((p.zip t.1).take j).map (·.2)).sum = k0 at M0 hs
      walk_at "pv"
      refine ⟨by omega, by have : z.2 ≤ 8 := by omega
                           omega, ?_⟩
      rw [Int.toNat_natCast]
      refine pForL_ind (fun k env => ∃ s9, env = [some (.d (lineT l)), some (.d (.list (p.map one1))), some (.d (.int 0)), some (.d (one1 acc)), some (.d (.tuple (natsD t.1))), some (.d (ratD t.2)), some (.d (one1 (powr q0 z.1 k))), some (.d (one1 z.1)), some (.d (.int (z.2 : Int))), s9]) ⟨_, rfl⟩ (fun k d env N hk hE hN4 => ?_) fun env hE => ?_
      · obtain ⟨s9, rfl⟩ := hE
        have hk' := (rangeD_at hk).1
        have P := powr_br M0 hy k
        have P1 := powr_br M0 hy (k + 1)
        have le1 : e + k0 * b + (k + 1) * b ≤ e + g * b := by
          rw [Nat.add_assoc, ← Nat.add_mul]
          exact Nat.add_le_add_left (Nat.mul_le_mul_right _ (by omega)) _
        have le0 : k * b ≤ (k + 1) * b := Nat.mul_le_mul_right _ (by omega)
        have le2 : b ≤ (k + 1) * b := Nat.le_mul_of_pos_left _ (by omega)
        walk_at "pv"
        exact ⟨_, _, rfl, br_up P (by omega), br_up hy (by omega), br_up P1 (by omega), hN4 _ ⟨_, rfl⟩⟩
      · obtain ⟨s9, rfl⟩ := hE
        rw [rangeD_len]
        exact hN' _ ⟨_, _, _, rfl⟩
    · obtain ⟨s7, s8, s9, rfl⟩ := hE
      have M := monoZ_br L ht (p.zip t.1).length
      rw [List.take_of_length_le (Nat.le_refl _)] at M
      walk_at "pv"
      exact ⟨_, _, rfl, br_up B (by omega), br_up M (by omega), hN _ ⟨_, _, _, _, _, _, rfl⟩⟩
  · obtain ⟨s4, s5, s6, s7, s8, s9, rfl⟩ := hE
    walk_at "pv"
    exact h
theorem d_values_at (F : Has K mg "values_at" s_values_at) (T : Blt mg) (O_Moving : ObK K mg "Moving" S_Moving ["d", "rows"]) (D_sum_at : KpO P w K mg base c 4 "sum_at" ["row", "letters", "n"] (spSumAt)) : KpO P w K mg base c 5 "values_at" ["moving", "letters", "n"] (spVals S_Moving) := by
  refine keepO F (fun _ _ _ _ _ _ us hl => match us, hl with | [_, _, _], _ => rfl) sc_values_at (fun f cdv A outer s H E hr => ⟨_, (pus_one (pus_ret (pu_lc (own := [("row", 3)]) rfl sc_values_at.nd (pui_seq (pu_at O_Moving.o (pu_var 0))) (blkOk_by (by show blkC ["moving", "letters", "n", "row"] (defScope s_values_at) _ _ = true; decide +kernel)) (fun ci => (pug_name (i := 3) sc_values_at.nd)) (fun ci => (pu_callO D_sum_at hr takes0 (pa_cons' (pu_var 3) (pa_cons' (pu_var 1) (pa_cons' (pu_var 2) pa_nil')))))))), fun ss R EX hl h => ?_⟩)
  obtain ⟨b, e, g, n, m, p, rfl, hm, hp, hg, M, h⟩ := h
  walk_at "pv"
  refine lc_mapT lineT (fun l => one1 (lineZ p l)) (by omega) (fun l hl R hR => ?_) ?_
  · walk_at "pv"
    exact ⟨b, e, g, l, p, rfl, hp, hg, M l hl, hR⟩
  · rw [show (fun l => one1 (lineZ p l)) = one1 ∘ lineZ p from rfl, ← List.map_map]
    exact h
theorem d_value (F : Has K mg "value" s_value) (T : Blt mg) (O_Moving : ObK K mg "Moving" S_Moving ["d", "rows"]) (D_need_moving : KpO P w K mg base c 3 "need_moving" ["moving"] (spNeedM S_Moving C_BadTable)) (D_need_point : KpO P w K mg base c 6 "need_point" ["point", "d"] (spPt C_BadRow)) (D_values_at : KpO P w K mg base c 5 "values_at" ["moving", "letters", "n"] (spVals S_Moving)) : KpO P w K mg base c 7 "value" ["moving", "point"] (spVal S_Moving C_BadTable C_BadRow) := by
  refine keepO F (fun _ _ _ _ _ _ us hl => match us, hl with | [_, _], _ => rfl) sc_value (fun f cdv A outer s H E hr => ⟨_, (pus_cons (pus_expr (pu_callO D_need_moving hr takesF (pa_cons' (pu_var 0) pa_nil')))
    (pus_cons (pus_set (i := 2) sc_value.nd (pu_callO D_need_point hr takesF (pa_cons' (pu_var 1) (pa_cons' (pu_at O_Moving.o (pu_var 0)) pa_nil'))))
    (pus_one (pus_ret (pu_callTy c_tuple rb_tuple T.b_tuple (by decide +kernel) (pa_cons' (pu_lc (own := [("row", 3)]) rfl sc_value.nd (pui_seq (pu_callO D_values_at hr takesF (pa_cons' (pu_var 0) (pa_cons' (pu_lc (own := [("one", 4)]) rfl sc_value.nd (pui_seq (pu_var 2)) (blkOk_by (by show blkC ["moving", "point", "told", "row", "one"] (defScope s_value) _ _ = true; decide +kernel)) (fun ci => (pug_name (i := 4) sc_value.nd)) (fun ci => (pu_tup (pa_cons' (pu_var 4) pa_nil')))) (pa_cons' pu_int pa_nil'))))) (blkOk_by (by show blkC ["moving", "point", "told", "row", "one"] (defScope s_value) _ _ = true; decide +kernel)) (fun ci => (pug_name (i := 3) sc_value.nd)) (fun ci => (pu_ix (pu_var 3) pu_int))) pa_nil')))))), fun ss R EX hl h => ?_⟩)
  rcases h with ⟨d, x, rfl, h⟩ | ⟨n, m, x, rfl, n9, h⟩
  · refine drop_i ?_
    walk_at "pv"
    exact .inr ⟨_, rfl, h⟩
  refine drop_step (fun R' hR => ?_) ?_
  · walk_at "pv"
    exact .inl ⟨_, rfl, hR _⟩
  rcases h with ⟨hs, hb, h⟩ | ⟨b, e, g, p, hp, pl, ml, hg, M, h⟩
  · refine seq_i ?_
    walk_at "pv"
    exact ⟨x, n, rfl, .inl ⟨hs, hb, h⟩⟩
  · refine set_step (fun s => s = .d (rowD p)) (fun R' hR => ?_) ?_
    · walk_at "pv"
      exact ⟨x, n, rfl, .inr ⟨p, hp, pl, n9, hR _ rfl⟩⟩
    rintro s rfl
    walk_at "env"
    walk_at "pv"
    refine lc_mapT ratD one1 (by omega) (fun q hq R hR => ?_) ?_
    · walk_at "pv"
      exact hR
    refine ⟨b, e, g, n, m, p, rfl, by omega, by omega, hg, M, ?_⟩
    walk_at "pv"
    refine lc_mapT one1 ratD (by unfold movZ; rw [List.length_map]; omega) (fun q hq R hR => ?_) h
    walk_at "pv"
    exact hR
end
end K38
namespace K38
open PySem PySem.Spec PyProof.Rows L2 Lx Px

/-- small numbers -/
def Sm (q : Rat) : Prop := Br 2 q ∧ q.num ≠ 0 ∧ q ≠ 7
structure DrM (n g : Nat) (m : List (List Term)) : Prop where
  ok : MovOk n m
  few : ∀ l ∈ m, 1 ≤ l.length ∧ l.length ≤ 3
  sm : ∀ l ∈ m, ∀ t ∈ l, t.1.sum ≤ g ∧ Sm t.2
def spMoving (c : Cc) : PSp := fun ss R _ => ∃ n g : Nat, ss = [.raw (.ref c.p), .d (.int (n : Int)), .d (.int (g : Int))] ∧ 1 ≤ n ∧ n ≤ 9 ∧ g ≤ 8 ∧ ∀ m, DrM n g m → R (.d (movD m))
def spPoint (c : Cc) : PSp := fun ss R _ => ∃ n : Nat, ss = [.raw (.ref c.p), .d (.int (n : Int))] ∧ n ≤ 9 ∧ ∀ p : List Rat, p.length = n → (∀ q ∈ p, Br 2 q) → R (.d (rowD p))
def spSlope : PSp := fun ss R _ => ∃ (b e g : Nat) (l : List Term) (p : List Rat), ss = [.d (lineT l), .d (.list (p.map one1)), .d (.int 0)] ∧ p.length ≤ 9 ∧ g ≤ 8 ∧ LineS b e g p l ∧ R (.d (one1 (lineZ p l)))
def spMM (S CN CT : Addr) : PSp := fun ss R EX => ∃ x y : PyData, ss = [.d x, .d y] ∧ ((dB x = false ∧ EX CN [("number", x), ("what", .str "d")]) ∨ ∃ n : Nat, x = .int (n : Int) ∧ 1 ≤ n ∧ n ≤ 9 ∧
  ((WL 4 y ∧ movB y n = false ∧ EX CT [("what", .str "rows")]) ∨ ∃ m, MovIn m y ∧ MovOk n m ∧ R (stM S n m)))
def spTF (mg : Str → Option Value) (S : Addr) : PSp := fun ss R _ => ∃ f s y, ss = [.raw (.ref f), s, .d y] ∧
  ((mg "_law_made_moving" = some (.ref f) ∧ ∃ x, s = .d x ∧ ((dB x = false ∧ OkR x ∧ R (.d (.tuple [.str "number", .str "d", .str x.shown]))) ∨ ∃ n : Nat, x = .int (n : Int) ∧ 1 ≤ n ∧ n ≤ 9 ∧ WL 4 y ∧ movB y n = false ∧ R (.d (.tuple [.str "table", .str "rows"])))) ∨
   (mg "value" = some (.ref f) ∧ ((∃ d, s = .d d ∧ R (.d (.tuple [.str "table", .str "moving"]))) ∨ ∃ n m, s = stM S n m ∧ n ≤ 9 ∧ Sh1 y ∧ rowOk y (n : Int) = false ∧ OkR y ∧ R (.d (.tuple [.str "row", .str "point", .str y.shown])))))
/-- what the two may be asked, refused -/
def spRef2 (mg : Str → Option Value) (S CT CR CN : Addr) (f : Addr) : PSp := fun ss _ EX => ∃ s y, ss = [s, .d y] ∧
  ((mg "_law_made_moving" = some (.ref f) ∧ ∃ x, s = .d x ∧ ((dB x = false ∧ EX CN [("number", x), ("what", .str "d")]) ∨ ∃ n : Nat, x = .int (n : Int) ∧ 1 ≤ n ∧ n ≤ 9 ∧ WL 4 y ∧ movB y n = false ∧ EX CT [("what", .str "rows")])) ∨
   (mg "value" = some (.ref f) ∧ ((∃ d, s = .d d ∧ EX CT [("what", .str "moving")]) ∨ ∃ n m, s = stM S n m ∧ n ≤ 9 ∧ Sh1 y ∧ rowOk y (n : Int) = false ∧ EX CR [("row", y), ("what", .str "point")])))
def ok2 (mg : Str → Option Value) (f : Addr) : Prop := mg "_law_made_moving" = some (.ref f) ∨ mg "value" = some (.ref f)
def spBentM (c : Cc) : PSp := fun ss R _ => ∃ (n : Nat) (m : List (List Term)), ss = [.raw (.ref c.p), .d (.int (n : Int)), .d (movD m)] ∧ 1 ≤ n ∧ n ≤ 9 ∧ MovOk n m ∧ ∀ x, WL 4 x → movB x n = false → R (.d x)
def Pl : Nat → PyData → Prop
  | 0, _ => False
  | n + 1, d => (∃ i : Int, d = .int i) ∨ ∃ l, d = .tuple l ∧ l.length ≤ 1000 ∧ ∀ x ∈ l, Pl n x
def spIsD (n : Nat) : PSp := fun ss R _ => ∃ d, ss = [.d d, .d d] ∧ Pl n d ∧ R (.d (.bool true))
theorem okN_pl : ∀ (n : Nat) (d : PyData), Pl n d → OkN n d
  | 0, _, h => h.elim
  | n + 1, d, h => by
    rcases h with ⟨i, rfl⟩ | ⟨l, rfl, _, hx⟩
    · exact okN_up (okN_int i) (Nat.zero_le _)
    · exact okN_tup fun x hx' => okN_pl n x (hx x hx')
theorem pl_rat {n : Nat} (q : Rat) : Pl (n + 2) (ratD q) := by
  rcases ratD_or q with ⟨i, e, _⟩ | ⟨a, b, e, _⟩ <;> rw [e]
  · exact .inl ⟨i, rfl⟩
  · refine .inr ⟨_, rfl, by simp, fun x hx => ?_⟩
    simp only [List.mem_cons, List.not_mem_nil, or_false] at hx
    rcases hx with rfl | rfl <;> exact .inl ⟨_, rfl⟩
theorem all_of_get {α : Type} {P : α → Prop} {l : List α} (h : ∀ (i : Nat) (x : α), l[i]? = some x → P x) : ∀ x ∈ l, P x := fun x hx => by
  obtain ⟨i, hi⟩ := List.mem_iff_getElem?.mp hx
  exact h i x hi
theorem cut_takeN (l : List PyData) (k : Nat) : Px.cutD l none (some ((k : Nat) : Int)) = l.take k := by
  unfold Px.cutD
  rw [HT.sIx_nat, HT.sIx_none, List.drop_zero, Nat.sub_zero]
  rcases Nat.le_total k l.length with h | h
  · rw [Nat.min_eq_left h]
  · rw [Nat.min_eq_right h, List.take_of_length_le (Nat.le_refl _), List.take_of_length_le h]
theorem noLs_rat : ∀ l : List Rat, noLs (l.map ratD) = true
  | [] => rfl
  | q :: l => by
    rw [List.map_cons, noLs, noLs_rat l, Bool.and_true]
    rcases ratD_or q with ⟨i, e, _⟩ | ⟨a, b, e, _⟩ <;> rw [e] <;> rfl
theorem fold_snoc {α β : Type} (g : α → β) : ∀ (l : List α) (acc : List β), l.foldl (fun acc x => acc ++ [g x]) acc = acc ++ l.map g
  | [], acc => by simp
  | x :: l, acc => by rw [List.foldl_cons, fold_snoc g l, List.map_cons, List.append_assoc]; rfl
theorem ratD_zero : ratD 0 = .int 0 := rfl
theorem noT_d (x : Option PyData) (l : Ev) : noT (x.map Sl.d :: l) = noT l := by cases x <;> rfl
theorem noT_o (x : Option (List PyData)) (l : Ev) : noT (x.map Sl.own :: l) = noT l := by cases x <;> rfl
theorem noT_t (x : Option Px.Tab) (l : Ev) : noT (x.map Sl.tab :: l) = noT l := by cases x <;> rfl
theorem perm_lift {α β : Type} {f : α → β} {a b : List β} (h : a.Perm b) : ∀ {m : List α}, b = m.map f → ∃ m' : List α, m'.Perm m ∧ a = m'.map f := by
  induction h with
  | nil => intro m e; cases m with
    | nil => exact ⟨[], .nil, rfl⟩
    | cons => cases e
  | cons x _ ih =>
    intro m e
    cases m with
    | nil => cases e
    | cons y m =>
      simp only [List.map_cons, List.cons.injEq] at e
      obtain ⟨m', h1, h2⟩ := ih e.2
      exact ⟨y :: m', h1.cons y, by rw [List.map_cons, e.1, h2]⟩
  | swap x y l =>
    intro m e
    match m, e with
    | [], e => cases e
    | [_], e => cases e
    | u :: v :: m, e =>
      simp only [List.map_cons, List.cons.injEq] at e
      obtain ⟨e1, e2, e3⟩ := e
      exact ⟨v :: u :: m, List.Perm.swap u v m, by rw [List.map_cons, List.map_cons, e1, e2, e3]⟩
  | trans _ _ ih1 ih2 =>
    intro m e
    obtain ⟨m1, h1, h2⟩ := ih2 e
    obtain ⟨m2, h3, h4⟩ := ih1 h2
    exact ⟨m2, h3.trans h1, h4⟩
theorem code_inj {B : Int} : ∀ {a b : List Int}, a.length = b.length → TS.Bd B a → TS.Bd B b → TS.code B a = TS.code B b → a = b
  | [], [], _, _, _, _ => rfl
  | [], _ :: _, h, _, _, _ => by cases h
  | _ :: _, [], h, _, _, _ => by cases h
  | d :: a, e :: b, hl, b1, b2, h => by
    have hl' : a.length = b.length := by simpa using hl
    by_cases q : d = e
    · subst q
      have : TS.code B a = TS.code B b := by
        have h' : d * B ^ a.length + TS.code B a = d * B ^ b.length + TS.code B b := h
        rw [hl'] at h'
        omega
      rw [code_inj hl' b1.tail b2.tail this]
    · rcases Int.lt_or_gt_of_ne q with y | y
      · have := TS.code_lt hl' b1.tail b2.tail y
        omega
      · have := TS.code_lt hl'.symm b2.tail b1.tail y
        omega
/-! ### terms as a dict -/
def keyN (e : List Nat) : List Key := e.map fun n => Sum.inl ((n : Nat) : Int)
def kvsOf (ts : List Term) : Px.Tab := ts.map fun t => (keyN t.1, ratD t.2)
theorem keyN_inj : ∀ {a b : List Nat}, keyN a = keyN b → a = b
  | [], [], _ => rfl
  | [], _ :: _, h => by cases h
  | _ :: _, [], h => by cases h
  | i :: a, j :: b, h => by
    unfold keyN at h
    simp only [List.map_cons, List.cons.injEq, Sum.inl.injEq] at h
    rw [show i = j by omega, keyN_inj (a := a) (b := b) (by unfold keyN; exact h.2)]
theorem keyD_N (e : List Nat) : keyD (keyN e) = .tuple (natsD e) := by
  unfold keyD keyN natsD
  rw [List.map_map]
  rfl
theorem keyN_ints (e : List Nat) : keyN e = (natI e).map Sum.inl := by
  unfold keyN natI
  rw [List.map_map]
  rfl
def putM (ts : List Term) (e : List Nat) (q : Rat) : List Term := if (ts.any fun t => decide (t.1 = e)) = true then ts.map (fun t => if t.1 = e then (t.1, q) else t) else ts ++ [(e, q)]
theorem put_kvs (ts : List Term) (e : List Nat) (q : Rat) : putT (kvsOf ts) (keyN e) (ratD q) = kvsOf (putM ts e q) := by
  have h1 : ((kvsOf ts).any fun kv => decide (kv.1 = keyN e)) = ts.any fun t => decide (t.1 = e) := by
    unfold kvsOf
    rw [List.any_map]
    congr 1
    funext t
    simp only [Function.comp]
    rw [decide_eq_decide]
    exact ⟨keyN_inj, fun h => by rw [h]⟩
  unfold putT putM
  rw [h1]
  split
  · unfold kvsOf
    rw [List.map_map, List.map_map]
    refine List.map_congr_left fun t _ => ?_
    simp only [Function.comp]
    by_cases h : t.1 = e
    · rw [if_pos (by rw [h]), if_pos h]
    · rw [if_neg (fun z => h (keyN_inj z)), if_neg h]
  · unfold kvsOf
    rw [List.map_append]
    rfl
/-- what the dict holds -/
structure TsOk (n g : Nat) (ts : List Term) : Prop where
  nd : (ts.map (·.1)).Nodup
  tm : ∀ t ∈ ts, t.1.length = n ∧ t.1.sum ≤ g ∧ Sm t.2
theorem putM_ok {n g : Nat} {ts : List Term} {e : List Nat} {q : Rat} (h : TsOk n g ts) (h1 : e.length = n) (h2 : e.sum ≤ g) (h3 : Sm q) : TsOk n g (putM ts e q) ∧ (putM ts e q).length ≤ ts.length + 1 ∧ 1 ≤ (putM ts e q).length := by
  unfold putM
  split
  · rename_i hany
    have hl : 1 ≤ ts.length := by
      cases ts with
      | nil => simp at hany
      | cons => simp
    refine ⟨⟨?_, fun t ht => ?_⟩, by rw [List.length_map]; omega, by rw [List.length_map]; exact hl⟩
    · rw [List.map_map]
      have : ((fun x : Term => x.1) ∘ fun t : Term => if t.1 = e then (t.1, q) else t) = fun t => t.1 := by
        funext t
        simp only [Function.comp]
        split <;> rfl
      rw [this]
      exact h.nd
    · obtain ⟨s, hs, rfl⟩ := List.mem_map.mp ht
      obtain ⟨k1, k2, k3⟩ := h.tm s hs
      split
      · exact ⟨k1, k2, h3⟩
      · exact ⟨k1, k2, k3⟩
  · rename_i hany
    refine ⟨⟨?_, fun t ht => ?_⟩, by rw [List.length_append]; simp, by rw [List.length_append]; simp⟩
    · rw [List.map_append]
      refine List.nodup_append.mpr ⟨h.nd, by simp, fun a ha b hb => ?_⟩
      rw [List.map_cons, List.map_nil, List.mem_singleton] at hb
      subst hb
      intro z
      subst z
      obtain ⟨t, ht, e'⟩ := List.mem_map.mp ha
      exact hany (List.any_eq_true.mpr ⟨t, ht, by simpa using e'⟩)
    · rcases List.mem_append.mp ht with ht | ht
      · exact h.tm t ht
      · rw [List.mem_singleton.mp ht]
        exact ⟨h1, h2, h3⟩
theorem get_kvs {ts : List Term} (h : (ts.map (·.1)).Nodup) {t : Term} (ht : t ∈ ts) : getT (kvsOf ts) (keyN t.1) = some (ratD t.2) := by
  induction ts with
  | nil => cases ht
  | cons s ts ih =>
    rw [List.map_cons, List.nodup_cons] at h
    unfold kvsOf getT
    rw [List.map_cons, List.find?_cons]
    rcases List.mem_cons.mp ht with rfl | ht'
    · rw [show decide (keyN t.1 = keyN t.1) = true from decide_eq_true rfl]
      rfl
    · have ne : s.1 ≠ t.1 := fun z => h.1 (by rw [z]; exact List.mem_map.mpr ⟨t, ht', rfl⟩)
      rw [show decide (keyN s.1 = keyN t.1) = false from decide_eq_false fun z => ne (keyN_inj z)]
      exact ih h.2 ht'
theorem bd_nat {n g : Nat} {e : List Nat} (h : e.sum ≤ g) (hg : g ≤ 8) : TS.Bd 16 (natI e) := fun i hi => by
  obtain ⟨k, hk, rfl⟩ := List.mem_map.mp hi
  have := sum_ge hk
  exact ⟨by omega, by omega⟩
/-- sorted, they ascend -/
theorem sorted_asc {n g : Nat} {ts us : List Term} (h : TsOk n g ts) (hg : g ≤ 8) (p : us.Perm ts) (s : (us.map fun t => natI t.1).Pairwise (fun a b => TS.code 16 a ≤ TS.code 16 b)) : ascB us = true := by
  have nd : (us.map (·.1)).Nodup := (p.map (·.1)).nodup_iff.mpr h.nd
  have tm : ∀ t ∈ us, t.1.length = n ∧ t.1.sum ≤ g ∧ Sm t.2 := fun t ht => h.tm t (p.mem_iff.mp ht)
  unfold ascB
  rw [List.all_eq_true]
  intro i hi
  have hi' := List.mem_range.mp hi
  have h0 : i < us.length := by omega
  have h1 : i + 1 < us.length := by omega
  rw [List.getD_eq_getElem?_getD, List.getElem?_eq_getElem h0, List.getD_eq_getElem?_getD, List.getElem?_eq_getElem h1]
  simp only [Option.getD_some]
  rw [decide_eq_true_eq]
  have le := List.pairwise_iff_getElem.mp s i (i + 1) (by rw [List.length_map]; exact h0) (by rw [List.length_map]; exact h1) (by omega)
  rw [List.getElem_map, List.getElem_map] at le
  obtain ⟨a1, a2, _⟩ := tm _ (List.getElem_mem h0)
  obtain ⟨b1, b2, _⟩ := tm _ (List.getElem_mem h1)
  have ne : cd us[i] ≠ cd us[i + 1] := fun z => by
    have e := code_inj (by unfold natI; rw [List.length_map, List.length_map, a1, b1]) (bd_nat (n := n) a2 hg) (bd_nat (n := n) b2 hg) z
    have e2 : us[i].1 = us[i + 1].1 := by
      have := congrArg (List.map Int.toNat) e
      unfold natI at this
      rw [List.map_map, List.map_map] at this
      have id1 : ∀ l : List Nat, l.map (Int.toNat ∘ fun (i : Nat) => (i : Int)) = l := fun l => (List.map_congr_left fun i _ => by simp).trans (List.map_id l)
      rw [id1, id1] at this
      exact this
    have := List.pairwise_iff_getElem.mp nd i (i + 1) (by rw [List.length_map]; exact h0) (by rw [List.length_map]; exact h1) (by omega)
    rw [List.getElem_map, List.getElem_map] at this
    exact this e2
  have le : cd us[i] ≤ cd us[i + 1] := le
  omega
theorem set_sum : ∀ {e : List Nat} {k : Nat}, k < e.length → (e.set k (e.getD k 0 + 1)).sum = e.sum + 1
  | a :: e, 0, _ => by simp; omega
  | a :: e, k + 1, h => by
    have := set_sum (e := e) (k := k) (by simpa using h)
    simp only [List.set_cons_succ, List.sum_cons, List.getD_cons_succ] at this ⊢
    omega
theorem rep_zero (n : Nat) : repD n [.int 0] = natsD (List.replicate n 0) := by
  unfold repD natsD
  induction n with
  | zero => rfl
  | succ n ih => rw [List.replicate_succ, List.replicate_succ, List.flatten_cons, ih]; rfl
theorem sm_div {a b : Int} (h : a = 1 ∨ a = -1 ∨ a = 2 ∨ a = 3) (h' : b = 1 ∨ b = 2) : Sm (Rat.divInt a b) := by
  refine ⟨br_div (by rcases h' with rfl | rfl <;> decide) (by rcases h with rfl | rfl | rfl | rfl <;> decide) (by rcases h' with rfl | rfl <;> decide), ?_, ?_⟩
  · rcases h with rfl | rfl | rfl | rfl <;> rcases h' with rfl | rfl <;> decide
  · rcases h with rfl | rfl | rfl | rfl <;> rcases h' with rfl | rfl <;> decide
theorem name_i {i : Nat} {s : Sl} {env : Ev} {N : Ev → Prop} (h : N (env.set i (some s))) : pgName i s env N := h

local macro_rules | `(tactic| walk_at "pv") => `(tactic| simp only [psNewT, psPutT, psShowT, pIxT, pRepN, oRepZ, psParNN, psParNE, pLstN, psAppPop, psExt, pSlO, pIxO, psSetI, pTr, pLendN, pLcN, pLend, uAt_d, uAt_rows, List.length_map, uIsO, pMake, psOwnN, pListN, pLr, pRg1, pRg2, pTupO, pLenO, oRep, pChain, iEnumP, iZipTL, List.lookup_cons, psSeq, psSet, psPar, psIf, psRet, psDrop, psCont, psNext, psAsg, psFor, psRaise, psOwn, psApp, psShow, uIsP, uFld, pCallE, pdNo, pVar, Px.nth, pC, pOp, pUn, oI, oI0, uI, oAdd, oEq, oEqE, eqv_rat0, List.isEmpty_nil, List.isEmpty_cons, oNe, oIs, oNis, oIx, pNil, pCons, allD, pTup, pLst, pDisp0, bOf, ptB, ptAnd, ptOr, ptNot, pIf, pAndV, pOrV, pNotV, pCalln, pB, bInt, bAbs, bGcd, bLen, bList, bTuple, bRepr, bAll, uIsi, uIsi2, pgName, pgNil, pgCons, pgTup, Px.iR1, Px.iR2, Px.iS, Px.iZip, iZipU, pSl, pNo, pSome, pLc, pYes, noOwn, noOwn1, wipeE, pdOf, startP, List.set, List.map, List.append, List.cons_append, List.nil_append, List.length_cons, List.length_nil, List.replicate, Nat.reduceAdd, Nat.reduceSub, List.getElem?_cons_zero, List.getElem?_cons_succ, isNone, isBool, oSub, oMul, oDiv, oMod, oPow, oLt, oLe, oGt, oGe, at_0, at_1, okE_int, okE_bool, okE_none, okE_rat, eqv_int, eqv_ti, isTy_int_int, isTy_int_tup, isTy_tup_tup, isTy_tup_int, isTy_bool_int, true_and, and_true, beq_iff_eq, decide_eq_true_eq, decide_eq_false_iff_not, beq_eq_false_iff_ne, Bool.not_true, Bool.not_false, Bool.not_eq_true', Bool.not_eq_false', Nat.reduceLeDiff, Option.some.injEq, exists_eq_left', exists_eq_left, forall_const, true_imp_iff, Bool.false_eq_true, Bool.true_eq_false, false_imp_iff, reduceCtorEq])
local macro_rules | `(tactic| walk_at "pvs") => `(tactic| simp [isTy, tyN, at_0, at_1, okE_int, okE_bool, okE_none, eqv_int, oLt, oLe, oGt, oGe, oSub, oMul, oDiv, oMod, oI, oI0])
local macro_rules | `(tactic| walk_at "pvh") => `(tactic| simp only [psNewT, psPutT, psShowT, pIxT, pRepN, oRepZ, psParNN, psParNE, pLstN, psAppPop, psExt, pSlO, pIxO, psSetI, pTr, pLendN, pLcN, pLend, uAt_d, uAt_rows, List.length_map, uIsO, pMake, psOwnN, pListN, pLr, pRg1, pRg2, pTupO, pLenO, oRep, pChain, iEnumP, iZipTL, List.lookup_cons, psSeq, psSet, psPar, psIf, psRet, psDrop, psCont, psNext, psAsg, psFor, psRaise, psOwn, psApp, psShow, uIsP, uFld, pCallE, pdNo, pVar, Px.nth, pC, pOp, pUn, oI, oI0, uI, oAdd, oEq, oEqE, eqv_rat0, List.isEmpty_nil, List.isEmpty_cons, oNe, oIs, oNis, oIx, pNil, pCons, allD, pTup, pLst, pDisp0, bOf, ptB, ptAnd, ptOr, ptNot, pIf, pAndV, pOrV, pNotV, pCalln, pB, bInt, bAbs, bGcd, bLen, bList, bTuple, bRepr, bAll, uIsi, uIsi2, pgName, pgNil, pgCons, pgTup, Px.iR1, Px.iR2, Px.iS, Px.iZip, iZipU, pSl, pNo, pSome, pLc, pYes, noOwn, noOwn1, wipeE, pdOf, startP, List.set, List.map, List.append, List.cons_append, List.nil_append, List.length_cons, List.length_nil, List.replicate, Nat.reduceAdd, Nat.reduceSub, List.getElem?_cons_zero, List.getElem?_cons_succ, isNone, isBool, oSub, oMul, oDiv, oMod, oPow, oLt, oLe, oGt, oGe, at_0, at_1, okE_int, okE_bool, okE_none, okE_rat, eqv_int, eqv_ti, isTy_int_int, isTy_int_tup, isTy_tup_tup, isTy_tup_int, isTy_bool_int, true_and, and_true, beq_iff_eq, decide_eq_true_eq, decide_eq_false_iff_not, beq_eq_false_iff_ne, Bool.not_true, Bool.not_false, Bool.not_eq_true', Bool.not_eq_false', Nat.reduceLeDiff, Option.some.injEq, exists_eq_left', exists_eq_left, forall_const, true_imp_iff, Bool.false_eq_true, Bool.true_eq_false, false_imp_iff, reduceCtorEq, if_true, if_false, not_false_eq_true, not_true_eq_false, *])
local macro_rules | `(tactic| walk_at "env") => `(tactic| try simp only [startP, List.map, List.append, List.cons_append, List.nil_append, List.length_cons, List.length_nil, List.replicate, Nat.reduceAdd, Nat.reduceSub, List.set_cons_zero, List.set_cons_succ])

abbrev s_law_power_times : Stmt := topS 55
theorem sc_law_power_times : FnScope ["one", "other", "n", "found", "i", "k"] ["one", "other", "n"] (defScope s_law_power_times) := ⟨rfl, rfl, rfl, by decide +kernel, rfl, by decide +kernel, by decide +kernel⟩
abbrev s_law_slope : Stmt := topS 56
theorem sc_law_slope : FnScope ["row", "letters", "n", "found", "exponents", "ratio", "term", "letter", "times", "lap", "x", "y"] ["row", "letters", "n"] (defScope s_law_slope) := ⟨rfl, rfl, rfl, by decide +kernel, rfl, by decide +kernel, by decide +kernel⟩
abbrev s_law_moving : Stmt := topS 57
theorem sc_law_moving : FnScope ["pen", "letters", "degree", "rows", "letter", "terms", "lap", "exponents", "step", "at", "key"] ["pen", "letters", "degree"] (defScope s_law_moving) := ⟨rfl, rfl, rfl, by decide +kernel, rfl, by decide +kernel, by decide +kernel⟩
abbrev s_law_point : Stmt := topS 60
theorem sc_law_point : FnScope ["pen", "letters", "k"] ["pen", "letters"] (defScope s_law_point) := ⟨rfl, rfl, rfl, by decide +kernel, rfl, by decide +kernel, by decide +kernel⟩
abbrev s_law_made_moving : Stmt := topS 59
theorem sc_law_made_moving : FnScope ["letters", "rows"] ["letters", "rows"] (defScope s_law_made_moving) := ⟨rfl, rfl, rfl, by decide +kernel, rfl, by decide +kernel, by decide +kernel⟩
section
variable {P : Program} {w : World} {K : PySem.W.Frag} {mg : Str → Option Value} {base : Heap} {c : Cc} {S_Moving C_BadNumber C_BadRow C_BadTable S : Addr} {Cs : Nat → Addr} {cd P' : Addr}

theorem d_law_isN (F : Has K mg "_law_is" s_law_is) (T : Blt mg) {n : Nat} (D_law_is : Kp P w K mg base c n "_law_is" ["told", "due"] (spIsD n)) : Kp P w K mg base c (n + 1) "_law_is" ["told", "due"] (spIsD (n + 1)) := by
  refine keepP F (fun _ _ _ _ _ _ us hl => match us, hl with | [_, _], _ => rfl) sc_law_is (fun f cdv A outer s H E hr hg => ⟨_, (pus_cons (pus_if (pt_val' (pu_isi isi_tuple T.b_isinstance T.b_tuple (by decide +kernel) (pu_var 1))) (pus_cons (pus_if (PuW.pt (pw_or' (pt_not' (pt_val' (pu_isi isi_tuple T.b_isinstance T.b_tuple (by decide +kernel) (pu_var 0)))) (pw_or1' (pt_cmp' (op_neD (hu64 hr)) ro_ne (pu_callB c_len rb_len T.b_len PySem.boot_len (pa_cons' (pu_var 0) pa_nil')) (pu_callB c_len rb_len T.b_len PySem.boot_len (pa_cons' (pu_var 1) pa_nil')))))) (pus_one (pus_ret pu_bl)) pus_nil)
    (pus_one (pus_ret (pu_cmp (op_eqE (hu64 hr)) ro_eqE (pu_lcI (own := [("at", 2)]) rfl sc_law_is.nd (pui_range1 T.b_range (pa_cons' (pu_callB c_len rb_len T.b_len PySem.boot_len (pa_cons' (pu_var 1) pa_nil')) pa_nil')) (blkOk_by (by show blkC ["told", "due", "at"] (defScope s_law_is) _ _ = true; decide +kernel)) (fun ci => (pug_name (i := 2) sc_law_is.nd)) (fun ci => (pt_not' (pt_val' (pu_call (hjk := Nat.le_refl _) D_law_is hr hg takes0 (pa_cons' (pu_ix (pu_var 0) (pu_var 2)) (pa_cons' (pu_ix (pu_var 1) (pu_var 2)) pa_nil')))))) (fun ci => (pu_var 2))) (pu_lstK pa_nilK))))) pus_nil)
    (pus_cons (pus_if (pt_cmp' op_isC ro_is (pu_var 1) pu_non) (pus_one (pus_ret (pu_cmp op_isC ro_is (pu_var 0) pu_non))) pus_nil)
    (pus_cons (pus_if (pt_cmp' op_isC ro_is (pu_var 1) pu_bl) (pus_one (pus_ret (pu_cmp op_isC ro_is (pu_var 0) pu_bl))) pus_nil)
    (pus_cons (pus_if (pt_cmp' op_isC ro_is (pu_var 1) pu_bl) (pus_one (pus_ret (pu_cmp op_isC ro_is (pu_var 0) pu_bl))) pus_nil)
    (pus_cons (pus_if (pt_val' (pu_isi isi_str T.b_isinstance T.b_str (by decide +kernel) (pu_var 1))) (pus_one (pus_ret (pu_and (pu_isi isi_str T.b_isinstance T.b_str (by decide +kernel) (pu_var 0)) (pu_one (pu_cmp (op_eqD (hu64 hr)) ro_eq (pu_var 0) (pu_var 1)))))) pus_nil)
    (pus_one (pus_ret (pu_and (pu_isi isi_int T.b_isinstance T.b_int (by decide +kernel) (pu_var 0)) (pu_and (pu_not (pu_isi isi_bool T.b_isinstance T.b_bool (by decide +kernel) (pu_var 0))) (pu_one (pu_cmp (op_eqD (hu64 hr)) ro_eq (pu_var 0) (pu_var 1)))))))))))), fun ss R EX hl h => ?_⟩)
  obtain ⟨d, rfl, hd, h⟩ := h
  rcases hd with ⟨i, rfl⟩ | ⟨l, rfl, hll, hx⟩
  · walk_at "pv"
    simpa [isTy, tyN, okE_int, eqv_int] using h
  · walk_at "pv"
    refine ⟨fun z => absurd rfl z, by omega, by omega, pLcL_ind (fun i acc => acc = []) rfl (fun i d acc N hi hacc hN => ?_) fun acc e => by subst e; exact h⟩
    subst hacc
    obtain ⟨hk, rfl⟩ := rangeD_at hi
    rw [Int.toNat_natCast] at hk
    have at' : atI l (0 + ((i : Nat) : Int)) = some l[i] := by rw [Int.zero_add]; exact atI_nat (List.getElem?_eq_getElem hk)
    walk_at "pv"
    exact ⟨_, at', _, at', _, rfl, hx _ (List.getElem_mem _), fun z => Bool.noConfusion z, fun _ => hN _ rfl⟩
theorem d_law_power_times (F : Has K mg "_law_power_times" s_law_power_times) (T : Blt mg) (D_law_plus : Kp P w K mg base c 3 "_law_plus" ["one", "other"] (spR2 C0 fAdd)) (D_law_times : Kp P w K mg base c 3 "_law_times" ["one", "other"] (spR2 C0 fMul)) : Kp P w K mg base c 4 "_law_power_times" ["one", "other", "n"] (spTm0) := by
  refine keepP F (fun _ _ _ _ _ _ us hl => match us, hl with | [_, _, _], _ => rfl) sc_law_power_times (fun f cdv A outer s H E hr hg => ⟨_, (pus_cons (pus_ownN (i := 3) sc_law_power_times.nd (pun_rep (pu_lstK (pa_consK pu_int pa_nilK)) (pu_op op_addU ro_add (pu_var 2) pu_int)))
    (pus_cons (pus_for passF rfl (pui_range1 T.b_range (pa_cons' (pu_op op_addU ro_add (pu_var 2) pu_int) pa_nil')) (pug_name (i := 4) sc_law_power_times.nd) (pus_one (pus_for passF rfl (pui_range1 T.b_range (pa_cons' (pu_op op_sub ro_sub (pu_op op_addU ro_add (pu_var 2) pu_int) (pu_var 4)) pa_nil')) (pug_name (i := 5) sc_law_power_times.nd) (pus_one (pus_if (PuW.pt (pw_and' (pt_cmp' (op_neD (hu64 hr)) ro_ne (pu_ix (pu_var 0) (pu_var 4)) pu_int) (pw_and1' (pt_cmp' (op_neD (hu64 hr)) ro_ne (pu_ix (pu_var 1) (pu_var 5)) pu_int)))) (pus_one (pus_setI 3 (pu_op op_addU ro_add (pu_var 4) (pu_var 5)) (pu_call D_law_plus hr hg takesF (pa_cons' (pu_ixO 3 (pu_op op_addU ro_add (pu_var 4) (pu_var 5))) (pa_cons' (pu_call D_law_times hr hg takesF (pa_cons' (pu_ix (pu_var 0) (pu_var 4)) (pa_cons' (pu_ix (pu_var 1) (pu_var 5)) pa_nil'))) pa_nil'))))) pus_nil)))))
    (pus_one (pus_ret (pu_tupO 3 T.b_tuple))))), fun ss R EX hl h => ?_⟩)
  obtain ⟨p, q, rfl, bp, bq, bpq, h⟩ := h
  refine own_i' (fun ds => ds = [.int 0]) (fun R' hR => ?_) ?_
  · walk_at "pv"
    exact ⟨by decide, by decide, hR _ rfl⟩
  rintro ds rfl
  walk_at "env"
  have z0 : p * q = 0 → R (.d (.tuple [.int 0])) := fun e => by rw [e] at h; exact h
  walk_at "pv"
  refine ⟨by decide, by decide, ?_⟩
  rw [show rangeD 0 (0 + 1 : Int).toNat = [.int 0] from rfl]
  refine for_one ?_
  walk_at "pv"
  refine ⟨by decide, by decide, ?_⟩
  rw [show rangeD 0 (0 + 1 - 0 : Int).toNat = [.int 0] from rfl]
  refine for_one ?_
  walk_at "pv"
  by_cases hp : p.num = 0
  · have := z0 (by rw [zero_num (q := p) hp, Rat.zero_mul])
    simp [hp, this]
  · by_cases hq : q.num = 0
    · have := z0 (by rw [zero_num (q := q) hq, Rat.mul_zero])
      simp [hp, hq, this]
    · simp only [hp, hq, not_false_eq_true, true_and, forall_const, not_true_eq_false, false_implies, and_true]
      exact ⟨_, at_0, r2_i bp bq True.intro (r2_i (p:=0) (q:=p*q) br_zero bpq True.intro ⟨0, rfl, by show R (.d (.tuple [ratD (0 + p * q)])); rw [Rat.zero_add]; exact h⟩)⟩
theorem d_law_slope (F : Has K mg "_law_slope" s_law_slope) (T : Blt mg) (D_law_plus : Kp P w K mg base c 3 "_law_plus" ["one", "other"] (spR2 C0 fAdd)) (D_law_power_times : Kp P w K mg base c 4 "_law_power_times" ["one", "other", "n"] (spTm0)) : Kp P w K mg base c 5 "_law_slope" ["row", "letters", "n"] (spSlope) := by
  refine keepP F (fun _ _ _ _ _ _ us hl => match us, hl with | [_, _, _], _ => rfl) sc_law_slope (fun f cdv A outer s H E hr hg => ⟨_, (pus_cons (pus_set (i := 3) sc_law_slope.nd (pu_op op_repA ro_rep (pu_lstK (pa_consK pu_int pa_nilK)) (pu_op op_addU ro_add (pu_var 2) pu_int)))
    (pus_cons (pus_for passF rfl (pui_seq (pu_var 0)) (pug_tup (n := 2) (by rfl) (pugs_cons (pug_name (i := 4) sc_law_slope.nd) (pugs_cons (pug_name (i := 5) sc_law_slope.nd) pugs_nil))) (pus_cons (pus_set (i := 6) sc_law_slope.nd (pu_op op_addU ro_add (pu_tup (pa_cons' (pu_var 5) pa_nil')) (pu_op op_repZ ro_repZ (pu_tupK (pa_consK pu_int pa_nilK)) (pu_var 2))))
    (pus_cons (pus_for passF rfl (pui_zipU T.b_zip (pa_cons' (pu_var 1) (pa_cons' (pu_var 4) pa_nil'))) (pug_tup (n := 2) (by rfl) (pugs_cons (pug_name (i := 7) sc_law_slope.nd) (pugs_cons (pug_name (i := 8) sc_law_slope.nd) pugs_nil))) (pus_one (pus_for passF rfl (pui_range1 T.b_range (pa_cons' (pu_var 8) pa_nil')) (pug_name (i := 9) sc_law_slope.nd) (pus_one (pus_set (i := 6) sc_law_slope.nd (pu_call D_law_power_times hr hg takesF (pa_cons' (pu_var 6) (pa_cons' (pu_var 7) (pa_cons' (pu_var 2) pa_nil')))))))))
    (pus_one (pus_setLc (i := 3) (own := [("x", 10), ("y", 11)]) rfl sc_law_slope.nd (pui_zipU T.b_zip (pa_cons' (pu_var 3) (pa_cons' (pu_var 6) pa_nil'))) (blkOk_by (by show blkC ["row", "letters", "n", "found", "exponents", "ratio", "term", "letter", "times", "lap", "x", "y"] (defScope s_law_slope) _ _ = true; decide +kernel)) (fun ci => (pug_tup (n := 2) (by rfl) (pugs_cons (pug_name (i := 10) sc_law_slope.nd) (pugs_cons (pug_name (i := 11) sc_law_slope.nd) pugs_nil)))) (fun ci => (pu_call D_law_plus hr hg takes0 (pa_cons' (pu_var 10) (pa_cons' (pu_var 11) pa_nil')))))))))
    (pus_one (pus_ret (pu_callTy c_tuple rb_tuple T.b_tuple (by decide +kernel) (pa_cons' (pu_var 3) pa_nil')))))), fun ss R EX hl h => ?_⟩)
  obtain ⟨b, e, g, l, p, rfl, hp, hg, L, h⟩ := h
  refine set_step (fun s => s = .d (.list [ratD 0])) (fun R' hR => ?_) ?_
  · walk_at "pv"
    exact ⟨by decide, by decide, hR _ rfl⟩
  rintro s rfl
  walk_at "env"
  refine for_step (l.map termT) (fun R' hR => ?_) ?_
  · walk_at "pv"
    exact hR
  refine for_foldT termT (fun i (s : Rat) env => ∃ s4 s5 s6 s7 s8 s9 s10 s11, env = [some (.d (lineT l)), some (.d (.list (p.map one1))), some (.d (.int 0)), some (.d (.list [ratD s])), s4, s5, s6, s7, s8, s9, s10, s11]) (fun s t => s + monoZ p t) (a0 := 0) ⟨_, _, _, _, _, _, _, _, rfl⟩ (fun i t env N hi hE hN => ?_) fun env hE => ?_
  · obtain ⟨s4, s5, s6, s7, s8, s9, s10, s11, rfl⟩ := hE
    have ht := List.mem_of_getElem? hi
    have hi' := (List.getElem?_eq_some_iff.mp hi).1
    have B := line_br L i
    have few : (l.take i).length * (e + g * b + 1) + (e + g * b + 1) + 1 ≤ 4000 := by
      have : ((l.take i).length + 1) * (e + g * b + 1) ≤ l.length * (e + g * b + 1) := Nat.mul_le_mul_right _ (by rw [List.length_take]; omega)
      rw [Nat.succ_mul] at this
      have := L.few
      omega
    generalize (l.take i).foldl (fun s t => s + monoZ p t) 0 = acc at hN B ⊢
    obtain ⟨h1, h2, h3⟩ := L.tm t ht
    walk_at "pv"
    refine ⟨by decide, by decide, by simp, by decide, ?_⟩
    rw [show (ratD t.2 :: repD (Int.toNat 0) [PyData.int 0]) = [ratD t.2] from rfl, zip_nats]
    refine for_foldT (fun z : Rat × Nat => .tuple [one1 z.1, .int (z.2 : Int)]) (fun i (q : Rat) env => ∃ s7 s8 s9, env = [some (.d (lineT l)), some (.d (.list (p.map one1))), some (.d (.int 0)), some (.d (.list [ratD acc])), some (.d (.tuple (natsD t.1))), some (.d (ratD t.2)), some (.d (one1 q)), s7, s8, s9, s10, s11]) (fun q z => powr q z.1 z.2) (a0 := t.2) ⟨_, _, _, rfl⟩ (fun j z env N hj hE hN' => ?_) fun env hE => ?_
    · obtain ⟨s7, s8, s9, rfl⟩ := hE
      have hz := List.mem_of_getElem? hj
      obtain ⟨z1, z2⟩ := List.of_mem_zip hz
      have M := monoZ_br L ht (j + 1)
      have M0 := mono_br (b := b) (zs := (p.zip t.1).take j) h3 fun z hz => L.pt _ (List.of_mem_zip (List.mem_of_mem_take hz)).1
      have hs : (((p.zip t.1).take j).map (·.2)).sum + z.2 ≤ g := by
        have e1 : (p.zip t.1).take (j + 1) = (p.zip t.1).take j ++ [z] := by rw [List.take_add_one, hj]; rfl
        have e2 : (((p.zip t.1).take (j + 1)).map (·.2)).sum = (((p.zip t.1).take j).map (·.2)).sum + z.2 := by rw [e1, List.map_append, List.sum_append]; simp
        rw [← e2, List.map_take]
        exact Nat.le_trans (sum_take_le _ _) (Nat.le_trans (snd_zip_sum _ _) h2)
      have hy := L.pt _ z1
      generalize ((p.zip t.1).take j).foldl (fun p z => powr p z.1 z.2) t.2 = q0 at hN' M0 ⊢
      generalize (((p.zip t.1).take j).map (·.2)).sum = k0 at M0 hs
      walk_at "pv"
      refine ⟨by omega, by have : z.2 ≤ 8 := by omega
                           omega, ?_⟩
      rw [Int.toNat_natCast]
      refine pForL_ind (fun k env => ∃ s9, env = [some (.d (lineT l)), some (.d (.list (p.map one1))), some (.d (.int 0)), some (.d (.list [ratD acc])), some (.d (.tuple (natsD t.1))), some (.d (ratD t.2)), some (.d (one1 (powr q0 z.1 k))), some (.d (one1 z.1)), some (.d (.int (z.2 : Int))), s9, s10, s11]) ⟨_, rfl⟩ (fun k d env N hk hE hN4 => ?_) fun env hE => ?_
      · obtain ⟨s9, rfl⟩ := hE
        have hk' := (rangeD_at hk).1
        have P := powr_br M0 hy k
        have P1 := powr_br M0 hy (k + 1)
        have le1 : e + k0 * b + (k + 1) * b ≤ e + g * b := by
          rw [Nat.add_assoc, ← Nat.add_mul]
          exact Nat.add_le_add_left (Nat.mul_le_mul_right _ (by omega)) _
        have le0 : k * b ≤ (k + 1) * b := Nat.mul_le_mul_right _ (by omega)
        have le2 : b ≤ (k + 1) * b := Nat.le_mul_of_pos_left _ (by omega)
        walk_at "pv"
        exact ⟨_, _, rfl, br_up P (by omega), br_up hy (by omega), br_up P1 (by omega), hN4 _ ⟨_, rfl⟩⟩
      · obtain ⟨s9, rfl⟩ := hE
        rw [rangeD_len]
        exact hN' _ ⟨_, _, _, rfl⟩
    · obtain ⟨s7, s8, s9, rfl⟩ := hE
      have M := monoZ_br L ht (p.zip t.1).length
      rw [List.take_of_length_le (Nat.le_refl _)] at M
      walk_at "pv"
      rw [show (p.zip t.1).foldl (fun q z => powr q z.1 z.2) t.2 = monoZ p t from rfl] at M ⊢
      generalize monoZ p t = mq at M hN ⊢
      rw [show zipD [ratD acc] [ratD mq] = [.tuple [ratD acc, ratD mq]] from rfl]
      refine lc_mapT (fun z : Rat × Rat => .tuple [ratD z.1, ratD z.2]) (fun z => ratD (z.1 + z.2)) (xs := [(acc, mq)]) (by simp) (fun z hz R hR => ?_) ?_
      · rw [List.mem_singleton.mp hz] at hR ⊢
        walk_at "pv"
        exact r2_i (br_up B (by omega)) (br_up M (by omega)) True.intro hR
      · exact hN _ ⟨_, _, _, _, _, _, _, _, rfl⟩
  · obtain ⟨s4, s5, s6, s7, s8, s9, s10, s11, rfl⟩ := hE
    walk_at "pv"
    exact h
theorem d_law_moving (F : Has K mg "_law_moving" s_law_moving) (T : Blt mg) (Z : Blx mg) (D_law_draw : Kp P w K mg base c 1 "_law_draw" ["pen", "many"] (spDrawP c)) (D_law_low : Kp P w K mg base c 2 "_law_low" ["top", "bottom"] (spLow)) (D_law_pick : Kp P w K mg base c 2 "_law_pick" ["pen", "some"] (spPickP c)) : Kp P w K mg base c 3 "_law_moving" ["pen", "letters", "degree"] (spMoving c) := by
  refine keepP F (fun _ _ _ _ _ _ us hl => match us, hl with | [_, _, _], _ => rfl) sc_law_moving (fun f cdv A outer s H E hr hg => ⟨_, (pus_cons (pus_own (i := 3) sc_law_moving.nd pa_nil')
    (pus_cons (pus_for passF rfl (pui_range1 T.b_range (pa_cons' (pu_var 1) pa_nil')) (pug_name (i := 4) sc_law_moving.nd) (pus_cons (pus_newT (i := 5) sc_law_moving.nd)
    (pus_cons (pus_for passF rfl (pui_range1 T.b_range (pa_cons' (pu_op op_addU ro_add pu_int (pu_call D_law_draw hr hg takesF (pa_cons' (pu_var 0) (pa_cons' pu_int pa_nil')))) pa_nil')) (pug_name (i := 6) sc_law_moving.nd) (pus_cons (pus_ownN (i := 7) sc_law_moving.nd (pun_rep (pu_lstK (pa_consK pu_int pa_nilK)) (pu_var 1)))
    (pus_cons (pus_for passF rfl (pui_range1 T.b_range (pa_cons' (pu_call D_law_draw hr hg takesF (pa_cons' (pu_var 0) (pa_cons' (pu_op op_addU ro_add (pu_var 2) pu_int) pa_nil'))) pa_nil')) (pug_name (i := 8) sc_law_moving.nd) (pus_cons (pus_set (i := 9) sc_law_moving.nd (pu_call D_law_draw hr hg takesF (pa_cons' (pu_var 0) (pa_cons' (pu_var 1) pa_nil'))))
    (pus_one (pus_setI 7 (pu_var 9) (pu_op op_addU ro_add (pu_ixO 7 (pu_var 9)) pu_int)))))
    (pus_one (pus_putT 5 (hu_of hr) (pu_tupO 7 T.b_tuple) (pu_call D_law_low hr hg takesF (pa_cons' (pu_call D_law_pick hr hg takesF (pa_cons' (pu_var 0) (pa_cons' (pu_lstK (pa_consK pu_int (pa_consK (pu_negK pu_int) (pa_consK pu_int (pa_consK pu_int pa_nilK))))) pa_nil'))) (pa_cons' (pu_call D_law_pick hr hg takesF (pa_cons' (pu_var 0) (pa_cons' (pu_lstK (pa_consK pu_int (pa_consK pu_int pa_nilK))) pa_nil'))) pa_nil'))))))))
    (pus_showT 5 (pus_one (pus_app (i := 3) (pu_callTy c_tuple rb_tuple T.b_tuple (by decide +kernel) (pa_cons' (pu_lc (own := [("key", 10)]) rfl sc_law_moving.nd (pui_seq (pu_callB (cr_sortDA rfl) rb_sortA Z.s (by decide +kernel) (pa_cons' (pu_var 5) pa_nil'))) (blkOk_by (by show blkC ["pen", "letters", "degree", "rows", "letter", "terms", "lap", "exponents", "step", "at", "key"] (defScope s_law_moving) _ _ = true; decide +kernel)) (fun ci => (pug_name (i := 10) sc_law_moving.nd)) (fun ci => (pu_tup (pa_cons' (pu_var 10) (pa_cons' (pu_ixT 5 (hu_of hr) (pu_var 10)) pa_nil'))))) pa_nil'))))))))
    (pus_one (pus_ret (pu_tupO 3 T.b_tuple))))), fun ss R EX hl h => ?_⟩)
  obtain ⟨n, g, rfl, n1, n9, g8, h⟩ := h
  refine own_step ?_
  walk_at "env"
  refine for_step (rangeD 0 n) (fun R' hR => ?_) ?_
  · walk_at "pv"
    exact ⟨by omega, by omega, by rw [Int.toNat_natCast]; exact hR⟩
  refine pForL_ind (fun i env => ∃ (m : List (List Term)) (x4 x6 x8 x9 x10 : Option PyData) (x5 : Option Px.Tab) (x7 : Option (List PyData)), env = [some (.raw (.ref c.p)), some (.d (.int (n : Int))), some (.d (.int (g : Int))), some (.own (m.map lineT)), x4.map .d, x5.map .tab, x6.map .d, x7.map .own, x8.map .d, x9.map .d, x10.map .d] ∧ m.length = i ∧ ∀ l ∈ m, LineOk n l ∧ 1 ≤ l.length ∧ l.length ≤ 3 ∧ ∀ t ∈ l, t.1.sum ≤ g ∧ Sm t.2) ⟨[], none, none, none, none, none, none, none, rfl, rfl, fun l hl => by cases hl⟩ (fun i d env N hi hE hN => ?_) fun env hE => ?_
  rotate_left
  · obtain ⟨m, x4, x6, x8, x9, x10, x5, x7, rfl, hm, hl⟩ := hE
    rw [rangeD_len] at hm
    walk_at "pv"
    exact h m ⟨⟨hm, fun l h => ⟨(hl l h).1, by have := (hl l h).2.2.1; omega⟩⟩, fun l h => ⟨(hl l h).2.1, (hl l h).2.2.1⟩, fun l h => (hl l h).2.2.2⟩
  obtain ⟨m, x4, x6, x8, x9, x10, x5, x7, rfl, hm, hl⟩ := hE
  have hi' := (rangeD_at hi).1
  refine name_i ?_
  walk_at "env"
  refine seq_i ?_
  unfold psNewT
  walk_at "env"
  refine seq_i ?_
  walk_at "pv"
  refine dr_i (by decide) (by decide) fun r r0 r1 => ?_
  walk_at "pv"
  refine ⟨by omega, by omega, ?_⟩
  refine pForL_ind (fun j env => ∃ (ts : List Term) (x6 x8 x9 x10 : Option PyData) (x7 : Option (List PyData)), env = [some (.raw (.ref c.p)), some (.d (.int (n : Int))), some (.d (.int (g : Int))), some (.own (m.map lineT)), some (.d d), some (.ownT (kvsOf ts)), x6.map .d, x7.map .own, x8.map .d, x9.map .d, x10.map .d] ∧ TsOk n g ts ∧ ts.length ≤ j ∧ (1 ≤ j → 1 ≤ ts.length)) ⟨[], x6, x8, x9, x10, x7, rfl, ⟨by simp, fun t ht => by cases ht⟩, by simp, by omega⟩ (fun j d' env N hj hE hN' => ?_) fun env hE => ?_
  rotate_left
  · obtain ⟨ts, x6, x8, x9, x10, x7, rfl, T, tl, t1⟩ := hE
    rw [rangeD_len] at tl t1
    have t1 := t1 (by omega)
    refine ⟨?_, ?_⟩
    · simp only [List.set_cons_zero, List.set_cons_succ, noT, noT_d, noT_o]
    walk_at "env"
    walk_at "pv"
    refine ⟨n, 16, n1, kvsOf ts, ts.map fun t => natI t.1, rfl, ?_, by rw [List.length_map]; omega, fun ns hns => ?_, fun out h1 h2 => ?_⟩
    · unfold kvsOf
      rw [List.map_map, List.map_map]
      exact List.map_congr_left fun t _ => keyN_ints t.1
    · obtain ⟨t, ht, rfl⟩ := List.mem_map.mp hns
      obtain ⟨k1, k2, _⟩ := T.tm t ht
      exact ⟨by unfold natI; rw [List.length_map, k1], bd_nat (n := n) k2 g8⟩
    obtain ⟨us, p, rfl⟩ := perm_lift h1 rfl
    have tm : ∀ t ∈ us, t.1.length = n ∧ t.1.sum ≤ g ∧ Sm t.2 := fun t ht => T.tm t (p.mem_iff.mp ht)
    have ul := p.length_eq
    rw [List.map_map]
    refine lc_mapT (fun t : Term => .tuple (intsD (natI t.1))) termT (by omega) (fun t ht R hR => ?_) ?_
    · walk_at "pv"
      refine ⟨keyN t.1, ratD t.2, ?_, get_kvs T.nd (p.mem_iff.mp ht), ?_⟩
      · rw [keyD_N, natsD_ints]
      · rw [← natsD_ints]
        exact hR
    · refine ⟨by omega, hN _ ⟨m ++ [us], some d, x6, x8, x9, x10, some (kvsOf ts), x7, by rw [List.map_append]; rfl, by rw [List.length_append, hm]; rfl, fun l hl' => ?_⟩⟩
      rcases List.mem_append.mp hl' with hl' | hl'
      · exact hl l hl'
      · rw [List.mem_singleton.mp hl']
        exact ⟨⟨fun t ht => ⟨(tm t ht).1, by have := (tm t ht).2.1; omega, (tm t ht).2.2.2.1⟩, sorted_asc T g8 p h2⟩, by omega, by omega, fun t ht => ⟨(tm t ht).2.1, (tm t ht).2.2⟩⟩
  obtain ⟨ts, x6, x8, x9, x10, x7, rfl, T, tl, t1⟩ := hE
  have hj' := (rangeD_at hj).1
  refine name_i ?_
  walk_at "env"
  refine own_i' (fun ds => ds = natsD (List.replicate n 0)) (fun R' hR => ?_) ?_
  · walk_at "pv"
    exact ⟨by omega, by omega, hR _ (by rw [Int.toNat_natCast, rep_zero])⟩
  rintro ds rfl
  walk_at "env"
  refine seq_i ?_
  walk_at "pv"
  refine dr_i (by omega) (by omega) fun r' r0' r1' => ?_
  walk_at "pv"
  refine ⟨by omega, by omega, ?_⟩
  refine pForL_ind (fun k env => ∃ (e : List Nat) (x8 x9 : Option PyData), env = [some (.raw (.ref c.p)), some (.d (.int (n : Int))), some (.d (.int (g : Int))), some (.own (m.map lineT)), some (.d d), some (.ownT (kvsOf ts)), some (.d d'), some (.own (natsD e)), x8.map .d, x9.map .d, x10.map .d] ∧ e.length = n ∧ e.sum = k) ⟨List.replicate n 0, x8, x9, rfl, by simp, by simp⟩ (fun k d2 env N hk hE hN2 => ?_) fun env hE => ?_
  · obtain ⟨e, x8, x9, rfl, el, es⟩ := hE
    refine name_i ?_
    walk_at "env"
    refine set_step (fun s => ∃ a : Nat, s = .d (.int (a : Int)) ∧ a < n) (fun R' hR => ?_) ?_
    · walk_at "pv"
      refine dr_i (by omega) (by omega) fun a a0 a1 => hR _ ⟨a.toNat, by rw [Int.toNat_of_nonneg a0], by omega⟩
    rintro s ⟨a, rfl, ha⟩
    walk_at "env"
    walk_at "pv"
    have hat : atI (natsD e) ((a : Nat) : Int) = some (.int ((e.getD a 0 : Nat) : Int)) := atI_nat (by
      unfold natsD
      rw [List.getElem?_map, List.getD_eq_getElem?_getD, List.getElem?_eq_getElem (by omega)]
      rfl)
    refine ⟨_, hat, ?_⟩
    walk_at "pv"
    refine ⟨a, by rw [show (natsD e).length = n by unfold natsD; rw [List.length_map, el]]; exact ixN_nat (by omega) (by omega), hN2 _ ⟨e.set a (e.getD a 0 + 1), some d2, some (.int (a : Int)), ?_, by rw [List.length_set]; exact el, by rw [set_sum (by omega), es]⟩⟩
    have e1 : (natsD e).set a (.int (((e.getD a 0 : Nat) : Int) + 1)) = natsD (e.set a (e.getD a 0 + 1)) := by
      unfold natsD
      rw [List.map_set]
      rfl
    rw [e1]
    rfl
  · obtain ⟨e, x8, x9, rfl, el, es⟩ := hE
    rw [rangeD_len] at es
    walk_at "pv"
    refine pk_i (by decide) (by decide) fun x hx => ?_
    refine pk_i (by decide) (by decide) fun y hy => ?_
    have hx' : ∃ a : Int, x = .int a ∧ (a = 1 ∨ a = -1 ∨ a = 2 ∨ a = 3) := by
      simp only [List.mem_cons, List.not_mem_nil, or_false] at hx
      rcases hx with rfl | rfl | rfl | rfl <;> exact ⟨_, rfl, by decide⟩
    have hy' : ∃ b : Int, y = .int b ∧ (b = 1 ∨ b = 2) := by
      simp only [List.mem_cons, List.not_mem_nil, or_false] at hy
      rcases hy with rfl | rfl <;> exact ⟨_, rfl, by decide⟩
    obtain ⟨a, rfl, ha⟩ := hx'
    obtain ⟨b, rfl, hb⟩ := hy'
    have S := sm_div ha hb
    obtain ⟨T', l1, l2⟩ := putM_ok T el (show e.sum ≤ g by omega) S
    refine ⟨a, b, rfl, by omega, bn_mono (a := 2) (by unfold Bn; omega), keyN e, ?_, by unfold kvsOf; rw [List.length_map]; omega, ?_, ?_⟩
    · rw [keyD_N]
    · simp only [noT, noT_d]
    · rw [put_kvs]
      exact hN' _ ⟨putM ts e (Rat.divInt a b), some d', x8, x9, x10, some (natsD e), rfl, T', by omega, fun _ => l2⟩
theorem d_law_point (F : Has K mg "_law_point" s_law_point) (T : Blt mg) (D_law_low : Kp P w K mg base c 2 "_law_low" ["top", "bottom"] (spLow)) (D_law_pick : Kp P w K mg base c 2 "_law_pick" ["pen", "some"] (spPickP c)) : Kp P w K mg base c 3 "_law_point" ["pen", "letters"] (spPoint c) := by
  refine keepP F (fun _ _ _ _ _ _ us hl => match us, hl with | [_, _], _ => rfl) sc_law_point (fun f cdv A outer s H E hr hg => ⟨_, (pus_one (pus_ret (pu_callTy c_tuple rb_tuple T.b_tuple (by decide +kernel) (pa_cons' (pu_lc (own := [("k", 2)]) rfl sc_law_point.nd (pui_range1 T.b_range (pa_cons' (pu_var 1) pa_nil')) (blkOk_by (by show blkC ["pen", "letters", "k"] (defScope s_law_point) _ _ = true; decide +kernel)) (fun ci => (pug_name (i := 2) sc_law_point.nd)) (fun ci => (pu_call D_law_low hr hg takes0 (pa_cons' (pu_call D_law_pick hr hg takes0 (pa_cons' (pu_var 0) (pa_cons' (pu_lstK (pa_consK pu_int (pa_consK pu_int (pa_consK (pu_negK pu_int) (pa_consK pu_int (pa_consK pu_int pa_nilK)))))) pa_nil'))) (pa_cons' (pu_call D_law_pick hr hg takes0 (pa_cons' (pu_var 0) (pa_cons' (pu_lstK (pa_consK pu_int (pa_consK pu_int (pa_consK pu_int pa_nilK)))) pa_nil'))) pa_nil'))))) pa_nil')))), fun ss R EX hl h => ?_⟩)
  obtain ⟨n, rfl, n9, h⟩ := h
  walk_at "pv"
  refine ⟨by omega, by omega, lc_rel ratD (fun _ q => Br 2 q) (by rw [rangeD_len]; omega) (fun k d hk R hR => ?_) fun p hp hq => ?_⟩
  · obtain ⟨_, rfl⟩ := rangeD_at hk
    walk_at "pv"
    refine pk_i (by decide) (by decide) fun x hx => ?_
    refine pk_i (by decide) (by decide) fun y hy => ?_
    simp only [List.mem_cons, List.not_mem_nil, or_false] at hx hy
    rcases hx with rfl | rfl | rfl | rfl | rfl <;> rcases hy with rfl | rfl | rfl <;> exact ⟨_, _, rfl, by decide, by decide, hR _ (br_div (by decide) (by decide) (by decide))⟩
  · exact h p (by rw [hp, rangeD_len, Int.toNat_natCast]) (all_of_get hq)
theorem d_law_made_moving (F : Has K mg "_law_made_moving" s_law_made_moving) (T : Blt mg) (D_Moving : KpI P w K mg base c 6 "Moving" S_Moving 2 (spIM (Cs 0) (Cs 2))) : KpO P w K mg base c 8 "_law_made_moving" ["letters", "rows"] (spMM S_Moving (Cs 0) (Cs 2)) := by
  refine keepO F (fun _ _ _ _ _ _ us hl => match us, hl with | [_, _], _ => rfl) sc_law_made_moving (fun f cdv A outer s H E hr => ⟨_, (pus_one (pus_ret (pu_make D_Moving hr takesF (pa_cons' (pu_var 0) (pa_cons' (pu_var 1) pa_nil'))))), fun ss R EX hl h => ?_⟩)
  obtain ⟨x, y, rfl, h⟩ := h
  walk_at "pv"
  exact ⟨x, y, rfl, h⟩
end
end K38
namespace K38
open PySem PySem.Spec PyProof.Rows L2 Lx Px

theorem due2 {Cs : Nat → Addr} {x : Str} (hx : OkR (.str x)) : dueK Cs (Cs 2) [("what", .str x)] (.tuple [.str "table", .str x]) :=
  ⟨2, [.str x], rfl, rfl, by decide, rfl, fun v hv => by rw [List.mem_singleton.mp hv]; exact hx, rfl⟩
section
variable {X : Cx} {c : Cc} {W : WX} {S : Addr} {Cs : Nat → Addr}
theorem pu_fltJ {n : Nat} {x : Str} {cd P' : Addr} {params : Arguments} {body : Expr} {scope : Scope} {p lpos pos : Pos} {pe : PTE} (FF : Has X.K X.mg "_law_fault" s_law_fault) (T : Blt X.mg) (hVE : X.mg "ValueError" = none) (TC : Tc X.K X.mg S tab Cs) (DK : KpE X.prog X.w X.K X.mg X.base c 2 "_law_kinds" ["e"] (spKindsP Cs)) (M : Mk X.base X.mg c x cd P')
    (hr : Room (n + 3) X.A) (hg : X.A.guards = some []) (L : LamX.LamS X.env.scope scope) (hbody : ∀ (A : Around) (outer : List Env) (s : Shared) (H : Hp) (E : XK) (f c' : Addr), Room (n + 1) (A.deeper (LamX.lamEnv X scope s.heap.objs.size f c')) → PuE (LamX.lamCx X A outer s H E scope f c') c (WF E) body pe)
    (hq : X.env.qual ++ "<lambda>" = lamQ x := by rfl) (hcode : X.env.code = .ref cd := by rfl) (hgl : Gl X "_law_fault" := by rfl) (hdef : defaultsOf params X.env = ([], []) := by rfl)
    (hbind : ∀ (q : Str) (cl : List (Str × Addr)) (pm cv ctv : Value), bindArgs (PySem.W.kla_fn "<lambda>" q params body scope cl pm cv ctv) ⟨[], []⟩ = pure [] := by intros; rfl) :
    PuE X c W (.Call (.Name "_law_fault" p) [.Lambda params body scope lpos] [] pos) (pFault (dueK Cs) pe) :=
  pu_fault FF (fun _ _ _ _ _ _ us hl => match us, hl with | [_], _ => rfl) sc_law_fault rfl (.inl rfl) (fun g cdg => give_fault (j := n) T hVE TC DK hr hg) M.tb hcode (by rw [hq]; exact M.inT) (fun p hp e => by rw [hq]; exact M.un p hp e) hr L hbody hgl hdef hbind
end
/-! ### bent rows -/
structure BL (n : Nat) (d : PyData) : Prop where
  w : WL 3 d
  b : sumB d n = false
  l : noL d = true
theorem wl_tup {k : Nat} {l : List PyData} (h : l.length ≤ 1000) (h2 : ∀ d ∈ l, WL k d) : WL (k + 1) (.tuple l) := fun ys e => by
  cases e
  exact ⟨h, h2⟩
theorem wl_atom {k : Nat} {x : PyData} (h : seqD x = none) : WL k x := by
  cases k with
  | zero => exact True.intro
  | succ k => exact fun l e => by rw [h] at e; cases e
theorem bl_atom {n : Nat} {x : PyData} (h : seqD x = none) (h2 : noL x = true) : BL n x := ⟨wl_atom h, by unfold sumB; rw [h], h2⟩
theorem bl_one {n : Nat} {e r : PyData} (h1 : WL 1 e) (h2 : WL 1 r) (h3 : expB e n = false ∨ isRat r = false ∨ topD r = 0) (h4 : noL e = true) (h5 : noL r = true) : BL n (.tuple [.tuple [e, r]]) := by
  refine ⟨wl_tup (by simp) fun d hd => ?_, ?_, ?_⟩
  · rw [List.mem_singleton.mp hd]
    refine wl_tup (by simp) fun d hd => ?_
    simp only [List.mem_cons, List.not_mem_nil, or_false] at hd
    rcases hd with rfl | rfl
    · exact h1
    · exact h2
  · have : termB (.tuple [e, r]) n = false := by
      show (expB e n && (isRat r && !decide (topD r = 0))) = false
      rcases h3 with h | h | h
      · rw [h]; rfl
      · rw [h, Bool.false_and, Bool.and_false]
      · rw [decide_eq_true h, Bool.not_true, Bool.and_false, Bool.and_false]
    show (([PyData.tuple [e, r]].all fun d => termB d n) && ascD [.tuple [e, r]]) = false
    rw [List.all_cons, this]
    rfl
  · show (noL (.tuple [e, r]) && true) = true
    rw [Bool.and_true]
    show (noL e && (noL r && true)) = true
    rw [h4, h5]
    rfl
theorem wl_ints {l : List PyData} (h : l.length ≤ 1000) : WL 1 (.tuple l) := wl_tup h fun _ _ => True.intro
theorem noLs_map {α : Type} {f : α → PyData} (h : ∀ a, noL (f a) = true) : ∀ l : List α, noLs (l.map f) = true
  | [] => rfl
  | a :: l => by rw [List.map_cons, noLs, h, noLs_map h l]; rfl
theorem noLs_app : ∀ {a b : List PyData}, noLs a = true → noLs b = true → noLs (a ++ b) = true
  | [], _, _, h => h
  | x :: a, b, h, h2 => by
    rw [noLs, Bool.and_eq_true] at h
    rw [List.cons_append, noLs, h.1, noLs_app h.2 h2]
    rfl
theorem noL_nats (o : List Nat) : noL (.tuple (natsD o)) = true := by
  rw [noL]
  exact noLs_map (fun _ => rfl) o
theorem noL_ratD (q : Rat) : noL (ratD q) = true := by
  unfold ratD
  split <;> rfl
theorem noL_termT (t : Term) : noL (termT t) = true := by
  show (noL (.tuple (natsD t.1)) && (noL (ratD t.2) && true)) = true
  rw [noL_nats, noL_ratD]
  rfl
theorem noL_lineT (l : List Term) : noL (lineT l) = true := by
  rw [noL]
  exact noLs_map noL_termT l
theorem noLs_mov (m : List (List Term)) : noLs (m.map lineT) = true := noLs_map noL_lineT m
theorem natsD_len (o : List Nat) : (natsD o).length = o.length := List.length_map ..
theorem wl_lineT {n : Nat} {l : List Term} (ok : LineOk n l) (hl : l.length ≤ 100) (n9 : n ≤ 9) : WL 3 (lineT l) := by
  refine wl_tup (by rw [List.length_map]; omega) fun d hd => ?_
  obtain ⟨t, ht, rfl⟩ := List.mem_map.mp hd
  refine wl_tup (by simp) fun d hd => ?_
  simp only [List.mem_cons, List.not_mem_nil, or_false] at hd
  rcases hd with rfl | rfl
  · exact wl_ints (by rw [natsD_len, (ok.tm t ht).len]; omega)
  · exact wd_wl (wd_rat (k := 0) t.2) |> wl_down
/-- the first of two exponents not below the second -/
theorem bl_pair {n : Nat} {e f : List Nat} {a b : PyData} (he : e.length ≤ 1000) (hf : f.length ≤ 1000) (ha : seqD a = none) (hb : seqD b = none) (ha2 : noL a = true) (hb2 : noL b = true) (hc : ¬ TS.code 16 (natI e) < TS.code 16 (natI f)) : BL n (.tuple [.tuple [.tuple (natsD e), a], .tuple [.tuple (natsD f), b]]) := by
  have w1 : ∀ {o : List Nat} {x : PyData}, o.length ≤ 1000 → seqD x = none → WL 2 (.tuple [.tuple (natsD o), x]) := fun ho hx => wl_tup (by simp) fun d hd => by
    simp only [List.mem_cons, List.not_mem_nil, or_false] at hd
    rcases hd with rfl | rfl
    · exact wl_ints (by rw [natsD_len]; exact ho)
    · exact wl_atom hx
  have n1 : ∀ {o : List Nat} {x : PyData}, noL x = true → noL (.tuple [.tuple (natsD o), x]) = true := fun {o x} hx => by
    show (noL (.tuple (natsD o)) && (noL x && true)) = true
    rw [noL_nats, hx]
    rfl
  refine ⟨wl_tup (by simp) fun d hd => ?_, ?_, ?_⟩
  · simp only [List.mem_cons, List.not_mem_nil, or_false] at hd
    rcases hd with rfl | rfl
    · exact w1 he ha
    · exact w1 hf hb
  · show (_ && ascD [.tuple [.tuple (natsD e), a], .tuple [.tuple (natsD f), b]]) = false
    have : ascD [.tuple [.tuple (natsD e), a], .tuple [.tuple (natsD f), b]] = false := by
      unfold ascD
      show (decide (TS.code 16 (toInts (natsD e)) < TS.code 16 (toInts (natsD f))) && true) = false
      rw [natsD_ints, natsD_ints, toInts_eq, toInts_eq, decide_eq_false hc]
      rfl
    rw [this, Bool.and_false]
  · show (noL _ && (noL _ && true)) = true
    rw [n1 ha2, n1 hb2]
    rfl
theorem code_one (k : Nat) : ¬ TS.code 16 (natI (1 :: List.replicate k 0)) < TS.code 16 (natI (0 :: List.replicate k 0)) := by
  show ¬ (1 * 16 ^ (natI (List.replicate k 0)).length + TS.code 16 (natI (List.replicate k 0)) < 0 * 16 ^ (natI (List.replicate k 0)).length + TS.code 16 (natI (List.replicate k 0)))
  have : (0 : Int) < 16 ^ (natI (List.replicate k 0)).length := Int.pow_pos (by decide)
  omega
theorem mov_len {x : List PyData} {n : Nat} (h : x.length ≠ n) : movB (.tuple x) n = false := by
  show (x.length == n && _) = false
  rw [beq_false_of_ne h]
  rfl
theorem mov_bad {x : List PyData} {n : Nat} {d : PyData} (h : d ∈ x) (hd : sumB d n = false) : movB (.tuple x) n = false := by
  show (_ && x.all fun d => sumB d n) = false
  have : (x.all fun d => sumB d n) = false := by
    rw [List.all_eq_false]
    exact ⟨d, h, by rw [hd]; decide⟩
  rw [this, Bool.and_false]
theorem repD_len1 (n : Nat) (d : PyData) : (repD n [d]).length = n := by
  unfold repD
  induction n with
  | zero => rfl
  | succ n ih => rw [List.replicate_succ, List.flatten_cons, List.length_append, ih]; simp; omega
theorem noLs_rep (n : Nat) {d : PyData} (h : noL d = true) : noLs (repD n [d]) = true := by
  unfold repD
  induction n with
  | zero => rfl
  | succ n ih => rw [List.replicate_succ, List.flatten_cons]; exact noLs_app (by rw [noLs, h]; rfl) ih
theorem expB_len {l : List PyData} {n : Nat} (h : l.length ≠ n) : expB (.tuple l) n = false := by
  show (l.length == n && _) = false
  rw [beq_false_of_ne h]
  rfl
theorem expB_head {d : PyData} {l : List PyData} {n : Nat} (h : natB d = false) : expB (.tuple (d :: l)) n = false := by
  show (_ && ((d :: l).all natB && _)) = false
  rw [List.all_cons, h, Bool.false_and, Bool.false_and, Bool.and_false]
theorem intSum_rep (n : Nat) : intSum (repD n [.int 0]) = 0 := by
  rw [rep_zero, natsD_ints, intSum_eq, natI_sum]
  simp
theorem expB_nine {n : Nat} (k : Nat) : expB (.tuple (.int 9 :: repD k [.int 0])) n = false := by
  show (_ && (_ && decide (9 + intSum (repD k [.int 0]) ≤ 8))) = false
  rw [intSum_rep, show decide ((9 : Int) + 0 ≤ 8) = false from rfl, Bool.and_false, Bool.and_false]
theorem own_a {i : Nat} {pa : PTA} {rest : PTS} {P : PD} {env : Ev} (I : List PyData → Prop) (h1 : ∀ R : List PyData → Prop, (∀ ds, ds.length ≤ 1000 → I ds → R ds) → pa env (fun ss => allD ss fun ds => ds.length ≤ 1000 ∧ R ds) P.ex) (h2 : ∀ ds, I ds → rest P (env.set i (some (.own ds)))) : psSeq (psOwn i pa) rest P env := h1 _ fun ds _ => h2 ds
theorem ext_a {i : Nat} {pa : PTE} {rest : PTS} {P : PD} {env : Ev} {ds : List PyData} (I : List PyData → Prop) (hn : Px.nth env i = some (.own ds)) (h1 : ∀ R : Sl → Prop, (∀ es, I es → R (.d (.list es))) → pa env R P.ex) (hl : ∀ es, I es → ds.length + es.length ≤ 1000000) (h2 : ∀ es, I es → rest P (env.set i (some (.own (ds ++ es))))) : psSeq (psExt i pa) rest P env := by
  unfold psSeq psExt
  rw [hn]
  exact h1 _ fun es he => ⟨hl es he, h2 es he⟩
theorem app_a {i : Nat} {pa : PTE} {rest : PTS} {P : PD} {env : Ev} {ds : List PyData} (I : PyData → Prop) (hn : Px.nth env i = some (.own ds)) (h1 : ∀ R : Sl → Prop, (∀ d, I d → R (.d d)) → pa env R P.ex) (hl : ds.length ≤ 1000000) (h2 : ∀ d, I d → rest P (env.set i (some (.own (ds ++ [d]))))) : psSeq (psApp i pa) rest P env := by
  unfold psSeq psApp
  rw [hn]
  exact h1 _ fun d hd => ⟨hl, h2 d hd⟩
theorem rep_atom (n : Nat) {x d : PyData} (h : seqD d = none) (hx : x ∈ repD n [d]) : seqD x = none := by
  unfold repD at hx
  obtain ⟨l, hl, hx⟩ := List.mem_flatten.mp hx
  rw [(List.mem_replicate.mp hl).2, List.mem_singleton] at hx
  rw [hx]
  exact h
theorem bl_two {n m : Nat} (hm : m ≤ 1000) : BL n (.tuple [.tuple (repD m [.int 0]), .int 1]) := by
  refine ⟨wl_tup (by simp) fun d hd => ?_, ?_, ?_⟩
  · simp only [List.mem_cons, List.not_mem_nil, or_false] at hd
    rcases hd with rfl | rfl
    · exact wl_tup (by rw [repD_len1]; exact hm) fun d hd => wl_atom (rep_atom m rfl hd)
    · exact wl_atom rfl
  · show (([PyData.tuple (repD m [.int 0]), .int 1].all fun d => termB d n) && _) = false
    rw [List.all_cons, List.all_cons, show termB (.int 1) n = false from rfl, Bool.false_and, Bool.and_false, Bool.false_and]
  · show (noLs (repD m [.int 0]) && _) = true
    rw [noLs_rep m rfl]
    rfl
theorem bl_cons {n m : Nat} {d : PyData} (hm : m ≤ 900) (h : natB d = false ∨ d = .int 9) (h2 : noL d = true) : BL n (.tuple [.tuple [.tuple (d :: repD m [.int 0]), .int 1]]) := by
  refine bl_one (wl_ints (by rw [List.length_cons, repD_len1]; omega)) (wl_atom rfl) (.inl ?_) ?_ rfl
  · rcases h with h | rfl
    · exact expB_head h
    · exact expB_nine m
  · show (noL d && noLs (repD m [.int 0])) = true
    rw [h2, noLs_rep m rfl]
    rfl
theorem bl_zero {n k : Nat} {r : PyData} (hk : k ≤ 900) (h1 : WL 1 r) (h2 : isRat r = false ∨ topD r = 0) (h3 : noL r = true) : BL n (.tuple [.tuple [.tuple (natsD (0 :: List.replicate k 0)), r]]) :=
  bl_one (wl_ints (by rw [natsD_len, List.length_cons, List.length_replicate]; omega)) h1 (.inr h2) (noL_nats _) h3
/-! ### odd points -/
structure OddP (n : Nat) (x : PyData) : Prop where
  sh : Sh1 x
  np : rowOk x (n : Int) = false
  ok : OkR x
  st : PyData.strOk x.shown = true
theorem odd_atom {n : Nat} {x : PyData} (h : seqD x = none) (h2 : okRb x = true) : OddP n x :=
  ⟨fun l e => (by rw [h] at e; cases e), by unfold rowOk; rw [h], (okR_of h2).1, (okR_of h2).2⟩
theorem row_ok10 {l : List PyData} (hl : l.length ≤ 10) (h : ∀ d ∈ l, ItemOk d) (nd : PyData.hasDictAll l = false ∨ hasLs l = false) : OkR (.tuple l) ∧ PyData.strOk (PyData.shown (.tuple l)) = true := by
  obtain ⟨a1, a2, a3, a4, a5⟩ := all_items h
  refine ⟨⟨by simpa [PyData.showable] using a1, by simp only [PyData.depth]; omega, nd.imp (fun z => by simpa [PyData.hasDict] using z) fun z => by simpa [hasL] using z, ?_⟩, strOk_shown (by simpa [plainS] using a5)⟩
  have e := PyData.shown_le 200 (by decide) (.tuple l) (by simpa [PyData.leavesShort] using a3)
  have w : PyData.weight (.tuple l) ≤ 401 * 10 := by
    simp only [PyData.weight]
    exact Nat.le_trans a4 (Nat.mul_le_mul_left _ hl)
  have m := Nat.mul_le_mul_left 202 w
  rw [sizeLine_eq]
  omega
theorem odd_row {n : Nat} {p : List Rat} {o : List PyData} (hp : ∀ q ∈ p, Br 2 q) (hl : (p.map ratD ++ o).length ≤ 10) (ho : ∀ d ∈ o, ItemOk d ∧ d.hasDict = false) (hr : rowOk (.tuple (p.map ratD ++ o)) (n : Int) = false) : OddP n (.tuple (p.map ratD ++ o)) := by
  have hi : ∀ d ∈ p.map ratD ++ o, ItemOk d := fun d hd => by
    rcases List.mem_append.mp hd with hd | hd
    · obtain ⟨q, hq, rfl⟩ := List.mem_map.mp hd
      exact rat_item (br_up (hp q hq) (by decide))
    · exact (ho d hd).1
  have nd : PyData.hasDictAll (p.map ratD ++ o) = false := by
    rw [hda_app, (nd_all fun d hd => by
      obtain ⟨q, hq, rfl⟩ := List.mem_map.mp hd
      exact ⟨q, rfl, br_up (hp q hq) (by decide)⟩).1, Bool.false_or]
    clear hl hr hi
    induction o with
    | nil => rfl
    | cons d o ih => rw [PyData.hasDictAll, (ho d List.mem_cons_self).2, ih fun x hx => ho x (List.mem_cons_of_mem _ hx)]; rfl
  obtain ⟨k1, k2⟩ := row_ok10 hl hi (.inl nd)
  exact ⟨fun l e => by cases e; omega, hr, k1, k2⟩
theorem rowOk_len {l : List PyData} {n : Nat} (h : l.length ≠ n) : rowOk (.tuple l) (n : Int) = false := by
  show ((l.length : Int) == (n : Int) && _) = false
  rw [beq_false_of_ne (by omega)]
  rfl
theorem rowOk_odd {l : List PyData} {o : PyData} {n : Nat} (h : isRat o = false) : rowOk (.tuple (l ++ [o])) (n : Int) = false := by
  show (_ && (l ++ [o]).all isRat) = false
  rw [List.all_append, List.all_cons, h, Bool.false_and, Bool.and_false, Bool.and_false]
def nums : List PyData := [.int 0, .int 10, .int (-1), .none, .bool true, .str "2"]
theorem nums_ok : ∀ d ∈ nums, dB d = false ∧ OkR d ∧ PyData.strOk d.shown = true := fun d hd => by
  have h := List.all_eq_true.mp (by decide +kernel : (nums.all fun d => !dB d && okRb d) = true) d hd
  simp only [Bool.and_eq_true, Bool.not_eq_true'] at h
  exact ⟨h.1, okR_of h.2⟩
/-! ### movings -/
theorem paired_self {α β : Type} {F : α → β → Prop} {f : α → β} (h : ∀ a, F a (f a)) : ∀ l : List α, Paired F l (l.map f)
  | [] => .nil
  | a :: l => .cons (h a) (paired_self h l)
theorem movIn_self (m : List (List Term)) : MovIn m (movD m) := ⟨_, .inr rfl, paired_self (fun l => ⟨_, .inr rfl, paired_self (fun t => ⟨_, .inr rfl, .inr rfl⟩) l⟩) m⟩
abbrev termL (t : Term) : PyData := .list [.list (natsD t.1), ratD t.2]
abbrev lineL (l : List Term) : PyData := .list (l.map termL)
theorem movIn_list (m : List (List Term)) : MovIn m (.list (m.map lineL)) := ⟨_, .inl rfl, paired_self (fun l => ⟨_, .inl rfl, paired_self (fun t => ⟨_, .inl rfl, .inl rfl⟩) l⟩) m⟩
theorem pl_nats {n : Nat} {o : List Nat} (h : o.length ≤ 1000) : Pl (n + 2) (.tuple (natsD o)) := .inr ⟨_, rfl, by rw [natsD_len]; exact h, fun x hx => by
  obtain ⟨i, _, rfl⟩ := List.mem_map.mp hx
  exact .inl ⟨_, rfl⟩⟩
theorem pl_line {n k : Nat} {l : List Term} (ok : LineOk k l) (hl : l.length ≤ 100) (k9 : k ≤ 9) : Pl (n + 4) (lineT l) := .inr ⟨_, rfl, by rw [List.length_map]; omega, fun x hx => by
  obtain ⟨t, ht, rfl⟩ := List.mem_map.mp hx
  refine .inr ⟨_, rfl, by simp, fun x hx => ?_⟩
  simp only [List.mem_cons, List.not_mem_nil, or_false] at hx
  rcases hx with rfl | rfl
  · exact pl_nats (by rw [(ok.tm t ht).len]; omega)
  · exact pl_rat _⟩
theorem pl_mov {n k : Nat} {m : List (List Term)} (ok : MovOk k m) (k9 : k ≤ 9) : Pl (n + 5) (movD m) := .inr ⟨_, rfl, by rw [List.length_map, ok.len]; omega, fun x hx => by
  obtain ⟨l, hl, rfl⟩ := List.mem_map.mp hx
  exact pl_line (ok.ln l hl).1 (ok.ln l hl).2 k9⟩
theorem pl_row {n : Nat} {b : List Rat} (h : b.length ≤ 9) : Pl (n + 3) (rowD b) := .inr ⟨_, rfl, by rw [List.length_map]; omega, fun x hx => by
  obtain ⟨q, _, rfl⟩ := List.mem_map.mp hx
  exact pl_rat q⟩
theorem neO_i {S : Addr} {n : Nat} {m : List (List Term)} {R : Sl → Prop} (h : R (.d (.bool false))) : oCmpO S (spEM S) true (stM S n m) (stM S n m) R := ⟨⟨_, rfl⟩, rfl, .inl ⟨n, m, n, m, rfl, true, by rw [decide_eq_true ⟨rfl, rfl⟩], h⟩⟩
theorem neq_i {S : Addr} {n : Nat} {m m' : List (List Term)} {R : Sl → Prop} (ne : m ≠ m') (h : R (.d (.bool false))) : oCmpO S (spEM S) false (stM S n m) (stM S n m') R := ⟨⟨_, rfl⟩, rfl, .inl ⟨n, m, n, m', rfl, false, by rw [decide_eq_false fun z => ne z.2], h⟩⟩
theorem eqO_i {S : Addr} {ds : FD} {d : PyData} {R : Sl → Prop} (h : R (.d (.bool false))) : oCmpO S (spEM S) false (.obj S ds) (.d d) R := ⟨⟨_, rfl⟩, True.intro, .inr ⟨_, _, rfl, _, rfl, h⟩⟩
/-- the drawn moving, its last sum put by 7 -/
def sev (n : Nat) (m : List (List Term)) : List (List Term) := m.take (n - 1) ++ [[(List.replicate n 0, 7)]]
theorem sev_ok {n g : Nat} {m : List (List Term)} (D : DrM n g m) (n1 : 1 ≤ n) : MovOk n (sev n m) := by
  have ml := D.ok.len
  refine ⟨by unfold sev; rw [List.length_append, List.length_take, List.length_singleton]; omega, fun l hl => ?_⟩
  rcases List.mem_append.mp hl with hl | hl
  · exact D.ok.ln l (List.mem_of_mem_take hl)
  · rw [List.mem_singleton.mp hl]
    refine ⟨⟨fun t ht => ?_, rfl⟩, by simp⟩
    rw [List.mem_singleton.mp ht]
    exact ⟨by simp, by simp, by show (7 : Rat).num ≠ 0; decide⟩
theorem sev_ne {n g : Nat} {m : List (List Term)} (D : DrM n g m) (n1 : 1 ≤ n) : sev n m ≠ m := fun z => by
  have ml := D.ok.len
  have h1 : (sev n m)[n - 1]? = some [(List.replicate n 0, 7)] := by
    unfold sev
    rw [List.getElem?_append_right (by rw [List.length_take]; omega), List.length_take, show n - 1 - min (n - 1) m.length = 0 by omega]
    rfl
  rw [z] at h1
  have := D.sm _ (List.mem_of_getElem? h1) _ List.mem_cons_self
  exact this.2.2.2 rfl

local macro_rules | `(tactic| walk_at "pv") => `(tactic| simp only [psNewT, psPutT, psShowT, pIxT, pRepN, oRepZ, psParNN, psParNE, pLstN, psAppPop, psExt, pSlO, pIxO, psSetI, pTr, pLendN, pLcN, pLend, uAt_d, uAt_rows, List.length_map, uIsO, pMake, psOwnN, pListN, pLr, pRg1, pRg2, pTupO, pLenO, oRep, pChain, iEnumP, iZipTL, List.lookup_cons, psSeq, psSet, psPar, psIf, psRet, psDrop, psCont, psNext, psAsg, psFor, psRaise, psOwn, psApp, psShow, uIsP, uFld, pCallE, pdNo, pVar, Px.nth, pC, pOp, pUn, oI, oI0, uI, oAdd, oEq, oEqE, eqv_rat0, List.isEmpty_nil, List.isEmpty_cons, oNe, oIs, oNis, oIx, pNil, pCons, allD, pTup, pLst, pDisp0, bOf, ptB, ptAnd, ptOr, ptNot, pIf, pAndV, pOrV, pNotV, pCalln, pB, bInt, bAbs, bGcd, bLen, bList, bTuple, bRepr, bAll, uIsi, uIsi2, pgName, pgNil, pgCons, pgTup, Px.iR1, Px.iR2, Px.iS, Px.iZip, iZipU, pSl, pNo, pSome, pLc, pYes, noOwn, noOwn1, wipeE, pdOf, startP, List.set, List.map, List.append, List.cons_append, List.nil_append, List.length_cons, List.length_nil, List.replicate, Nat.reduceAdd, Nat.reduceSub, List.getElem?_cons_zero, List.getElem?_cons_succ, isNone, isBool, oSub, oMul, oDiv, oMod, oPow, oLt, oLe, oGt, oGe, at_0, at_1, okE_int, okE_bool, okE_none, okE_rat, eqv_int, eqv_ti, isTy_int_int, isTy_int_tup, isTy_tup_tup, isTy_tup_int, isTy_bool_int, true_and, and_true, beq_iff_eq, decide_eq_true_eq, decide_eq_false_iff_not, beq_eq_false_iff_ne, Bool.not_true, Bool.not_false, Bool.not_eq_true', Bool.not_eq_false', Nat.reduceLeDiff, Option.some.injEq, exists_eq_left', exists_eq_left, forall_const, true_imp_iff, Bool.false_eq_true, Bool.true_eq_false, false_imp_iff, reduceCtorEq])
local macro_rules | `(tactic| walk_at "pvs") => `(tactic| simp [isTy, tyN, at_0, at_1, okE_int, okE_bool, okE_none, eqv_int, oLt, oLe, oGt, oGe, oSub, oMul, oDiv, oMod, oI, oI0])
local macro_rules | `(tactic| walk_at "pvh") => `(tactic| simp only [psNewT, psPutT, psShowT, pIxT, pRepN, oRepZ, psParNN, psParNE, pLstN, psAppPop, psExt, pSlO, pIxO, psSetI, pTr, pLendN, pLcN, pLend, uAt_d, uAt_rows, List.length_map, uIsO, pMake, psOwnN, pListN, pLr, pRg1, pRg2, pTupO, pLenO, oRep, pChain, iEnumP, iZipTL, List.lookup_cons, psSeq, psSet, psPar, psIf, psRet, psDrop, psCont, psNext, psAsg, psFor, psRaise, psOwn, psApp, psShow, uIsP, uFld, pCallE, pdNo, pVar, Px.nth, pC, pOp, pUn, oI, oI0, uI, oAdd, oEq, oEqE, eqv_rat0, List.isEmpty_nil, List.isEmpty_cons, oNe, oIs, oNis, oIx, pNil, pCons, allD, pTup, pLst, pDisp0, bOf, ptB, ptAnd, ptOr, ptNot, pIf, pAndV, pOrV, pNotV, pCalln, pB, bInt, bAbs, bGcd, bLen, bList, bTuple, bRepr, bAll, uIsi, uIsi2, pgName, pgNil, pgCons, pgTup, Px.iR1, Px.iR2, Px.iS, Px.iZip, iZipU, pSl, pNo, pSome, pLc, pYes, noOwn, noOwn1, wipeE, pdOf, startP, List.set, List.map, List.append, List.cons_append, List.nil_append, List.length_cons, List.length_nil, List.replicate, Nat.reduceAdd, Nat.reduceSub, List.getElem?_cons_zero, List.getElem?_cons_succ, isNone, isBool, oSub, oMul, oDiv, oMod, oPow, oLt, oLe, oGt, oGe, at_0, at_1, okE_int, okE_bool, okE_none, okE_rat, eqv_int, eqv_ti, isTy_int_int, isTy_int_tup, isTy_tup_tup, isTy_tup_int, isTy_bool_int, true_and, and_true, beq_iff_eq, decide_eq_true_eq, decide_eq_false_iff_not, beq_eq_false_iff_ne, Bool.not_true, Bool.not_false, Bool.not_eq_true', Bool.not_eq_false', Nat.reduceLeDiff, Option.some.injEq, exists_eq_left', exists_eq_left, forall_const, true_imp_iff, Bool.false_eq_true, Bool.true_eq_false, false_imp_iff, reduceCtorEq, if_true, if_false, not_false_eq_true, not_true_eq_false, *])
local macro_rules | `(tactic| walk_at "env") => `(tactic| try simp only [startP, List.map, List.append, List.cons_append, List.nil_append, List.length_cons, List.length_nil, List.replicate, Nat.reduceAdd, Nat.reduceSub, List.set_cons_zero, List.set_cons_succ])

abbrev s_law_bent : Stmt := topS 61
theorem sc_law_bent : FnScope ["pen", "letters", "rows", "term", "odd", "at"] ["pen", "letters", "rows"] (defScope s_law_bent) := ⟨rfl, rfl, rfl, by decide +kernel, rfl, by decide +kernel, by decide +kernel⟩
abbrev s_law_two_fault : Stmt := topS 58
theorem sc_law_two_fault : FnScope ["call", "one", "other"] ["call", "one", "other"] (defScope s_law_two_fault) := ⟨rfl, rfl, rfl, by decide +kernel, rfl, by decide +kernel, by decide +kernel⟩
abbrev s_law_right : Stmt := topS 62
theorem sc_law_right : FnScope ["pen", "letters", "moving", "due", "bad", "number", "odd", "faults", "rows", "point", "row", "one", "by"] ["pen"] (defScope s_law_right) := ⟨rfl, rfl, rfl, by decide +kernel, rfl, by decide +kernel, by decide +kernel⟩
section
variable {P : Program} {w : World} {K : PySem.W.Frag} {mg : Str → Option Value} {base : Heap} {c : Cc} {S_Moving C_BadNumber C_BadRow C_BadTable S : Addr} {Cs : Nat → Addr} {cd P' : Addr}

theorem d_law_bent (F : Has K mg "_law_bent" s_law_bent) (T : Blt mg) (D_law_draw : Kp P w K mg base c 1 "_law_draw" ["pen", "many"] (spDrawP c)) (D_law_pick : Kp P w K mg base c 2 "_law_pick" ["pen", "some"] (spPickP c)) : Kp P w K mg base c 3 "_law_bent" ["pen", "letters", "rows"] (spBentM c) := by
  refine keepP F (fun _ _ _ _ _ _ us hl => match us, hl with | [_, _, _], _ => rfl) sc_law_bent (fun f cdv A outer s H E hr hg => ⟨_, (pus_cons (pus_set (i := 3) sc_law_bent.nd (pu_tup (pa_cons' (pu_op op_repZ ro_repZ (pu_tupK (pa_consK pu_int pa_nilK)) (pu_var 1)) (pa_cons' pu_int pa_nil'))))
    (pus_cons (pus_own (i := 4) sc_law_bent.nd (pa_cons' pu_non (pa_cons' pu_int (pa_cons' (pu_op op_repZ ro_repZ (pu_tup (pa_cons' (pu_var 3) pa_nil')) pu_int) (pa_cons' (pu_tup (pa_cons' (pu_op op_repZ ro_repZ (pu_tupK (pa_consK pu_int pa_nilK)) (pu_var 1)) (pa_cons' pu_int pa_nil'))) (pa_cons' (pu_tup (pa_cons' (pu_tup (pa_cons' (pu_op op_repZ ro_repZ (pu_tupK (pa_consK pu_int pa_nilK)) (pu_op op_addU ro_add (pu_var 1) pu_int)) (pa_cons' pu_int pa_nil'))) pa_nil')) (pa_cons' (pu_tup (pa_cons' (pu_tup (pa_cons' (pu_op op_addU ro_add (pu_tupK (pa_consK (pu_negK pu_int) pa_nilK)) (pu_op op_repZ ro_repZ (pu_tupK (pa_consK pu_int pa_nilK)) (pu_op op_sub ro_sub (pu_var 1) pu_int))) (pa_cons' pu_int pa_nil'))) pa_nil')) (pa_cons' (pu_tup (pa_cons' (pu_tup (pa_cons' (pu_op op_addU ro_add (pu_tupK (pa_consK pu_int pa_nilK)) (pu_op op_repZ ro_repZ (pu_tupK (pa_consK pu_int pa_nilK)) (pu_op op_sub ro_sub (pu_var 1) pu_int))) (pa_cons' pu_int pa_nil'))) pa_nil')) pa_nil'))))))))
    (pus_cons (pus_ext 4 (pu_lst (pa_cons' (pu_tup (pa_cons' (pu_tup (pa_cons' (pu_ix (pu_var 3) pu_int) (pa_cons' pu_int pa_nil'))) pa_nil')) (pa_cons' (pu_tup (pa_cons' (pu_tup (pa_cons' (pu_ix (pu_var 3) pu_int) (pa_cons' (pu_tupK (pa_consK pu_int (pa_consK pu_int pa_nilK))) pa_nil'))) pa_nil')) (pa_cons' (pu_tup (pa_cons' (pu_tup (pa_cons' (pu_ix (pu_var 3) pu_int) (pa_cons' pu_bl pa_nil'))) pa_nil')) (pa_cons' (pu_tup (pa_cons' (pu_tup (pa_cons' (pu_ix (pu_var 3) pu_int) (pa_cons' pu_non pa_nil'))) pa_nil')) (pa_cons' (pu_tupK (pa_consK (pu_tupK (pa_consK pu_non (pa_consK pu_int pa_nilK))) pa_nilK)) (pa_cons' (pu_tup (pa_cons' (pu_tup (pa_cons' (pu_op op_addU ro_add (pu_tupK (pa_consK pu_bl pa_nilK)) (pu_op op_repZ ro_repZ (pu_tupK (pa_consK pu_int pa_nilK)) (pu_op op_sub ro_sub (pu_var 1) pu_int))) (pa_cons' pu_int pa_nil'))) pa_nil')) (pa_cons' pu_str pa_nil')))))))))
    (pus_cons (pus_app (i := 4) (pu_tup (pa_cons' (pu_tup (pa_cons' (pu_op op_addU ro_add (pu_tupK (pa_consK pu_int pa_nilK)) (pu_op op_repZ ro_repZ (pu_tupK (pa_consK pu_int pa_nilK)) (pu_op op_sub ro_sub (pu_var 1) pu_int))) (pa_cons' pu_int pa_nil'))) (pa_cons' (pu_var 3) pa_nil'))))
    (pus_cons (pus_set (i := 5) sc_law_bent.nd (pu_call D_law_draw hr hg takesF (pa_cons' (pu_var 0) (pa_cons' (pu_var 1) pa_nil'))))
    (pus_cons (pus_if (pt_cmp' (op_eqD (hu64 hr)) ro_eq (pu_call D_law_draw hr hg takesF (pa_cons' (pu_var 0) (pa_cons' pu_int pa_nil'))) pu_int) (pus_one (pus_ret (pu_call D_law_pick hr hg takesF (pa_cons' (pu_var 0) (pa_cons' (pu_lst (pa_cons' pu_non (pa_cons' pu_int (pa_cons' (pu_slice (pu_var 2) puo_none (puo_some (pu_negK pu_int))) (pa_cons' (pu_op op_addU ro_add (pu_var 2) (pu_tupK (pa_consK (pu_tupK pa_nilK) pa_nilK))) (pa_cons' pu_str (pa_cons' pu_dispK pa_nil'))))))) pa_nil'))))) pus_nil)
    (pus_one (pus_ret (pu_lend 4 (pu_op op_addU ro_add (pu_op op_addU ro_add (pu_slice (pu_var 2) puo_none (puo_some (pu_var 5))) (pu_tup (pa_cons' (pu_call D_law_pick hr hg takesF (pa_cons' (pu_var 0) (pa_cons' (pu_var 4) pa_nil'))) pa_nil'))) (pu_slice (pu_var 2) (puo_some (pu_op op_addU ro_add (pu_var 5) pu_int)) puo_none))))))))))), fun ss R EX hl h => ?_⟩)
  obtain ⟨n, m, rfl, n1, n9, hm, h⟩ := h
  obtain ⟨k, rfl⟩ : ∃ k, n = k + 1 := ⟨n - 1, by omega⟩
  walk_at "env"
  refine set_step (fun s => s = .d (.tuple [.tuple (natsD (List.replicate (k + 1) 0)), .int 1])) (fun R' hR => ?_) ?_
  · walk_at "pv"
    refine ⟨by omega, by omega, by simp, hR _ (by rw [Int.toNat_natCast, rep_zero])⟩
  rintro s rfl
  walk_at "env"
  refine own_a (fun ds => ds.length = 7 ∧ ∀ d ∈ ds, BL (k + 1) d) (fun R' hR => ?_) ?_
  · walk_at "pv"
    have h1 : (((k + 1 : Nat) : Int) - 1).toNat = k := by omega
    have h2 : (((k + 1 : Nat) : Int) + 1).toNat = k + 2 := by omega
    have h3 : (((k + 1 : Nat) : Int)).toNat = k + 1 := by omega
    rw [h1, h2, h3, repD_len1]
    refine ⟨by omega, by omega, by simp, by omega, by omega, by simp, by omega, by omega, by simp, by omega, by omega, by simp, by omega, by omega, by omega, by simp, by omega, hR _ (by simp) ⟨rfl, fun d hd => ?_⟩⟩
    simp only [List.mem_cons, List.not_mem_nil, or_false] at hd
    rcases hd with rfl | rfl | rfl | rfl | rfl | rfl | rfl
    · exact bl_atom rfl rfl
    · exact bl_atom rfl rfl
    · exact bl_pair (e := 0 :: List.replicate k 0) (f := 0 :: List.replicate k 0) (by rw [List.length_cons, List.length_replicate]; omega) (by rw [List.length_cons, List.length_replicate]; omega) rfl rfl rfl rfl (Int.lt_irrefl _)
    · exact bl_two (by omega)
    · refine bl_one (wl_ints (by rw [repD_len1]; omega)) (wl_atom rfl) (.inl (expB_len (by rw [repD_len1]; omega))) (noLs_rep _ rfl) rfl
    · exact bl_cons (by omega) (.inl rfl) rfl
    · exact bl_cons (by omega) (.inr rfl) rfl
  rintro ds ⟨dl, db⟩
  walk_at "env"
  refine ext_a (fun es => es.length = 7 ∧ ∀ d ∈ es, BL (k + 1) d) rfl (fun R' hR => ?_) (fun es he => by omega) ?_
  · walk_at "pv"
    have h1 : (((k + 1 : Nat) : Int) - 1).toNat = k := by omega
    rw [h1, repD_len1]
    refine ⟨by omega, by omega, by simp, by omega, hR _ ⟨rfl, fun d hd => ?_⟩⟩
    simp only [List.mem_cons, List.not_mem_nil, or_false] at hd
    rcases hd with rfl | rfl | rfl | rfl | rfl | rfl | rfl
    · exact bl_zero (by omega) (wl_atom rfl) (.inr rfl) rfl
    · exact bl_zero (by omega) (wl_ints (by simp)) (.inl (by decide)) rfl
    · exact bl_zero (by omega) (wl_atom rfl) (.inl rfl) rfl
    · exact bl_zero (by omega) (wl_atom rfl) (.inl rfl) rfl
    · exact bl_one (wl_atom rfl) (wl_atom rfl) (.inl rfl) rfl rfl
    · exact bl_cons (by omega) (.inl rfl) rfl
    · exact bl_atom rfl rfl
  rintro es ⟨el, eb⟩
  walk_at "env"
  refine app_a (fun d => BL (k + 1) d) rfl (fun R' hR => ?_) (by rw [List.length_append]; omega) ?_
  · walk_at "pv"
    have h1 : (((k + 1 : Nat) : Int) - 1).toNat = k := by omega
    rw [h1, repD_len1]
    refine ⟨by omega, by omega, by simp, by omega, hR _ ?_⟩
    rw [rep_zero]
    exact bl_pair (e := 1 :: List.replicate k 0) (f := 0 :: List.replicate k 0) (by rw [List.length_cons, List.length_replicate]; omega) (by rw [List.length_cons, List.length_replicate]; omega) rfl rfl rfl rfl (code_one k)
  rintro d hd
  walk_at "env"
  have hb : ∀ x ∈ ds ++ es ++ [d], BL (k + 1) x := fun x hx => by
    simp only [List.mem_append, List.mem_singleton] at hx
    rcases hx with (h | h) | h
    · exact db x h
    · exact eb x h
    · exact h ▸ hd
  have hlen : (ds ++ es ++ [d]).length = 15 := by simp only [List.length_append, dl, el]; rfl
  generalize ds ++ es ++ [d] = odd at hb hlen ⊢
  refine set_step (fun s => ∃ a : Nat, s = .d (.int (a : Int)) ∧ a < k + 1) (fun R' hR => ?_) ?_
  · walk_at "pv"
    refine dr_i (by omega) (by omega) fun a a0 a1 => hR _ ⟨a.toNat, by rw [Int.toNat_of_nonneg a0], by omega⟩
  rintro s ⟨a, rfl, ha⟩
  walk_at "env"
  walk_at "pv"
  refine dr_i (by omega) (by omega) fun r r0 r1 => ?_
  walk_at "pv"
  have ml := hm.len
  have wm : ∀ d ∈ m.map lineT, WL 3 d := fun d hd => by
    obtain ⟨l, hl, rfl⟩ := List.mem_map.mp hd
    exact wl_lineT (hm.ln l hl).1 (hm.ln l hl).2 n9
  refine ⟨fun _ => ⟨by omega, ?_⟩, fun _ => ?_⟩
  · refine pk_i (by simp) (by simp) fun d hd => ?_
    simp only [List.mem_cons, List.not_mem_nil, or_false] at hd
    rcases hd with rfl | rfl | rfl | rfl | rfl | rfl
    · exact h _ (wl_atom rfl) rfl
    · exact h _ (wl_atom rfl) rfl
    · rw [cut_last _ (by rw [List.length_map]; omega), List.length_map]
      refine h _ (wl_tup (by rw [List.length_take, List.length_map]; omega) fun d hd => wm d (List.mem_of_mem_take hd)) (mov_len (by rw [List.length_take, List.length_map]; omega))
    · refine h _ (wl_tup (by rw [List.length_append, List.length_map]; simp; omega) fun d hd => ?_) (mov_len (by rw [List.length_append, List.length_map]; simp; omega))
      rcases List.mem_append.mp hd with hd | hd
      · exact wm d hd
      · rw [List.mem_singleton.mp hd]
        exact wl_tup (by simp) fun d hd => by cases hd
    · exact h _ (wl_atom rfl) rfl
    · exact h _ (wl_atom rfl) rfl
  · refine pk_i (by omega) (by omega) fun d hd => ?_
    obtain ⟨b1, b2, b3⟩ := hb d hd
    walk_at "pv"
    rw [cut_takeN, cut_drop _ (by omega) (by rw [List.length_map]; omega)]
    simp only [List.length_append, List.length_take, List.length_drop, List.length_map, List.length_cons, List.length_nil]
    have hN : noL (.tuple ((m.map lineT).take a ++ [d] ++ (m.map lineT).drop (((a : Nat) : Int) + 1).toNat)) = true := by
      rw [noL, ← List.map_take, ← List.map_drop]
      exact noLs_app (noLs_app (noLs_mov _) (by rw [noLs, b3]; rfl)) (noLs_mov _)
    refine ⟨by omega, by omega, hN, h _ (wl_tup ?_ fun x hx => ?_) (mov_bad (d := d) (by simp) b2)⟩
    · simp only [List.length_append, List.length_take, List.length_drop, List.length_map, List.length_cons, List.length_nil]
      omega
    · simp only [List.mem_append, List.mem_singleton] at hx
      rcases hx with (hx | hx) | hx
      · exact wm x (List.mem_of_mem_take hx)
      · exact hx ▸ b1
      · exact wm x (List.mem_of_mem_drop hx)
theorem d_law_two_fault (F : HasC K mg "_law_two_fault" s_law_two_fault cd) (T : Blt mg) (hVE : mg "ValueError" = none) (TC : Tc K mg S tab Cs) (FF : Has K mg "_law_fault" s_law_fault) (DK : KpE P w K mg base c 2 "_law_kinds" ["e"] (spKindsP Cs)) (M : Mk base mg c "_law_two_fault" cd P')  (hne : ∀ f, mg "_law_made_moving" = some (.ref f) → mg "value" = some (.ref f) → False) (D_law_made_moving : KpO P w K mg base c 8 "_law_made_moving" ["letters", "rows"] (spMM S_Moving (Cs 0) (Cs 2))) (D_value : KpO P w K mg base c 7 "value" ["moving", "point"] (spVal S_Moving (Cs 2) (Cs 1))) : Kp P w K mg base c 11 "_law_two_fault" ["call", "one", "other"] (spTF mg S_Moving) := by
  have go : ∀ {x : Str} {f : Addr} {ps : List Str} {j : Nat} {sp : PSp}, KpO P w K mg base c j x ps sp → j ≤ 8 → ps.length = 2 → (∀ ss R EX, spRef2 mg S_Moving (Cs 2) (Cs 1) (Cs 0) f ss R EX → sp ss R EX) → mg x = some (.ref f) → (∃ fd ps, FnOk P w K mg base (L2.CX P w) 8 f fd ps (lift c 2 (spRef2 mg S_Moving (Cs 2) (Cs 1) (Cs 0) f)) ∧ Binds K fd ps []) ∧ PySem.W.keepIn K (.ref f) = true := fun D hj hp hi e => by
    obtain ⟨f', fd, F', hm, hk, hb⟩ := ((D.mono hj).imp hi).ex
    rw [e] at hm
    cases hm
    rw [hp] at F'
    exact ⟨⟨fd, _, F', hb⟩, hk⟩
  have hF : ∀ f, ok2 mg f → (∃ fd ps, FnOk P w K mg base (L2.CX P w) 8 f fd ps (lift c 2 (spRef2 mg S_Moving (Cs 2) (Cs 1) (Cs 0) f)) ∧ Binds K fd ps []) ∧ PySem.W.keepIn K (.ref f) = true := fun f hf => by
    rcases hf with e | e
    · refine go D_law_made_moving (by decide) rfl (fun ss R EX h => ?_) e
      obtain ⟨s, y, rfl, ⟨_, x, rfl, h⟩ | ⟨e', _⟩⟩ := h
      · refine ⟨x, y, rfl, ?_⟩
        rcases h with ⟨h1, h2⟩ | ⟨n, rfl, n1, n9, hw, hb, h⟩
        · exact .inl ⟨h1, h2⟩
        · exact .inr ⟨n, rfl, n1, n9, .inl ⟨hw, hb, h⟩⟩
      · exact (hne _ e e').elim
    · refine go D_value (by decide) rfl (fun ss R EX h => ?_) e
      obtain ⟨s, y, rfl, ⟨e', _⟩ | ⟨_, h⟩⟩ := h
      · exact (hne _ e' e).elim
      · rcases h with ⟨d, rfl, h⟩ | ⟨n, m, rfl, n9, hs, hb, h⟩
        · exact .inl ⟨d, y, rfl, h⟩
        · exact .inr ⟨n, m, y, rfl, n9, .inl ⟨hs, hb, h⟩⟩
  refine keepPC F (fun _ _ _ _ _ _ us hl => match us, hl with | [_, _, _], _ => rfl) sc_law_two_fault (fun f A outer s H E hr hg => ⟨_, (pus_one (pus_ret (pu_fltJ FF T hVE TC DK M hr hg (LamX.lamS_by (by show LamX.lamSB (defScope s_law_two_fault) _ = true; decide +kernel)) (fun A outer s H E f c' hr2 => (pu_callRf (k := 8) (i := 0) (n := 2) (ok := ok2 mg) (sp := spRef2 mg S_Moving (Cs 2) (Cs 1) (Cs 0)) hF hr2 (takes_of rfl rfl rfl rfl) (pa_cons' (pu_var 1) (pa_cons' (pu_var 2) pa_nil'))))))), fun ss R EX hl h => ?_⟩)
  obtain ⟨f, s, y, rfl, h⟩ := h
  refine flt_i ⟨f, rfl, ?_, ?_⟩
  · rcases h with ⟨e, _⟩ | ⟨e, _⟩
    · exact .inl e
    · exact .inr e
  rcases h with ⟨e, x, rfl, h⟩ | ⟨e, h⟩
  · rcases h with ⟨h1, ho, h⟩ | ⟨n, rfl, n1, n9, hw, hb, h⟩
    · walk_at "pv"
      exact ⟨_, _, rfl, .inl ⟨e, _, rfl, .inl ⟨h1, _, due0 (okR_of (by decide +kernel)).1 ho, h⟩⟩⟩
    · walk_at "pv"
      exact ⟨_, _, rfl, .inl ⟨e, _, rfl, .inr ⟨n, rfl, n1, n9, hw, hb, _, due2 (okR_of (by decide +kernel)).1, h⟩⟩⟩
  · rcases h with ⟨d, rfl, h⟩ | ⟨n, m, rfl, n9, hs, hb, ho, h⟩
    · walk_at "pv"
      exact ⟨_, _, rfl, .inr ⟨e, .inl ⟨d, rfl, _, due2 (okR_of (by decide +kernel)).1, h⟩⟩⟩
    · walk_at "pv"
      exact ⟨_, _, rfl, .inr ⟨e, .inr ⟨n, m, rfl, n9, hs, hb, _, due1 (okR_of (by decide +kernel)).1 ho, h⟩⟩⟩
theorem d_law_right (F : Has K mg "_law_right" s_law_right) (T : Blt mg) (O_Moving : ObK K mg "Moving" S_Moving ["d", "rows"]) (DQ_Moving : KpQ P w K mg base c 2 S_Moving (spEM S_Moving)) (D_Moving : KpI P w K mg base c 6 "Moving" S_Moving 2 (spIM (Cs 0) (Cs 2))) (D_law_bent : Kp P w K mg base c 3 "_law_bent" ["pen", "letters", "rows"] (spBentM c)) (D_law_draw : Kp P w K mg base c 1 "_law_draw" ["pen", "many"] (spDrawP c)) (D_law_is : Kp P w K mg base c 7 "_law_is" ["told", "due"] (spIsD 7)) (D_law_moving : Kp P w K mg base c 3 "_law_moving" ["pen", "letters", "degree"] (spMoving c)) (D_law_pick : Kp P w K mg base c 2 "_law_pick" ["pen", "some"] (spPickP c)) (D_law_point : Kp P w K mg base c 3 "_law_point" ["pen", "letters"] (spPoint c)) (D_law_slope : Kp P w K mg base c 5 "_law_slope" ["row", "letters", "n"] (spSlope)) (D_law_two_fault : Kp P w K mg base c 11 "_law_two_fault" ["call", "one", "other"] (spTF mg S_Moving)) (D_value : KpO P w K mg base c 7 "value" ["moving", "point"] (spVal S_Moving (Cs 2) (Cs 1))) {f_law_made_moving : Addr} (m_law_made_moving : mg "_law_made_moving" = some (.ref f_law_made_moving)) {f_value : Addr} (m_value : mg "value" = some (.ref f_value)) : Kp P w K mg base c 12 "_law_right" ["pen"] (spPen c) := by
  refine keepP F (fun _ _ _ _ _ _ us hl => match us, hl with | [_], _ => rfl) sc_law_right (fun f cdv A outer s H E hr hg => ⟨_, (pus_cons (pus_set (i := 1) sc_law_right.nd (pu_op op_addU ro_add pu_int (pu_call D_law_draw hr hg takesF (pa_cons' (pu_var 0) (pa_cons' pu_int pa_nil')))))
    (pus_cons (pus_asg (pu_tup (pa_cons' (pu_call D_law_moving hr hg takesF (pa_cons' (pu_var 0) (pa_cons' (pu_var 1) (pa_cons' pu_int pa_nil')))) (pa_cons' (pu_call D_law_point hr hg takesF (pa_cons' (pu_var 0) (pa_cons' (pu_var 1) pa_nil'))) pa_nil'))) (pug_tup (n := 2) (by rfl) (pugs_cons (pug_name (i := 8) sc_law_right.nd) (pugs_cons (pug_name (i := 9) sc_law_right.nd) pugs_nil))))
    (pus_cons (pus_set (i := 2) sc_law_right.nd (pu_make D_Moving hr takesF (pa_cons' (pu_var 1) (pa_cons' (pu_var 8) pa_nil'))))
    (pus_cons (pus_if (pt_not' (pt_val' (pu_call D_law_is hr hg takesF (pa_cons' (pu_tup (pa_cons' (pu_at O_Moving.o (pu_var 2)) (pa_cons' (pu_at O_Moving.o (pu_var 2)) pa_nil'))) (pa_cons' (pu_tup (pa_cons' (pu_var 1) (pa_cons' (pu_var 8) pa_nil'))) pa_nil'))))) (pus_one (pus_ret pu_bl)) pus_nil)
    (pus_cons (pus_if (pt_cmp' (op_neO (O1 := O_Moving) DQ_Moving (hr.mono (by decide))) (ro_cmpO O_Moving DQ_Moving) (pu_make D_Moving hr takesF (pa_cons' (pu_var 1) (pa_cons' (pu_lc (own := [("row", 10)]) rfl sc_law_right.nd (pui_seq (pu_var 8)) (blkOk_by (by show blkC ["pen", "letters", "moving", "due", "bad", "number", "odd", "faults", "rows", "point", "row", "one", "by"] (defScope s_law_right) _ _ = true; decide +kernel)) (fun ci => (pug_name (i := 10) sc_law_right.nd)) (fun ci => (pu_lc (own := [("one", 11), ("by", 12)]) rfl sc_law_right.nd (pui_seq (pu_var 10)) (blkOk_in (by show blkC ["pen", "letters", "moving", "due", "bad", "number", "odd", "faults", "rows", "point", "row", "one", "by"] _ _ _ = true; decide +kernel)) (fun ci => (pug_tup (n := 2) (by rfl) (pugs_cons (pug_name (i := 11) sc_law_right.nd) (pugs_cons (pug_name (i := 12) sc_law_right.nd) pugs_nil)))) (fun ci => (pu_lst (pa_cons' (pu_callTy c_list rb_list T.b_list (by decide +kernel) (pa_cons' (pu_var 11) pa_nil')) (pa_cons' (pu_var 12) pa_nil'))))))) pa_nil'))) (pu_var 2)) (pus_one (pus_ret pu_bl)) pus_nil)
    (pus_cons (pus_set (i := 3) sc_law_right.nd (pu_callTy c_tuple rb_tuple T.b_tuple (by decide +kernel) (pa_cons' (pu_lc (own := [("row", 10)]) rfl sc_law_right.nd (pui_seq (pu_var 8)) (blkOk_by (by show blkC ["pen", "letters", "moving", "due", "bad", "number", "odd", "faults", "rows", "point", "row", "one", "by"] (defScope s_law_right) _ _ = true; decide +kernel)) (fun ci => (pug_name (i := 10) sc_law_right.nd)) (fun ci => (pu_ix (pu_call D_law_slope hr hg takes0 (pa_cons' (pu_var 10) (pa_cons' (pu_lc (own := [("one", 11)]) rfl sc_law_right.nd (pui_seq (pu_var 9)) (blkOk_in (by show blkC ["pen", "letters", "moving", "due", "bad", "number", "odd", "faults", "rows", "point", "row", "one", "by"] _ _ _ = true; decide +kernel)) (fun ci => (pug_name (i := 11) sc_law_right.nd)) (fun ci => (pu_tup (pa_cons' (pu_var 11) pa_nil')))) (pa_cons' pu_int pa_nil')))) pu_int))) pa_nil')))
    (pus_cons (pus_if (pt_not' (pt_val' (pu_call D_law_is hr hg takesF (pa_cons' (pu_callO D_value hr takesF (pa_cons' (pu_var 2) (pa_cons' (pu_call D_law_pick hr hg takesF (pa_cons' (pu_var 0) (pa_cons' (pu_lst (pa_cons' (pu_var 9) (pa_cons' (pu_callTy c_list rb_list T.b_list (by decide +kernel) (pa_cons' (pu_var 9) pa_nil')) pa_nil'))) pa_nil'))) pa_nil'))) (pa_cons' (pu_var 3) pa_nil'))))) (pus_one (pus_ret pu_bl)) pus_nil)
    (pus_cons (pus_if (PuW.pt (pw_or' (pt_cmp' (op_eqO DQ_Moving (hr.mono (by decide))) (ro_cmpO O_Moving DQ_Moving) (pu_make D_Moving hr takesF (pa_cons' (pu_var 1) (pa_cons' (pu_op op_addU ro_add (pu_slice (pu_var 8) puo_none (puo_some (pu_negK pu_int))) (pu_tup (pa_cons' (pu_tup (pa_cons' (pu_tup (pa_cons' (pu_op op_repZ ro_repZ (pu_tupK (pa_consK pu_int pa_nilK)) (pu_var 1)) (pa_cons' pu_int pa_nil'))) pa_nil')) pa_nil'))) pa_nil'))) (pu_var 2)) (pw_or1' (pt_cmp' (op_eqO DQ_Moving (hr.mono (by decide))) (ro_cmpO O_Moving DQ_Moving) (pu_var 2) (pu_var 8))))) (pus_one (pus_ret pu_bl)) pus_nil)
    (pus_cons (pus_set (i := 4) sc_law_right.nd (pu_call D_law_bent hr hg takesF (pa_cons' (pu_var 0) (pa_cons' (pu_var 1) (pa_cons' (pu_var 8) pa_nil')))))
    (pus_cons (pus_set (i := 5) sc_law_right.nd (pu_call D_law_pick hr hg takesF (pa_cons' (pu_var 0) (pa_cons' (pu_lstK (pa_consK pu_int (pa_consK pu_int (pa_consK (pu_negK pu_int) (pa_consK pu_non (pa_consK pu_bl (pa_consK pu_str pa_nilK))))))) pa_nil'))))
    (pus_cons (pus_set (i := 6) sc_law_right.nd (pu_call D_law_pick hr hg takesF (pa_cons' (pu_var 0) (pa_cons' (pu_lst (pa_cons' pu_non (pa_cons' pu_int (pa_cons' (pu_slice (pu_var 9) puo_none (puo_some (pu_negK pu_int))) (pa_cons' (pu_op op_addU ro_add (pu_var 9) (pu_tupK (pa_consK pu_int pa_nilK))) (pa_cons' (pu_op op_addU ro_add (pu_slice (pu_var 9) puo_none (puo_some (pu_negK pu_int))) (pu_tupK (pa_consK pu_non pa_nilK))) (pa_cons' (pu_op op_addU ro_add (pu_slice (pu_var 9) puo_none (puo_some (pu_negK pu_int))) (pu_tupK (pa_consK pu_bl pa_nilK))) (pa_cons' (pu_op op_addU ro_add (pu_slice (pu_var 9) puo_none (puo_some (pu_negK pu_int))) (pu_tupK (pa_consK (pu_tupK (pa_consK pu_int (pa_consK pu_int pa_nilK))) pa_nilK))) (pa_cons' pu_str pa_nil'))))))))) pa_nil'))))
    (pus_cons (pus_set (i := 7) sc_law_right.nd (pu_lst (pa_cons' (pu_call D_law_two_fault hr hg takesF (pa_cons' (pu_glob (v := .ref f_law_made_moving) (s := .raw (.ref f_law_made_moving)) m_law_made_moving rfl (fun _ => rfl)) (pa_cons' (pu_var 1) (pa_cons' (pu_var 4) pa_nil')))) (pa_cons' (pu_call D_law_two_fault hr hg takesF (pa_cons' (pu_glob (v := .ref f_law_made_moving) (s := .raw (.ref f_law_made_moving)) m_law_made_moving rfl (fun _ => rfl)) (pa_cons' (pu_var 5) (pa_cons' (pu_var 4) pa_nil')))) (pa_cons' (pu_call D_law_two_fault hr hg takesF (pa_cons' (pu_glob (v := .ref f_value) (s := .raw (.ref f_value)) m_value rfl (fun _ => rfl)) (pa_cons' pu_non (pa_cons' (pu_var 6) pa_nil')))) (pa_cons' (pu_call D_law_two_fault hr hg takesF (pa_cons' (pu_glob (v := .ref f_value) (s := .raw (.ref f_value)) m_value rfl (fun _ => rfl)) (pa_cons' (pu_var 2) (pa_cons' (pu_var 6) pa_nil')))) pa_nil'))))))
    (pus_one (pus_ret (pu_cmp (op_eqD (hu64 hr)) ro_eq (pu_var 7) (pu_lst (pa_cons' (pu_tupK (pa_consK pu_str (pa_consK pu_str pa_nilK))) (pa_cons' (pu_tup (pa_cons' pu_str (pa_cons' pu_str (pa_cons' (pu_callB (call_reprQ hg (hu65 hr)) rb_repr T.b_repr (by decide +kernel) (pa_cons' (pu_var 5) pa_nil')) pa_nil')))) (pa_cons' (pu_tupK (pa_consK pu_str (pa_consK pu_str pa_nilK))) (pa_cons' (pu_tup (pa_cons' pu_str (pa_cons' pu_str (pa_cons' (pu_callB (call_reprQ hg (hu65 hr)) rb_repr T.b_repr (by decide +kernel) (pa_cons' (pu_var 6) pa_nil')) pa_nil')))) pa_nil')))))))))))))))))))), fun ss R EX hl h => ?_⟩)
  obtain ⟨rfl, h⟩ := h
  walk_at "env"
  refine set_step (fun s => ∃ n : Nat, s = .d (.int (n : Int)) ∧ 1 ≤ n ∧ n ≤ 9) (fun R' hR => ?_) ?_
  · walk_at "pv"
    refine dr_i (by omega) (by omega) fun a a0 a1 => ?_
    walk_at "pv"
    exact hR _ ⟨(1 + a).toNat, by rw [Int.toNat_of_nonneg (by omega)], by omega, by omega⟩
  rintro s ⟨n, rfl, n1, n9⟩
  walk_at "env"
  refine asg_step (fun s => ∃ m p, s = .d (.tuple [movD m, rowD p]) ∧ DrM n 8 m ∧ p.length = n ∧ ∀ q ∈ p, Br 2 q) (fun R' hR => ?_) ?_
  · walk_at "pv"
    exact ⟨n, 8, rfl, n1, n9, by omega, fun m D => ⟨n, rfl, n9, fun p pl pb => by
      simp only [allD]
      exact ⟨by simp, hR _ ⟨m, p, rfl, D, pl, pb⟩⟩⟩⟩
  rintro s ⟨m, p, rfl, D, pl, pb⟩
  refine g2_i ?_
  walk_at "env"
  have ml := D.ok.len
  have init : ∀ {y : PyData} {m : List (List Term)} {R : FD → Prop} {EX : Addr → FD → Prop}, MovIn m y → MovOk n m → R (fdM n m) → spIM (Cs 0) (Cs 2) [.d (.int (n : Int)), .d y] R EX := fun h1 h2 h3 => ⟨_, _, rfl, .inr ⟨n, rfl, n1, n9, .inr ⟨_, h1, h2, h3⟩⟩⟩
  have LS : ∀ l ∈ m, LineS 2 2 8 p l := fun l hl => ⟨by have := (D.few l hl).2; omega, fun t ht => ⟨by rw [((D.ok.ln l hl).1.tm t ht).len, pl], (D.sm l hl t ht).1, (D.sm l hl t ht).2.1⟩, pb⟩
  refine set_step (fun s => s = stM S_Moving n m) (fun R' hR => ?_) ?_
  · walk_at "pv"
    exact init (movIn_self m) D.ok (hR _ rfl)
  rintro s rfl
  walk_at "env"
  refine if_no (fun R' hR => not_no' (fun R' hR => ?_) hR) ?_
  · walk_at "pv"
    refine ⟨_, rfl, .inr ⟨_, rfl, by simp, fun x hx => ?_⟩, hR⟩
    simp only [List.mem_cons, List.not_mem_nil, or_false] at hx
    rcases hx with rfl | rfl
    · exact .inl ⟨_, rfl⟩
    · exact pl_mov D.ok n9
  refine if_no (fun R' hR => ?_) ?_
  · walk_at "pv"
    refine lc_mapT lineT lineL (by omega) (fun l hl R hR => ?_) ?_
    · walk_at "pv"
      refine lc_mapT termT termL (by have := (D.few l hl).2; omega) (fun t ht R hR => ?_) ?_
      · walk_at "pv"
        exact hR
      · exact hR
    · exact init (movIn_list m) D.ok (neO_i hR)
  refine set_step (fun s => s = .d (rowD (movZ p m))) (fun R' hR => ?_) ?_
  · walk_at "pv"
    refine lc_mapT lineT (fun l => ratD (lineZ p l)) (by omega) (fun l hl R hR => ?_) ?_
    · walk_at "pv"
      refine lc_mapT ratD one1 (by omega) (fun q hq R hR => ?_) ?_
      · walk_at "pv"
        exact hR
      · refine ⟨2, 2, 8, l, p, rfl, by omega, by omega, LS l hl, ?_⟩
        walk_at "pv"
        exact hR
    · rw [show (fun l => ratD (lineZ p l)) = ratD ∘ lineZ p from rfl, ← List.map_map]
      exact hR _ rfl
  rintro s rfl
  walk_at "env"
  refine if_no (fun R' hR => not_no' (fun R' hR => ?_) hR) ?_
  · walk_at "pv"
    refine pk_i (by simp) (by simp) fun x hx => ?_
    refine .inr ⟨n, m, x, rfl, n9, .inr ⟨2, 2, 8, p, ?_, pl, ml, by omega, LS, ?_⟩⟩
    · simp only [List.mem_cons, List.not_mem_nil, or_false] at hx
      rcases hx with rfl | rfl
      · exact .inr rfl
      · exact .inl rfl
    · exact ⟨_, rfl, pl_row (by unfold movZ; rw [List.length_map]; omega), hR⟩
  refine if_no (fun R' hR => or_no (fun R' hR => ?_) (fun R' hR => ?_) hR) ?_
  · walk_at "pv"
    have hcut : Px.cutD (m.map lineT) none (some (-1)) = (m.take (n - 1)).map lineT := by rw [cut_last _ (by rw [List.length_map]; omega), List.length_map, ml, List.map_take]
    have hs : ((m.take (n - 1)).map lineT ++ [.tuple [.tuple [.tuple (natsD (List.replicate n 0)), .int 7]]]) = (sev n m).map lineT := by
      unfold sev
      rw [List.map_append]
      rfl
    rw [hcut, Int.toNat_natCast, rep_zero, hs]
    exact ⟨by omega, by omega, by simp, by rw [List.length_map, List.length_take]; omega, init (movIn_self _) (sev_ok D n1) (neq_i (sev_ne D n1) hR)⟩
  · walk_at "pv"
    exact eqO_i hR
  refine set_step (fun s => ∃ x, s = .d x ∧ WL 4 x ∧ movB x n = false) (fun R' hR => ?_) ?_
  · walk_at "pv"
    exact ⟨n, m, rfl, n1, n9, D.ok, fun x h1 h2 => hR _ ⟨x, rfl, h1, h2⟩⟩
  rintro s ⟨bad, rfl, bw, bm⟩
  walk_at "env"
  refine set_step (fun s => ∃ x, s = .d x ∧ x ∈ nums) (fun R' hR => ?_) ?_
  · walk_at "pv"
    exact pk_i (by simp) (by simp) fun x hx => hR _ ⟨x, rfl, hx⟩
  rintro s ⟨num, rfl, hnum⟩
  obtain ⟨u1, u2, u3⟩ := nums_ok num hnum
  walk_at "env"
  refine set_step (fun s => ∃ x, s = .d x ∧ OddP n x) (fun R' hR => ?_) ?_
  · walk_at "pv"
    have hcut : Px.cutD (p.map ratD) none (some (-1)) = (p.take (n - 1)).map ratD := by rw [cut_last _ (by rw [List.length_map]; omega), List.length_map, pl, List.map_take]
    rw [hcut, List.length_map, List.length_take]
    have pt : ∀ q ∈ p.take (n - 1), Br 2 q := fun q hq => pb q (List.mem_of_mem_take hq)
    have l1 : ((p.take (n - 1)).map ratD).length = n - 1 := by rw [List.length_map, List.length_take]; omega
    have od : ∀ o : PyData, (itemB o && !o.hasDict && !isRat o) = true → OddP n (.tuple ((p.take (n - 1)).map ratD ++ [o])) := fun o ho => by
      simp only [Bool.and_eq_true, Bool.not_eq_true'] at ho
      exact odd_row pt (by rw [List.length_append, l1, List.length_singleton]; omega) (fun d hd => by rw [List.mem_singleton.mp hd]; exact ⟨item_of ho.1.1, ho.1.2⟩) (rowOk_odd ho.2)
    refine ⟨by omega, by omega, by omega, by omega, pk_i (by simp) (by simp) fun x hx => hR _ ⟨x, rfl, ?_⟩⟩
    simp only [List.mem_cons, List.not_mem_nil, or_false] at hx
    rcases hx with rfl | rfl | rfl | rfl | rfl | rfl | rfl | rfl
    · exact odd_atom rfl (by decide +kernel)
    · exact odd_atom rfl (by decide +kernel)
    · have := odd_row (n := n) (o := []) pt (by rw [List.append_nil, l1]; omega) (fun d hd => by cases hd) (rowOk_len (by rw [List.append_nil, l1]; omega))
      rwa [List.append_nil] at this
    · exact odd_row pb (by rw [List.length_append, List.length_map, List.length_singleton]; omega) (fun d hd => by rw [List.mem_singleton.mp hd]; exact ⟨item_of (by decide +kernel), rfl⟩) (rowOk_len (by rw [List.length_append, List.length_map, List.length_singleton]; omega))
    · exact od _ (by decide +kernel)
    · exact od _ (by decide +kernel)
    · exact od _ (by decide +kernel)
    · exact odd_atom rfl (by decide +kernel)
  rintro s ⟨odd, rfl, Y⟩
  walk_at "env"
  walk_at "pv"
  refine ⟨_, _, _, rfl, .inl ⟨m_law_made_moving, _, rfl, .inr ⟨n, rfl, n1, n9, bw, bm, ?_⟩⟩⟩
  refine ⟨_, _, _, rfl, .inl ⟨m_law_made_moving, _, rfl, .inl ⟨u1, u2, ?_⟩⟩⟩
  refine ⟨_, _, _, rfl, .inr ⟨m_value, .inl ⟨_, rfl, ?_⟩⟩⟩
  refine ⟨_, _, _, rfl, .inr ⟨m_value, .inr ⟨n, m, rfl, n9, Y.sh, Y.np, Y.ok, ?_⟩⟩⟩
  walk_at "pv"
  have ts : ∀ {l : List PyData}, (∀ d ∈ l, ∃ s, d = .str s ∧ PyData.strOk s = true) → OkN 1 (.tuple l) := fun h => okN_tup fun d hd => by
    obtain ⟨s, rfl, hs⟩ := h d hd
    exact okN_str hs
  have k1 : OkN 1 (.tuple [.str "table", .str "rows"]) := ts fun d hd => by
    simp only [List.mem_cons, List.not_mem_nil, or_false] at hd
    rcases hd with rfl | rfl <;> exact ⟨_, rfl, by decide +kernel⟩
  have k1' : OkN 1 (.tuple [.str "table", .str "moving"]) := ts fun d hd => by
    simp only [List.mem_cons, List.not_mem_nil, or_false] at hd
    rcases hd with rfl | rfl <;> exact ⟨_, rfl, by decide +kernel⟩
  have k2 : OkN 1 (.tuple [.str "row", .str "point", .str odd.shown]) := ts fun d hd => by
    simp only [List.mem_cons, List.not_mem_nil, or_false] at hd
    rcases hd with rfl | rfl | rfl
    · exact ⟨_, rfl, by decide +kernel⟩
    · exact ⟨_, rfl, by decide +kernel⟩
    · exact ⟨_, rfl, Y.st⟩
  have k3 : OkN 1 (.tuple [.str "number", .str "d", .str num.shown]) := ts fun d hd => by
    simp only [List.mem_cons, List.not_mem_nil, or_false] at hd
    rcases hd with rfl | rfl | rfl
    · exact ⟨_, rfl, by decide +kernel⟩
    · exact ⟨_, rfl, by decide +kernel⟩
    · exact ⟨_, rfl, u3⟩
  have ok : OkN 2 (.list [.tuple [.str "table", .str "rows"], .tuple [.str "number", .str "d", .str num.shown], .tuple [.str "table", .str "moving"], .tuple [.str "row", .str "point", .str odd.shown]]) := okN_lst fun d hd => by
    simp only [List.mem_cons, List.not_mem_nil, or_false] at hd
    rcases hd with rfl | rfl | rfl | rfl
    · exact k1
    · exact k3
    · exact k1'
    · exact k2
  exact ⟨u2, Y.ok, same_i (okN_E ok (by decide)) h⟩
end
end K38
namespace K38
open PySem PySem.Spec PyProof.Rows L2 Lx Px
local macro_rules | `(tactic| walk_at "pv") => `(tactic| simp only [psNewT, psPutT, psShowT, pIxT, pRepN, oRepZ, psParNN, psParNE, pLstN, psAppPop, psExt, pSlO, pIxO, psSetI, pTr, pLendN, pLcN, pLend, uAt_d, uAt_rows, List.length_map, uIsO, pMake, psOwnN, pListN, pLr, pRg1, pRg2, pTupO, pLenO, oRep, pChain, iEnumP, iZipTL, List.lookup_cons, psSeq, psSet, psPar, psIf, psRet, psDrop, psCont, psNext, psAsg, psFor, psRaise, psOwn, psApp, psShow, uIsP, uFld, pCallE, pdNo, pVar, Px.nth, pC, pOp, pUn, oI, oI0, uI, oAdd, oEq, oEqE, eqv_rat0, List.isEmpty_nil, List.isEmpty_cons, oNe, oIs, oNis, oIx, pNil, pCons, allD, pTup, pLst, pDisp0, bOf, ptB, ptAnd, ptOr, ptNot, pIf, pAndV, pOrV, pNotV, pCalln, pB, bInt, bAbs, bGcd, bLen, bList, bTuple, bRepr, bAll, uIsi, uIsi2, pgName, pgNil, pgCons, pgTup, Px.iR1, Px.iR2, Px.iS, Px.iZip, iZipU, pSl, pNo, pSome, pLc, pYes, noOwn, noOwn1, wipeE, pdOf, startP, List.set, List.map, List.append, List.cons_append, List.nil_append, List.length_cons, List.length_nil, List.replicate, Nat.reduceAdd, Nat.reduceSub, List.getElem?_cons_zero, List.getElem?_cons_succ, isNone, isBool, oSub, oMul, oDiv, oMod, oPow, oLt, oLe, oGt, oGe, at_0, at_1, okE_int, okE_bool, okE_none, okE_rat, eqv_int, eqv_ti, isTy_int_int, isTy_int_tup, isTy_tup_tup, isTy_tup_int, isTy_bool_int, true_and, and_true, beq_iff_eq, decide_eq_true_eq, decide_eq_false_iff_not, beq_eq_false_iff_ne, Bool.not_true, Bool.not_false, Bool.not_eq_true', Bool.not_eq_false', Nat.reduceLeDiff, Option.some.injEq, exists_eq_left', exists_eq_left, forall_const, true_imp_iff, Bool.false_eq_true, Bool.true_eq_false, false_imp_iff, reduceCtorEq])
local macro_rules | `(tactic| walk_at "pvs") => `(tactic| simp [isTy, tyN, at_0, at_1, okE_int, okE_bool, okE_none, eqv_int, oLt, oLe, oGt, oGe, oSub, oMul, oDiv, oMod, oI, oI0])
local macro_rules | `(tactic| walk_at "pvh") => `(tactic| simp only [psNewT, psPutT, psShowT, pIxT, pRepN, oRepZ, psParNN, psParNE, pLstN, psAppPop, psExt, pSlO, pIxO, psSetI, pTr, pLendN, pLcN, pLend, uAt_d, uAt_rows, List.length_map, uIsO, pMake, psOwnN, pListN, pLr, pRg1, pRg2, pTupO, pLenO, oRep, pChain, iEnumP, iZipTL, List.lookup_cons, psSeq, psSet, psPar, psIf, psRet, psDrop, psCont, psNext, psAsg, psFor, psRaise, psOwn, psApp, psShow, uIsP, uFld, pCallE, pdNo, pVar, Px.nth, pC, pOp, pUn, oI, oI0, uI, oAdd, oEq, oEqE, eqv_rat0, List.isEmpty_nil, List.isEmpty_cons, oNe, oIs, oNis, oIx, pNil, pCons, allD, pTup, pLst, pDisp0, bOf, ptB, ptAnd, ptOr, ptNot, pIf, pAndV, pOrV, pNotV, pCalln, pB, bInt, bAbs, bGcd, bLen, bList, bTuple, bRepr, bAll, uIsi, uIsi2, pgName, pgNil, pgCons, pgTup, Px.iR1, Px.iR2, Px.iS, Px.iZip, iZipU, pSl, pNo, pSome, pLc, pYes, noOwn, noOwn1, wipeE, pdOf, startP, List.set, List.map, List.append, List.cons_append, List.nil_append, List.length_cons, List.length_nil, List.replicate, Nat.reduceAdd, Nat.reduceSub, List.getElem?_cons_zero, List.getElem?_cons_succ, isNone, isBool, oSub, oMul, oDiv, oMod, oPow, oLt, oLe, oGt, oGe, at_0, at_1, okE_int, okE_bool, okE_none, okE_rat, eqv_int, eqv_ti, isTy_int_int, isTy_int_tup, isTy_tup_tup, isTy_tup_int, isTy_bool_int, true_and, and_true, beq_iff_eq, decide_eq_true_eq, decide_eq_false_iff_not, beq_eq_false_iff_ne, Bool.not_true, Bool.not_false, Bool.not_eq_true', Bool.not_eq_false', Nat.reduceLeDiff, Option.some.injEq, exists_eq_left', exists_eq_left, forall_const, true_imp_iff, Bool.false_eq_true, Bool.true_eq_false, false_imp_iff, reduceCtorEq, if_true, if_false, not_false_eq_true, not_true_eq_false, *])
local macro_rules | `(tactic| walk_at "env") => `(tactic| try simp only [startP, List.map, List.append, List.cons_append, List.nil_append, List.length_cons, List.length_nil, List.replicate, Nat.reduceAdd, Nat.reduceSub, List.set_cons_zero, List.set_cons_succ])
local macro_rules | `(tactic| walk_at "rd") => `(tactic| (with_reducible first
  | refine rr_seq ?_ | refine rr_asg ?_ | refine rr_n0 ?_ | refine rr_n1 ?_ | refine rr_n2 ?_ | refine rr_n3 ?_ | refine rr_n4 ?_ | refine rr_n5 ?_ | refine rr_n6 ?_ | refine rr_n7 ?_ | refine rr_n8 ?_ | refine rr_n9 ?_ | refine rr_n10 ?_ | refine rr_n11 ?_ | refine rr_n12 ?_ | refine rr_n13 ?_ | refine rr_drop ?_ | refine rr_ret ?_ | refine rr_ifs ?_ | refine rr_if ?_ | refine rr_test ?_ | refine rr_tB ?_ | refine rr_bl ?_
  | refine rr_and ?_ | refine rr_or ?_ | refine rr_not ?_ | refine rr_v0 ?_ | refine rr_v1 ?_ | refine rr_v2 ?_ | refine rr_v3 ?_ | refine rr_v4 ?_ | refine rr_v5 ?_ | refine rr_v6 ?_ | refine rr_v7 ?_ | refine rr_v8 ?_ | refine rr_v9 ?_ | refine rr_v10 ?_ | refine rr_v11 ?_ | refine rr_v12 ?_ | refine rr_v13 ?_ | refine rr_c ?_ | refine rr_op ?_ | refine rr_un ?_ | refine rr_i0 ?_ | refine rr_eqi ?_ | refine rr_nei ?_
  | refine rr_cons ?_ | refine rr_nil ?_ | refine rr_cb ?_ | refine rr_call ?_ | refine rr_tup ?_ | refine rr_lst ?_ | refine rr_lstN ?_ | refine rr_dget ?_ | refine rr_dput ?_ | refine rr_next ?_ | refine rr_int ?_ | refine rr_disp ?_ | refine rr_pcons ?_ | refine rr_pnil ?_ | refine rr_isN ?_ | refine rr_notN ?_ | refine rr_callR ?_ | refine rr_bm ?_ | refine rr_fldP ?_ | refine rr_rf ?_))
local macro_rules | `(tactic| walk_at "rds") => `(tactic| repeat walk_at "rd")

theorem ini_BadTable {K : PySem.W.Frag} {mg : Str → Option Value} {C fI : Addr} {fd : FuncData} (F : Fun K "__init__" "BadTable.__init__" (inClass (topS 5) 0) fI fd) (T : OexC K C) (nf : ∀ f : Str, f ∈ (["what"] : List Str) → PySem.W.findIn K (.ref C) f = some none) (P : Program) (w : World) (base : Heap) :
    FnOk P w K mg base CX0 1 fI fd ["self", "what"] (spI C ["what"]) := by
  have sc : FnScope ["self", "what"] ["self", "what"] (defScope (inClass (topS 5) 0)) := ⟨rfl, rfl, rfl, by decide +kernel, rfl, by decide +kernel, by decide +kernel⟩
  refine F.ok sc (fun vs H Q E h => ?_) (fun cdv A outer s H vs Q E hr h => ⟨_, (pss_one (ps_ost (pv 0) (pv 1))), ?_⟩)
  · obtain ⟨a, ws, rfl, hl, _⟩ := h
    rw [List.length_cons, hl]
    rfl
  obtain ⟨a, ws, rfl, hl, ha, k⟩ := h
  obtain ⟨v0, rfl⟩ : ∃ v0, ws = [v0] := match ws, hl with | [a], _ => ⟨a, rfl⟩
  have es : L2.start ["self", "what"] [V.ref a, v0] = [some (V.ref a), some v0] := rfl
  rw [es]
  walk_at "rds"
  refine rr_ostA T (nf _ (by simp)) rfl rfl ha fun d hd hn => ?_
  refine k d _ hd hn upd_same (by rw [upd_ne hn, upd_same]; rfl) fun b n1 n2 => by rw [upd_ne n1, upd_ne n2]

abbrev s_law_pen : Stmt := topS 43
theorem sc_law_pen : FnScope ["script", "fold", "cell"] ["script"] (defScope s_law_pen) := ⟨rfl, rfl, rfl, by decide +kernel, rfl, by decide +kernel, by decide +kernel⟩
abbrev s_law : Stmt := topS 63
theorem sc_law : FnScope ["script", "pen", "lap"] ["script"] (defScope s_law) := ⟨rfl, rfl, rfl, by decide +kernel, rfl, by decide +kernel, by decide +kernel⟩
theorem for_all {g : PTG} {B : PTS} {P : PD} (I : Ev → Prop) : ∀ {ds : List PyData} {env : Ev}, I env → (∀ d ∈ ds, ∀ (env : Ev) (N : Ev → Prop), I env → (∀ env', I env' → N env') → g (.d d) env fun env' => B { P with nx := N, ct := N, bk := P.nx } env') → (∀ env, I env → P.nx env) → pForL g B ds P env
  | [], env, h0, _, h2 => h2 env h0
  | s :: ss, env, h0, h1, h2 => h1 s List.mem_cons_self env (pForL g B ss P) h0 fun env' hi => for_all I hi (fun u hu => h1 u (List.mem_cons_of_mem _ hu)) h2
section
variable {P : Program} {w : World} {K : PySem.W.Frag} {mg : Str → Option Value} {base : Heap} {TT : List (Addr × Str)} {S_Moving : Addr} {Cs : Nat → Addr}
theorem d_pen (F : Has K mg "_law_pen" s_law_pen) (T : Blt mg) : Keeps P w K mg base CX0 1 "_law_pen" ["script"] (Lx.spPen K) := by
  refine keep0 F (fun _ _ _ _ _ _ us hl => match us, hl with | [_], _ => rfl) sc_law_pen (fun vs H Q E h => ?_) (fun f cdv A outer s H vs Q E hr hg h => ?_)
  · obtain ⟨a, ns, rfl, _⟩ := h
    rfl
  refine ⟨_, (pss_cons (ps_set (i := 1) sc_law_pen.nd rfl (.inl rfl) pe_int)
    (pss_cons (ps_for PassesOwn.never rfl (pi_list (pv 0)) (pg_name (i := 2) sc_law_pen.nd rfl (.inl rfl)) (pss_one (ps_set (i := 1) sc_law_pen.nd rfl (.inl rfl) (pe_op op_modN (pe_callTy c_int (by rfl) T.b_int (by decide +kernel) (pa_cons (pe_op op_add (pe_op op_mul (pv 1) pe_int) (pv 2)) pa_nil)) pe_int))))
    (pss_one (ps_ret (pe_disp (pps_cons pe_str (pe_callTy c_list (by rfl) T.b_list (by decide +kernel) (pa_cons (pv 0) pa_nil)) (pps_cons pe_str pe_int (pps_cons pe_str pe_int (pps_cons pe_str pe_int (pps_cons pe_str (pv 1) pps_nil))))) (by rfl) (by rfl) (fun z => by cases z) (by decide)))))), ?_⟩
  obtain ⟨a, ns, rfl, hS, k⟩ := h
  have es : L2.start ["script", "fold", "cell"] [V.ref a] = [some (V.ref a), none, none] := rfl
  rw [es]
  walk_at "rds"
  refine ⟨_, rfl, a, rfl, ⟨_, hS⟩, for_list (K := K) (a := a) (xs := ns.map V.int) (fun i σ H' => ∃ (f : Int) (v : Option V), σ = [some (.ref a), some (.int f), v] ∧ 0 ≤ f ∧ f < 1000000007 ∧ H' = H)
    ⟨0, none, rfl, by decide, by decide, rfl⟩ (fun i σ H' _ ⟨_, _, _, _, _, e⟩ => by rw [e]; exact hS) ?_ ?_⟩
  · rintro i y σ H' hi ⟨f, v, rfl, h0, h1, rfl⟩
    obtain ⟨z, rfl⟩ : ∃ z : Int, y = V.int z := by
      rw [List.getElem?_map] at hi
      cases e : ns[i]? with
      | none => rw [e] at hi; cases hi
      | some z => rw [e] at hi; exact ⟨z, (Option.some.inj hi).symm⟩
    walk_at "rds"
    refine rr_i (.inr (by decide)) ?_
    walk_at "rds"
    refine rr_i (by decide) ?_
    have b := modN (a := f * 47 + z) (b := 1000000007) (by decide)
    exact ⟨_, _, rfl, b.1, b.2, rfl⟩
  · rintro σ H' ⟨f, v, rfl, h0, h1, rfl⟩
    walk_at "rds"
    intro p hp
    walk_at "rds"
    refine rr_listL ((sameNew hp _).seq hS) fun l hl => ?_
    walk_at "rds"
    have hlp : l ≠ p := fun z => by rw [z, upd_same] at hl; cases hl
    rw [upd_ne hlp] at hl
    refine ⟨by rw [upd_ne (Ne.symm hlp), upd_same], penL l 0 0 0 f, rfl, (by show 5 ≤ 15; decide), ?_⟩
    refine k p _ ?_ hp ⟨l, ns, 0, 0, 0, f, upd_same, by rw [upd_ne hlp, upd_same], by decide, by decide, by decide, h0, by omega⟩
    intro b o e
    have n1 : b ≠ p := ne_of_none e hp
    have n2 : b ≠ l := ne_of_none e hl
    rw [upd_ne n1, upd_ne n2, upd_ne n1]
    exact e
/-- law(script) -/
def spLaw (K : PySem.W.Frag) (TT : List (Addr × Str)) : Sp := fun vs H Q _ => ∃ (a : Addr) (ns : List Int), vs = [.ref a] ∧ SqL K H a (ns.map V.int) ∧ (∀ q ∈ TT, H q.1 = some (.tbl #[])) ∧ ∀ H', Q (.bl true) H'
theorem bas0 {H : Hp} {p : Addr} {TT : List (Addr × Str)} (hp : PenOk H p) (hT : ∀ q ∈ TT, H q.1 = some (.tbl #[])) : ∃ l F, Bas ⟨p, l, TT⟩ H F F H := by
  obtain ⟨l, ns, a, d, k, f, P⟩ := hp
  have hl : ∀ b, (⟨p, l, TT⟩ : Cc).out b → b ≠ l := fun b hb z => by
    subst z
    rcases hb with hb | ⟨q, hq⟩
    · exact P.ne hb
    · have := hT _ hq
      rw [P.2.1] at this
      cases this
  refine ⟨l, fun b => if b = l then some (.lst (ns.map V.int)) else none, fun b o e => ?_, fun b hb => if_neg (hl b hb), ⟨ns, a, d, k, f, P, if_pos rfl⟩, fun q hq => LamX.TabS.nil (hT q hq), fun _ _ _ _ e => e, same_refl _, fun b n => .inl n, fun b ps e => ?_, fun b hb e => ?_⟩
  · by_cases hb : b = l
    · rw [if_pos hb] at e
      cases e
      rw [hb]
      exact P.2.1
    · rw [if_neg hb] at e
      cases e
  · by_cases hb : b = l
    · rw [if_pos hb] at e
      cases e
    · rw [if_neg hb] at e
      cases e
  · rcases hb with hb | ⟨q, hq⟩
    · have hb : b = p := hb
      have := P.1
      rw [← hb, e] at this
      cases this
    · rw [hT _ hq] at e
      cases e
theorem d_law {f : Addr} {fd : FuncData} (F : Fun K "law" "law" s_law f fd) (T : Blt mg) (D_law_pen : Keeps P w K mg base CX0 1 "_law_pen" ["script"] (Lx.spPen K)) (D_law_right : ∀ z : Addr × Addr, Kp P w K mg base ⟨z.1, z.2, TT⟩ 12 "_law_right" ["pen"] (spPen ⟨z.1, z.2, TT⟩)) (OMoving : ObK K mg "Moving" S_Moving ["d", "rows"]) (DQQMoving : ∀ z : Addr × Addr, KpQ P w K mg base ⟨z.1, z.2, TT⟩ 2 S_Moving (spEM S_Moving)) (DSTMoving : ∀ z : Addr × Addr, KpI P w K mg base ⟨z.1, z.2, TT⟩ 6 "Moving" S_Moving 2 (spIM (Cs 0) (Cs 2))) (D_value : ∀ z : Addr × Addr, KpO P w K mg base ⟨z.1, z.2, TT⟩ 7 "value" ["moving", "point"] (spVal S_Moving (Cs 2) (Cs 1))) : FnG P w K mg base (L2.CX P w) 13 f fd ["script"] (spLaw K TT) := by
  refine okG F sc_law (fun vs H Q E h => ?_) (fun cdv A outer s H vs Q E hr hg h => ?_)
  · obtain ⟨a, ns, rfl, _⟩ := h
    rfl
  have hrest : ∀ z : Addr × Addr, ∃ t, PSs (cxOf (L2.CX P w) P w K mg base ["script", "pen", "lap"] "law" (defScope s_law) f cdv A outer s H E) ((defBody s_law).drop 1) t ∧ ∀ (F H' : Hp) (v : Option V), Bas ⟨z.1, z.2, TT⟩ H' F F H' → t { nx := fun _ H' => Q .non H', rt := Q } [v, some (.ref z.1), none] H' := fun z => by
    obtain ⟨t, ht, hrd⟩ : PuSs (cxOf (L2.CX P w) P w K mg base ["script", "pen", "lap"] "law" (defScope s_law) f cdv A outer s H E) ⟨z.1, z.2, TT⟩ (WF E) ((defBody s_law).drop 1) _ := (pus_cons (pus_for passF rfl (pui_range1 T.b_range (pa_cons' pu_int pa_nil')) (pug_name (i := 2) sc_law.nd) (pus_one (pus_if (pt_not' (pt_val' (pu_call (D_law_right z) hr hg takesF (pa_cons' (pu_var 1) pa_nil')))) (pus_one (pus_ret pu_bl)) pus_nil)))
    (pus_one (pus_ret (pu_and (pu_cmp (op_eqO (DQQMoving z) (hr.mono (by decide))) (ro_cmpO OMoving (DQQMoving z)) (pu_make (DSTMoving z) hr takesF (pa_cons' pu_int (pa_cons' (pu_tupK (pa_consK (pu_tupK pa_nilK) pa_nilK)) pa_nil'))) (pu_make (DSTMoving z) hr takesF (pa_cons' pu_int (pa_cons' (pu_lstK (pa_consK (pu_lstK pa_nilK) pa_nilK)) pa_nil')))) (pu_one (pu_cmp (op_eqD (hu64 hr)) ro_eq (pu_callO (D_value z) hr takesF (pa_cons' (pu_make (DSTMoving z) hr takesF (pa_cons' pu_int (pa_cons' (pu_tupK (pa_consK (pu_tupK pa_nilK) (pa_consK (pu_tupK pa_nilK) pa_nilK))) pa_nil'))) (pa_cons' (pu_tupK (pa_consK pu_int (pa_consK pu_int pa_nilK))) pa_nil'))) (pu_tupK (pa_consK pu_int (pa_consK pu_int pa_nilK)))))))))
    refine ⟨t, ht, fun F H' v B => hrd H' F [none, some (.raw (.ref z.1)), none] F _ H' _ (pdOf (fun s => s = .d (.bool true)) fun _ _ => False) ⟨B, rfl, fun i ov s e1 e2 => ?_, fun i j q xs ys e1 _ _ _ => ?_⟩ ⟨?_, ?_, ?_, ?_, ?_⟩ ?_⟩
    · match i, e1, e2 with
      | 0, _, e2 => cases e2; exact True.intro
      | 1, e1, e2 => cases e1; cases e2; rfl
      | 2, _, e2 => cases e2; exact True.intro
      | i + 3, _, e2 => cases e2
    · match i, e1 with
      | 0, e1 => cases e1
      | 1, e1 => cases e1
      | 2, e1 => cases e1
      | i + 3, e1 => cases e1
    · exact fun _ _ _ _ _ _ z => by cases z
    · obtain ⟨a, ns, _, _, _, fin⟩ := h
      rintro v s F' H2 _ rv rfl
      cases rv
      exact fin H2
    · exact fun _ _ _ _ _ _ z => z.elim
    · exact fun _ _ _ _ _ _ z => z.elim
    · exact fun _ _ _ _ _ _ _ _ _ z => z.elim
    · refine for_step (rangeD 0 5) (fun R hR => ⟨by decide, by decide, hR⟩) (for_all (fun env => ∃ s2, env = [none, some (.raw (.ref z.1)), s2]) ⟨_, rfl⟩ (fun d _ env N hi hN => ?_) fun env hi => ?_)
      · obtain ⟨s2, rfl⟩ := hi
        refine if_last false (fun R' hR => not_no' (fun R' hR => ?_) hR) (fun z => Bool.noConfusion z) fun _ => hN _ ⟨_, rfl⟩
        walk_at "pv"
        exact ⟨rfl, hR⟩
      · obtain ⟨s2, rfl⟩ := hi
        walk_at "pv"
        have ok1 : MovOk 1 [[]] := ⟨rfl, fun l hl => by rw [List.mem_singleton.mp hl]; exact ⟨⟨fun t ht => (by cases ht), rfl⟩, by simp⟩⟩
        have ok2 : MovOk 2 [[], []] := ⟨rfl, fun l hl => by
          have : l = [] := by simpa using hl
          rw [this]; exact ⟨⟨fun t ht => (by cases ht), rfl⟩, by simp⟩⟩
        refine ⟨_, _, rfl, .inr ⟨1, rfl, by decide, by decide, .inr ⟨[[]], movIn_self _, ok1, ?_⟩⟩⟩
        refine ⟨_, _, rfl, .inr ⟨1, rfl, by decide, by decide, .inr ⟨[[]], movIn_list _, ok1, ?_⟩⟩⟩
        refine ⟨⟨_, rfl⟩, rfl, .inl ⟨1, [[]], 1, [[]], rfl, true, by rw [decide_eq_true ⟨rfl, rfl⟩], ?_⟩⟩
        refine ⟨fun _ => ?_, fun z => Bool.noConfusion z⟩
        refine ⟨_, _, rfl, .inr ⟨2, rfl, by decide, by decide, .inr ⟨[[], []], movIn_self _, ok2, ?_⟩⟩⟩
        refine .inr ⟨2, [[], []], _, rfl, by decide, .inr ⟨2, 1, 0, [1, 2], .inr rfl, rfl, rfl, by decide, fun l hl => ?_, ?_⟩⟩
        · have : l = [] := by simpa using hl
          rw [this]
          refine ⟨by decide, fun t ht => (by cases ht), fun q hq => ?_⟩
          simp only [List.mem_cons, List.not_mem_nil, or_false] at hq
          rcases hq with rfl | rfl <;> exact ⟨by decide, by decide⟩
        · exact ⟨by decide, by decide, rfl⟩

  refine ⟨_, pss_cons (ps_set (i := 1) sc_law.nd rfl (.inl rfl) (pc0 D_law_pen hr hg (pa_cons (pv 0) pa_nil))) (⟨fun pins s' σ H' D I z => ?_⟩ : PSs _ _ fun D σ H' => ∃ z, (hrest z).choose D σ H'), ?_⟩
  · obtain ⟨p, z⟩ := z
    exact (hrest p).choose_spec.1.run pins s' σ H' D I z
  obtain ⟨a, ns, rfl, hS, hT, fin⟩ := h
  have es : L2.start ["script", "pen", "lap"] [V.ref a] = [some (V.ref a), none, none] := rfl
  rw [es]
  walk_at "rds"
  refine ⟨a, ns, rfl, hS, fun p H' s1 hp hpen => ?_⟩
  walk_at "rds"
  obtain ⟨l, F, B⟩ := bas0 (TT := TT) hpen fun q hq => s1 _ _ (hT q hq)
  exact ⟨(p, l), (hrest (p, l)).choose_spec.2 F H' _ B⟩
end
end K38
namespace K38
open PySem PySem.Spec PyProof.Rows L2 Lx Px
def chkAll (K : PySem.W.Frag) (S : Addr) (cs : List Addr) : Bool := cs.all fun c => xcB K c && decide (PySem.W.kitOne K (.ref c) (.type "ValueError") = some true) && decide (PySem.W.subIn K (.ref c) (.ref S) = some true) &&
  cs.all fun d => decide (PySem.W.kitOne K (.ref c) (.ref d) = some (decide (c = d)))
theorem chk_at {K : PySem.W.Frag} {S c : Addr} {cs : List Addr} (h : chkAll K S cs = true) (hc : c ∈ cs) : XcF K c ∧ PySem.W.kitOne K (.ref c) (.type "ValueError") = some true ∧ PySem.W.subIn K (.ref c) (.ref S) = some true ∧ ∀ d ∈ cs, PySem.W.kitOne K (.ref c) (.ref d) = some (decide (c = d)) := by
  have z := List.all_eq_true.mp h c hc
  simp only [Bool.and_eq_true, decide_eq_true_eq, List.all_eq_true] at z
  exact ⟨xcB_ok z.1.1.1, z.1.1.2, z.1.2, z.2⟩
theorem nodup_at {α : Type} : ∀ {l : List α} {i j : Nat} {x : α}, l.Nodup → l[i]? = some x → l[j]? = some x → i = j := by
  intro l i j x hn hi hj
  rcases Nat.lt_trichotomy i j with h | h | h
  · obtain ⟨hi', ei⟩ := List.getElem?_eq_some_iff.mp hi
    obtain ⟨hj', ej⟩ := List.getElem?_eq_some_iff.mp hj
    exact absurd (ei.trans ej.symm) (List.pairwise_iff_getElem.mp hn i j hi' hj' h)
  · exact h
  · obtain ⟨hi', ei⟩ := List.getElem?_eq_some_iff.mp hi
    obtain ⟨hj', ej⟩ := List.getElem?_eq_some_iff.mp hj
    exact absurd (ej.trans ei.symm) (List.pairwise_iff_getElem.mp hn j i hj' hi' h)
theorem oex_at {K : PySem.W.Frag} {c N : Addr} {nm qn : Str} {bs bm sb : List Value} {sn : List Str} {ab : Bool} {co : Option Bool} {dd : Option Addr} {ma mb mc md me : Option Value} (x : K.lookup c = some (excClassObj nm qn c N bs bm true sn sb ab co dd ma mb mc md me "ValueError.__new__")) (r : PySem.HandSPX.refsVE bm = true)
    (sa : PySem.W.findIn K (.ref c) "__setattr__" = some (some (.builtin "object.__setattr__"))) (xf : XcF K c) (ty : PySem.W.typeIn K (.ref c) = some (.type "type")) (kc : PySem.W.keepIn K (.ref c) = true) : OexC K c :=
  { cls := ⟨nm, qn, N, bs, bm, sn, sb, ab, co, dd, ma, mb, mc, md, me, x, r⟩, sa := sa, exC := xf.ex, tyC := ty, kC := kc }
def csOf (cs : List Addr) (i : Nat) : Addr := cs.getD i 0
theorem csOf_mem {cs : List Addr} (hl : cs.length = 16) {i : Nat} (h : i < 16) : csOf cs i ∈ cs := by
  unfold csOf
  rw [List.getD_eq_getElem?_getD, List.getElem?_eq_getElem (by omega)]
  exact List.getElem_mem _
theorem tc_mk {K : PySem.W.Frag} {mg : Str → Option Value} {S : Addr} {cs : List Addr} (hl : cs.length = 16) (chk : chkAll K S cs = true) (nd : cs.Nodup) (tS : PySem.W.typeIn K (.ref S) = some (.type "type")) (hS : PySem.W.hasDictIn K S = true) (bS : PySem.W.subIn K (.ref S) (.type "BaseException") = some true)
    (gS : mg "StepError" = some (.ref S)) (gA : ∀ i x fs, tab[i]? = some (x, fs) → mg x = some (.ref (csOf cs i))) (nfA : ∀ i x fs, tab[i]? = some (x, fs) → ∀ f ∈ fs, PySem.W.findIn K (.ref (csOf cs i)) f = some none) : Tc K mg S tab (csOf cs) := by
  have cm : ∀ i, i < 16 → csOf cs i ∈ cs := fun i hi => csOf_mem hl hi
  refine ⟨fun i hi => (chk_at chk (cm i hi)).1, fun i j hi hj => (chk_at chk (cm i hi)).2.2.2 _ (cm j hj), fun i j hi hj z => ?_, fun i hi => (chk_at chk (cm i hi)).2.1, fun i hi => PySem.W.exm_ref bS hS tS (chk_at chk (cm i hi)).2.2.1, gS, gA, nfA⟩
  have hg : ∀ i, i < 16 → cs[i]? = some (csOf cs i) := fun i hi => by
    unfold csOf
    rw [List.getD_eq_getElem?_getD, List.getElem?_eq_getElem (by omega)]
    rfl
  exact nodup_at nd (hg i hi) (by rw [z]; exact hg j hj)
theorem mk_un {TT : List (Addr × Str)} {tk : Addr} {x : Str} (nd : (TT.map (·.1)).Nodup) (h : (tk, x) ∈ TT) : ∀ z ∈ TT, z.1 = tk → z.2 = x := fun z hz e => by
  obtain ⟨i, hi⟩ := List.getElem?_of_mem h
  obtain ⟨j, hj⟩ := List.getElem?_of_mem hz
  have e1 : (TT.map (·.1))[i]? = some tk := by rw [List.getElem?_map, hi]; rfl
  have e2 : (TT.map (·.1))[j]? = some tk := by rw [List.getElem?_map, hj]; exact congrArg some e
  have := nodup_at nd e1 e2
  subst this
  rw [hi] at hj
  cases hj
  rfl
theorem tab_same {h : Heap} {K : PySem.W.Frag} (X : K.In h) {c P tk : Addr} {oo : Value} {oq : Option Addr} {vs : Array Value} {os : Array (Option Value)} (C : PySem.W.CodeHd h c P) (o : K.lookup c = some ⟨oo, oq, .fields vs, os⟩) (p : vs[11]? = some (.ref tk)) : P = tk := by
  obtain ⟨o', us, f1, f2, f3, f4, f5, f6, f7, e1, r1, r2, r3, _⟩ := C
  have e2 := X _ _ o
  rw [e1] at e2
  cases e2
  cases r2
  rw [p] at r3
  exact (Value.ref.inj (Option.some.inj r3)).symm
theorem mak_at {h : Heap} {K : PySem.W.Frag} (X : K.In h) {f f' c P ck tk : Addr} {fd : FuncData} {oc : Value} {od : Option Addr} {sl : Array (Option Value)} {oo : Value} {oq : Option Addr} {vs : Array Value} {os : Array (Option Value)} (M : MakT h f' c P) (hf : f' = f) (l : K.lookup f = some ⟨oc, od, .func fd, sl⟩) (hc : fd.code = .ref ck)
    (o : K.lookup ck = some ⟨oo, oq, .fields vs, os⟩) (p : vs[11]? = some (.ref tk)) : PySem.W.CodeHd h ck tk ∧ h.get? tk = some tab0 := by
  subst hf
  obtain ⟨⟨o1, fd1, e1, e2, e3⟩, C, t⟩ := M
  have e4 := X _ _ l
  rw [e1] at e4
  cases e4
  cases e2
  rw [hc] at e3
  cases e3
  cases tab_same X C o p
  exact ⟨C, t⟩
theorem is_zero {P : Program} {w : World} {K : PySem.W.Frag} {mg : Str → Option Value} {base : Heap} {c : Cc} (F : Has K mg "_law_is" s_law_is) : Kp P w K mg base c 0 "_law_is" ["told", "due"] (spIsD 0) := by
  obtain ⟨f, fd, G, r⟩ := (kp_never (P := P) (w := w) (base := base) (c := c) F (fun _ _ _ _ _ _ us hl => match us, hl with | [_, _], _ => rfl) : Kp P w K mg base c 0 "_law_is" ["told", "due"] spNever)
  exact ⟨f, fd, Px.FnG.imp G fun vs H Q E q => lift_imp (fun ss R EX z => by obtain ⟨d, _, z, _⟩ := z; exact z.elim) q, r⟩
theorem as_zero {P : Program} {w : World} {K : PySem.W.Frag} {mg : Str → Option Value} {base : Heap} {c : Cc} (F : Has K mg "as_tuples" s_as_tuples) : KpO P w K mg base c 0 "as_tuples" ["value"] (spAsT 0) := by
  obtain ⟨f, fd, F, hm⟩ := F
  refine ⟨f, fd, ⟨fun vs H Q E h => ?_, fun A outer s H args us vs Q E _ _ _ _ h => ?_⟩, hm, F.kp, F.binds fun _ _ _ _ _ _ us hl => match us, hl with | [_], _ => rfl⟩
  · obtain ⟨_, _, _, _, _, _, _, z, _⟩ := h
    obtain ⟨_, _, z, _⟩ := z
    exact z.elim
  · obtain ⟨_, _, _, _, _, _, _, z, _⟩ := h
    obtain ⟨_, _, z, _⟩ := z
    exact z.elim
/-- law(script), the tables told -/
def spLawT (K : PySem.W.Frag) (ts : List Addr) : Sp := fun vs H Q _ => ∃ (a : Addr) (ns : List Int), vs = [.ref a] ∧ SqL K H a (ns.map V.int) ∧ (∀ q ∈ ts, H q = some (.tbl #[])) ∧ ∀ H', Q (.bl true) H'
theorem all_mk {l : PySem.W.OpenLaw} {w : World} {K : PySem.W.Frag} {h : Heap} {mg : Str → Option Value} {fa : Addr} (X : K.In h) (G : h.Ns mainGlobals mg) (hfa : mg "law" = some (.ref fa)) (mks : ∀ y ∈ (["_law_two_fault"] : List Str), ∃ f c P, mg y = some (.ref f) ∧ MakT h f c P)
    {S c0 c1 c2 c3 c4 c5 c6 c7 c8 c9 c10 c11 c12 c13 c14 c15 f0 f1 f2 f3 f4 f5 f6 f7 f8 f9 f10 f11 f12 f13 f14 f15 f16 f17 f18 f19 f20 f21 f22 f23 f24 f25 f26 f27 f28 f29 f30 f31 f32 f33 f34 f35 f36 f37 : Addr}
    {oc0 kV0 dc0 pm0 cd0 ct0 : Value} {od0 an0 : Option Addr} {sl0 : Array (Option Value)}
    {oc1 kV1 dc1 pm1 cd1 ct1 : Value} {od1 an1 : Option Addr} {sl1 : Array (Option Value)}
    {oc2 kV2 dc2 pm2 cd2 ct2 : Value} {od2 an2 : Option Addr} {sl2 : Array (Option Value)}
    {oc3 kV3 dc3 pm3 cd3 ct3 : Value} {od3 an3 : Option Addr} {sl3 : Array (Option Value)}
    {oc4 kV4 dc4 pm4 cd4 ct4 : Value} {od4 an4 : Option Addr} {sl4 : Array (Option Value)}
    {oc5 kV5 dc5 pm5 cd5 ct5 : Value} {od5 an5 : Option Addr} {sl5 : Array (Option Value)}
    {oc6 kV6 dc6 pm6 cd6 ct6 : Value} {od6 an6 : Option Addr} {sl6 : Array (Option Value)}
    {oc7 kV7 dc7 pm7 cd7 ct7 : Value} {od7 an7 : Option Addr} {sl7 : Array (Option Value)}
    {oc8 kV8 dc8 pm8 cd8 ct8 : Value} {od8 an8 : Option Addr} {sl8 : Array (Option Value)}
    {oc9 kV9 dc9 pm9 cd9 ct9 : Value} {od9 an9 : Option Addr} {sl9 : Array (Option Value)}
    {oc10 kV10 dc10 pm10 cd10 ct10 : Value} {od10 an10 : Option Addr} {sl10 : Array (Option Value)}
    {oc11 kV11 dc11 pm11 cd11 ct11 : Value} {od11 an11 : Option Addr} {sl11 : Array (Option Value)}
    {oc12 kV12 dc12 pm12 cd12 ct12 : Value} {od12 an12 : Option Addr} {sl12 : Array (Option Value)}
    {oc13 kV13 dc13 pm13 cd13 ct13 : Value} {od13 an13 : Option Addr} {sl13 : Array (Option Value)}
    {oc14 kV14 dc14 pm14 cd14 ct14 : Value} {od14 an14 : Option Addr} {sl14 : Array (Option Value)}
    {oc15 kV15 dc15 pm15 cd15 ct15 : Value} {od15 an15 : Option Addr} {sl15 : Array (Option Value)}
    {oc16 kV16 dc16 pm16 cd16 ct16 : Value} {od16 an16 : Option Addr} {sl16 : Array (Option Value)}
    {oc17 kV17 dc17 pm17 cd17 ct17 : Value} {od17 an17 : Option Addr} {sl17 : Array (Option Value)}
    {oc18 kV18 dc18 pm18 cd18 ct18 : Value} {od18 an18 : Option Addr} {sl18 : Array (Option Value)}
    {oc19 kV19 dc19 pm19 cd19 ct19 : Value} {od19 an19 : Option Addr} {sl19 : Array (Option Value)}
    {oc20 kV20 dc20 pm20 cd20 ct20 : Value} {od20 an20 : Option Addr} {sl20 : Array (Option Value)}
    {oc21 kV21 dc21 pm21 cd21 ct21 : Value} {od21 an21 : Option Addr} {sl21 : Array (Option Value)}
    {oc22 kV22 dc22 pm22 cd22 ct22 : Value} {od22 an22 : Option Addr} {sl22 : Array (Option Value)}
    {oc23 kV23 dc23 pm23 cd23 ct23 : Value} {od23 an23 : Option Addr} {sl23 : Array (Option Value)}
    {oc24 kV24 dc24 pm24 cd24 ct24 : Value} {od24 an24 : Option Addr} {sl24 : Array (Option Value)}
    {oc25 kV25 dc25 pm25 cd25 ct25 : Value} {od25 an25 : Option Addr} {sl25 : Array (Option Value)}
    {oc26 kV26 dc26 pm26 cd26 ct26 : Value} {od26 an26 : Option Addr} {sl26 : Array (Option Value)}
    {oc27 kV27 dc27 pm27 cd27 ct27 : Value} {od27 an27 : Option Addr} {sl27 : Array (Option Value)}
    {oc28 kV28 dc28 pm28 cd28 ct28 : Value} {od28 an28 : Option Addr} {sl28 : Array (Option Value)}
    {oc29 kV29 dc29 pm29 cd29 ct29 : Value} {od29 an29 : Option Addr} {sl29 : Array (Option Value)}
    {ck30 tk30 : Addr} {oo30 : Value} {oq30 : Option Addr} {vs30 : Array Value} {os30 : Array (Option Value)}
    {oc30 kV30 dc30 pm30 ct30 : Value} {od30 an30 : Option Addr} {sl30 : Array (Option Value)}
    {oc31 kV31 dc31 pm31 cd31 ct31 : Value} {od31 an31 : Option Addr} {sl31 : Array (Option Value)}
    {oc32 kV32 dc32 pm32 cd32 ct32 : Value} {od32 an32 : Option Addr} {sl32 : Array (Option Value)}
    {oc33 kV33 dc33 pm33 cd33 ct33 : Value} {od33 an33 : Option Addr} {sl33 : Array (Option Value)}
    {oc34 kV34 dc34 pm34 cd34 ct34 : Value} {od34 an34 : Option Addr} {sl34 : Array (Option Value)}
    {oc35 kV35 dc35 pm35 cd35 ct35 : Value} {od35 an35 : Option Addr} {sl35 : Array (Option Value)}
    {oc36 kV36 dc36 pm36 cd36 ct36 : Value} {od36 an36 : Option Addr} {sl36 : Array (Option Value)}
    {oc37 kV37 dc37 pm37 cd37 ct37 : Value} {od37 an37 : Option Addr} {sl37 : Array (Option Value)}
    {e0 N0 : Addr} {nm0 qn0 : Str} {bs0 bm0 sb0 : List Value} {sn0 : List Str} {ab0 : Bool} {co0 : Option Bool} {dd0 : Option Addr} {ma0 mb0 mc0 md0 me0 : Option Value}
    {ec0 eV0 ed0 ep0 eq0 et0 : Value} {eo0 ea0 : Option Addr} {es0 : Array (Option Value)}
    {e1 N1 : Addr} {nm1 qn1 : Str} {bs1 bm1 sb1 : List Value} {sn1 : List Str} {ab1 : Bool} {co1 : Option Bool} {dd1 : Option Addr} {ma1 mb1 mc1 md1 me1 : Option Value}
    {ec1 eV1 ed1 ep1 eq1 et1 : Value} {eo1 ea1 : Option Addr} {es1 : Array (Option Value)}
    {e2 N2 : Addr} {nm2 qn2 : Str} {bs2 bm2 sb2 : List Value} {sn2 : List Str} {ab2 : Bool} {co2 : Option Bool} {dd2 : Option Addr} {ma2 mb2 mc2 md2 me2 : Option Value}
    {ec2 eV2 ed2 ep2 eq2 et2 : Value} {eo2 ea2 : Option Addr} {es2 : Array (Option Value)}
    {tk_MOST_LETTERS : Tok}
    {tk_MOST_DEGREE : Tok}
    {SMoving : Addr}
    {sMovinginit : Addr} {ocMovinginit kVMovinginit dcMovinginit pmMovinginit cdMovinginit ctMovinginit : Value} {odMovinginit anMovinginit : Option Addr} {slMovinginit : Array (Option Value)}
    {sMovingeq : Addr} {ocMovingeq kVMovingeq dcMovingeq pmMovingeq cdMovingeq ctMovingeq : Value} {odMovingeq anMovingeq : Option Addr} {slMovingeq : Array (Option Value)}
    (aS : PySem.W.nsIn K mainGlobals "StepError" = some (some (.ref S)))
    (a0 : PySem.W.nsIn K mainGlobals "BadNumber" = some (some (.ref c0)))
    (a1 : PySem.W.nsIn K mainGlobals "BadRow" = some (some (.ref c1)))
    (a2 : PySem.W.nsIn K mainGlobals "BadTable" = some (some (.ref c2)))
    (a3 : PySem.W.nsIn K mainGlobals "BadTree" = some (some (.ref c3)))
    (a4 : PySem.W.nsIn K mainGlobals "BadBook" = some (some (.ref c4)))
    (a5 : PySem.W.nsIn K mainGlobals "BadName" = some (some (.ref c5)))
    (a6 : PySem.W.nsIn K mainGlobals "BadText" = some (some (.ref c6)))
    (a7 : PySem.W.nsIn K mainGlobals "NoPlace" = some (some (.ref c7)))
    (a8 : PySem.W.nsIn K mainGlobals "NoName" = some (some (.ref c8)))
    (a9 : PySem.W.nsIn K mainGlobals "TakenName" = some (some (.ref c9)))
    (a10 : PySem.W.nsIn K mainGlobals "Unlike" = some (some (.ref c10)))
    (a11 : PySem.W.nsIn K mainGlobals "NotThere" = some (some (.ref c11)))
    (a12 : PySem.W.nsIn K mainGlobals "TooMany" = some (some (.ref c12)))
    (a13 : PySem.W.nsIn K mainGlobals "NotKept" = some (some (.ref c13)))
    (a14 : PySem.W.nsIn K mainGlobals "NothingToUndo" = some (some (.ref c14)))
    (a15 : PySem.W.nsIn K mainGlobals "NothingToRedo" = some (some (.ref c15)))
    (g0 : PySem.W.nsIn K mainGlobals "is_integer" = some (some (.ref f0)))
    (g1 : PySem.W.nsIn K mainGlobals "is_ratio" = some (some (.ref f1)))
    (g2 : PySem.W.nsIn K mainGlobals "pair" = some (some (.ref f2)))
    (g3 : PySem.W.nsIn K mainGlobals "in_lowest" = some (some (.ref f3)))
    (g4 : PySem.W.nsIn K mainGlobals "added" = some (some (.ref f4)))
    (g5 : PySem.W.nsIn K mainGlobals "multiplied" = some (some (.ref f5)))
    (g6 : PySem.W.nsIn K mainGlobals "as_tuples" = some (some (.ref f6)))
    (g7 : PySem.W.nsIn K mainGlobals "is_list" = some (some (.ref f7)))
    (g8 : PySem.W.nsIn K mainGlobals "is_term" = some (some (.ref f8)))
    (g9 : PySem.W.nsIn K mainGlobals "is_sum" = some (some (.ref f9)))
    (g10 : PySem.W.nsIn K mainGlobals "need_moving" = some (some (.ref f10)))
    (g11 : PySem.W.nsIn K mainGlobals "need_point" = some (some (.ref f11)))
    (g12 : PySem.W.nsIn K mainGlobals "times_to" = some (some (.ref f12)))
    (g13 : PySem.W.nsIn K mainGlobals "plus_to" = some (some (.ref f13)))
    (g14 : PySem.W.nsIn K mainGlobals "sum_at" = some (some (.ref f14)))
    (g15 : PySem.W.nsIn K mainGlobals "values_at" = some (some (.ref f15)))
    (g16 : PySem.W.nsIn K mainGlobals "value" = some (some (.ref f16)))
    (g17 : PySem.W.nsIn K mainGlobals "_law_draw" = some (some (.ref f17)))
    (g18 : PySem.W.nsIn K mainGlobals "_law_pick" = some (some (.ref f18)))
    (g19 : PySem.W.nsIn K mainGlobals "_law_is" = some (some (.ref f19)))
    (g20 : PySem.W.nsIn K mainGlobals "_law_divisor" = some (some (.ref f20)))
    (g21 : PySem.W.nsIn K mainGlobals "_law_low" = some (some (.ref f21)))
    (g22 : PySem.W.nsIn K mainGlobals "_law_pair" = some (some (.ref f22)))
    (g23 : PySem.W.nsIn K mainGlobals "_law_plus" = some (some (.ref f23)))
    (g24 : PySem.W.nsIn K mainGlobals "_law_times" = some (some (.ref f24)))
    (g25 : PySem.W.nsIn K mainGlobals "_law_kinds" = some (some (.ref f25)))
    (g26 : PySem.W.nsIn K mainGlobals "_law_more_kinds" = some (some (.ref f26)))
    (g27 : PySem.W.nsIn K mainGlobals "_law_power_times" = some (some (.ref f27)))
    (g28 : PySem.W.nsIn K mainGlobals "_law_slope" = some (some (.ref f28)))
    (g29 : PySem.W.nsIn K mainGlobals "_law_moving" = some (some (.ref f29)))
    (g30 : PySem.W.nsIn K mainGlobals "_law_two_fault" = some (some (.ref f30)))
    (g31 : PySem.W.nsIn K mainGlobals "_law_made_moving" = some (some (.ref f31)))
    (g32 : PySem.W.nsIn K mainGlobals "_law_point" = some (some (.ref f32)))
    (g33 : PySem.W.nsIn K mainGlobals "_law_bent" = some (some (.ref f33)))
    (g34 : PySem.W.nsIn K mainGlobals "_law_right" = some (some (.ref f34)))
    (g35 : PySem.W.nsIn K mainGlobals "_law_pen" = some (some (.ref f35)))
    (g36 : PySem.W.nsIn K mainGlobals "_law_fault" = some (some (.ref f36)))
    (g37 : PySem.W.nsIn K mainGlobals "law" = some (some (.ref f37)))
    (z_int : PySem.W.nsIn K mainGlobals "int" = some none)
    (z_bool : PySem.W.nsIn K mainGlobals "bool" = some none)
    (z_str : PySem.W.nsIn K mainGlobals "str" = some none)
    (z_list : PySem.W.nsIn K mainGlobals "list" = some none)
    (z_tuple : PySem.W.nsIn K mainGlobals "tuple" = some none)
    (z_len : PySem.W.nsIn K mainGlobals "len" = some none)
    (z_range : PySem.W.nsIn K mainGlobals "range" = some none)
    (z_repr : PySem.W.nsIn K mainGlobals "repr" = some none)
    (z_isinstance : PySem.W.nsIn K mainGlobals "isinstance" = some none)
    (z_abs : PySem.W.nsIn K mainGlobals "abs" = some none)
    (z_all : PySem.W.nsIn K mainGlobals "all" = some none)
    (z_zip : PySem.W.nsIn K mainGlobals "zip" = some none)
    (z_ValueError : PySem.W.nsIn K mainGlobals "ValueError" = some none)
    (z_gcd : PySem.W.nsIn K mainGlobals "gcd" = some (some (.builtin "math.gcd")))
    (l0 : K.lookup f0 = some ⟨oc0, od0, .func (PySem.W.fnOf "is_integer" "is_integer" (defArgs s_is_integer) (defBody s_is_integer) (defScope s_is_integer) .none kV0 dc0 pm0 an0 cd0 ct0), sl0⟩)
    (d0 : PySem.W.codeIn K cd0 "is_integer" = true)
    (k0 : PySem.W.keepIn K (.ref f0) = true)
    (l1 : K.lookup f1 = some ⟨oc1, od1, .func (PySem.W.fnOf "is_ratio" "is_ratio" (defArgs s_is_ratio) (defBody s_is_ratio) (defScope s_is_ratio) .none kV1 dc1 pm1 an1 cd1 ct1), sl1⟩)
    (d1 : PySem.W.codeIn K cd1 "is_ratio" = true)
    (k1 : PySem.W.keepIn K (.ref f1) = true)
    (l2 : K.lookup f2 = some ⟨oc2, od2, .func (PySem.W.fnOf "pair" "pair" (defArgs s_pair) (defBody s_pair) (defScope s_pair) .none kV2 dc2 pm2 an2 cd2 ct2), sl2⟩)
    (d2 : PySem.W.codeIn K cd2 "pair" = true)
    (k2 : PySem.W.keepIn K (.ref f2) = true)
    (l3 : K.lookup f3 = some ⟨oc3, od3, .func (PySem.W.fnOf "in_lowest" "in_lowest" (defArgs s_in_lowest) (defBody s_in_lowest) (defScope s_in_lowest) .none kV3 dc3 pm3 an3 cd3 ct3), sl3⟩)
    (d3 : PySem.W.codeIn K cd3 "in_lowest" = true)
    (k3 : PySem.W.keepIn K (.ref f3) = true)
    (l4 : K.lookup f4 = some ⟨oc4, od4, .func (PySem.W.fnOf "added" "added" (defArgs s_added) (defBody s_added) (defScope s_added) .none kV4 dc4 pm4 an4 cd4 ct4), sl4⟩)
    (d4 : PySem.W.codeIn K cd4 "added" = true)
    (k4 : PySem.W.keepIn K (.ref f4) = true)
    (l5 : K.lookup f5 = some ⟨oc5, od5, .func (PySem.W.fnOf "multiplied" "multiplied" (defArgs s_multiplied) (defBody s_multiplied) (defScope s_multiplied) .none kV5 dc5 pm5 an5 cd5 ct5), sl5⟩)
    (d5 : PySem.W.codeIn K cd5 "multiplied" = true)
    (k5 : PySem.W.keepIn K (.ref f5) = true)
    (l6 : K.lookup f6 = some ⟨oc6, od6, .func (PySem.W.fnOf "as_tuples" "as_tuples" (defArgs s_as_tuples) (defBody s_as_tuples) (defScope s_as_tuples) .none kV6 dc6 pm6 an6 cd6 ct6), sl6⟩)
    (d6 : PySem.W.codeIn K cd6 "as_tuples" = true)
    (k6 : PySem.W.keepIn K (.ref f6) = true)
    (l7 : K.lookup f7 = some ⟨oc7, od7, .func (PySem.W.fnOf "is_list" "is_list" (defArgs s_is_list) (defBody s_is_list) (defScope s_is_list) .none kV7 dc7 pm7 an7 cd7 ct7), sl7⟩)
    (d7 : PySem.W.codeIn K cd7 "is_list" = true)
    (k7 : PySem.W.keepIn K (.ref f7) = true)
    (l8 : K.lookup f8 = some ⟨oc8, od8, .func (PySem.W.fnOf "is_term" "is_term" (defArgs s_is_term) (defBody s_is_term) (defScope s_is_term) .none kV8 dc8 pm8 an8 cd8 ct8), sl8⟩)
    (d8 : PySem.W.codeIn K cd8 "is_term" = true)
    (k8 : PySem.W.keepIn K (.ref f8) = true)
    (l9 : K.lookup f9 = some ⟨oc9, od9, .func (PySem.W.fnOf "is_sum" "is_sum" (defArgs s_is_sum) (defBody s_is_sum) (defScope s_is_sum) .none kV9 dc9 pm9 an9 cd9 ct9), sl9⟩)
    (d9 : PySem.W.codeIn K cd9 "is_sum" = true)
    (k9 : PySem.W.keepIn K (.ref f9) = true)
    (l10 : K.lookup f10 = some ⟨oc10, od10, .func (PySem.W.fnOf "need_moving" "need_moving" (defArgs s_need_moving) (defBody s_need_moving) (defScope s_need_moving) .none kV10 dc10 pm10 an10 cd10 ct10), sl10⟩)
    (d10 : PySem.W.codeIn K cd10 "need_moving" = true)
    (k10 : PySem.W.keepIn K (.ref f10) = true)
    (l11 : K.lookup f11 = some ⟨oc11, od11, .func (PySem.W.fnOf "need_point" "need_point" (defArgs s_need_point) (defBody s_need_point) (defScope s_need_point) .none kV11 dc11 pm11 an11 cd11 ct11), sl11⟩)
    (d11 : PySem.W.codeIn K cd11 "need_point" = true)
    (k11 : PySem.W.keepIn K (.ref f11) = true)
    (l12 : K.lookup f12 = some ⟨oc12, od12, .func (PySem.W.fnOf "times_to" "times_to" (defArgs s_times_to) (defBody s_times_to) (defScope s_times_to) .none kV12 dc12 pm12 an12 cd12 ct12), sl12⟩)
    (d12 : PySem.W.codeIn K cd12 "times_to" = true)
    (k12 : PySem.W.keepIn K (.ref f12) = true)
    (l13 : K.lookup f13 = some ⟨oc13, od13, .func (PySem.W.fnOf "plus_to" "plus_to" (defArgs s_plus_to) (defBody s_plus_to) (defScope s_plus_to) .none kV13 dc13 pm13 an13 cd13 ct13), sl13⟩)
    (d13 : PySem.W.codeIn K cd13 "plus_to" = true)
    (k13 : PySem.W.keepIn K (.ref f13) = true)
    (l14 : K.lookup f14 = some ⟨oc14, od14, .func (PySem.W.fnOf "sum_at" "sum_at" (defArgs s_sum_at) (defBody s_sum_at) (defScope s_sum_at) .none kV14 dc14 pm14 an14 cd14 ct14), sl14⟩)
    (d14 : PySem.W.codeIn K cd14 "sum_at" = true)
    (k14 : PySem.W.keepIn K (.ref f14) = true)
    (l15 : K.lookup f15 = some ⟨oc15, od15, .func (PySem.W.fnOf "values_at" "values_at" (defArgs s_values_at) (defBody s_values_at) (defScope s_values_at) .none kV15 dc15 pm15 an15 cd15 ct15), sl15⟩)
    (d15 : PySem.W.codeIn K cd15 "values_at" = true)
    (k15 : PySem.W.keepIn K (.ref f15) = true)
    (l16 : K.lookup f16 = some ⟨oc16, od16, .func (PySem.W.fnOf "value" "value" (defArgs s_value) (defBody s_value) (defScope s_value) .none kV16 dc16 pm16 an16 cd16 ct16), sl16⟩)
    (d16 : PySem.W.codeIn K cd16 "value" = true)
    (k16 : PySem.W.keepIn K (.ref f16) = true)
    (l17 : K.lookup f17 = some ⟨oc17, od17, .func (PySem.W.fnOf "_law_draw" "_law_draw" (defArgs s_law_draw) (defBody s_law_draw) (defScope s_law_draw) .none kV17 dc17 pm17 an17 cd17 ct17), sl17⟩)
    (d17 : PySem.W.codeIn K cd17 "_law_draw" = true)
    (k17 : PySem.W.keepIn K (.ref f17) = true)
    (l18 : K.lookup f18 = some ⟨oc18, od18, .func (PySem.W.fnOf "_law_pick" "_law_pick" (defArgs s_law_pick) (defBody s_law_pick) (defScope s_law_pick) .none kV18 dc18 pm18 an18 cd18 ct18), sl18⟩)
    (d18 : PySem.W.codeIn K cd18 "_law_pick" = true)
    (k18 : PySem.W.keepIn K (.ref f18) = true)
    (l19 : K.lookup f19 = some ⟨oc19, od19, .func (PySem.W.fnOf "_law_is" "_law_is" (defArgs s_law_is) (defBody s_law_is) (defScope s_law_is) .none kV19 dc19 pm19 an19 cd19 ct19), sl19⟩)
    (d19 : PySem.W.codeIn K cd19 "_law_is" = true)
    (k19 : PySem.W.keepIn K (.ref f19) = true)
    (l20 : K.lookup f20 = some ⟨oc20, od20, .func (PySem.W.fnOf "_law_divisor" "_law_divisor" (defArgs s_law_divisor) (defBody s_law_divisor) (defScope s_law_divisor) .none kV20 dc20 pm20 an20 cd20 ct20), sl20⟩)
    (d20 : PySem.W.codeIn K cd20 "_law_divisor" = true)
    (k20 : PySem.W.keepIn K (.ref f20) = true)
    (l21 : K.lookup f21 = some ⟨oc21, od21, .func (PySem.W.fnOf "_law_low" "_law_low" (defArgs s_law_low) (defBody s_law_low) (defScope s_law_low) .none kV21 dc21 pm21 an21 cd21 ct21), sl21⟩)
    (d21 : PySem.W.codeIn K cd21 "_law_low" = true)
    (k21 : PySem.W.keepIn K (.ref f21) = true)
    (l22 : K.lookup f22 = some ⟨oc22, od22, .func (PySem.W.fnOf "_law_pair" "_law_pair" (defArgs s_law_pair) (defBody s_law_pair) (defScope s_law_pair) .none kV22 dc22 pm22 an22 cd22 ct22), sl22⟩)
    (d22 : PySem.W.codeIn K cd22 "_law_pair" = true)
    (k22 : PySem.W.keepIn K (.ref f22) = true)
    (l23 : K.lookup f23 = some ⟨oc23, od23, .func (PySem.W.fnOf "_law_plus" "_law_plus" (defArgs s_law_plus) (defBody s_law_plus) (defScope s_law_plus) .none kV23 dc23 pm23 an23 cd23 ct23), sl23⟩)
    (d23 : PySem.W.codeIn K cd23 "_law_plus" = true)
    (k23 : PySem.W.keepIn K (.ref f23) = true)
    (l24 : K.lookup f24 = some ⟨oc24, od24, .func (PySem.W.fnOf "_law_times" "_law_times" (defArgs s_law_times) (defBody s_law_times) (defScope s_law_times) .none kV24 dc24 pm24 an24 cd24 ct24), sl24⟩)
    (d24 : PySem.W.codeIn K cd24 "_law_times" = true)
    (k24 : PySem.W.keepIn K (.ref f24) = true)
    (l25 : K.lookup f25 = some ⟨oc25, od25, .func (PySem.W.fnOf "_law_kinds" "_law_kinds" (defArgs s_law_kinds) (defBody s_law_kinds) (defScope s_law_kinds) .none kV25 dc25 pm25 an25 cd25 ct25), sl25⟩)
    (d25 : PySem.W.codeIn K cd25 "_law_kinds" = true)
    (k25 : PySem.W.keepIn K (.ref f25) = true)
    (l26 : K.lookup f26 = some ⟨oc26, od26, .func (PySem.W.fnOf "_law_more_kinds" "_law_more_kinds" (defArgs s_law_more_kinds) (defBody s_law_more_kinds) (defScope s_law_more_kinds) .none kV26 dc26 pm26 an26 cd26 ct26), sl26⟩)
    (d26 : PySem.W.codeIn K cd26 "_law_more_kinds" = true)
    (k26 : PySem.W.keepIn K (.ref f26) = true)
    (l27 : K.lookup f27 = some ⟨oc27, od27, .func (PySem.W.fnOf "_law_power_times" "_law_power_times" (defArgs s_law_power_times) (defBody s_law_power_times) (defScope s_law_power_times) .none kV27 dc27 pm27 an27 cd27 ct27), sl27⟩)
    (d27 : PySem.W.codeIn K cd27 "_law_power_times" = true)
    (k27 : PySem.W.keepIn K (.ref f27) = true)
    (l28 : K.lookup f28 = some ⟨oc28, od28, .func (PySem.W.fnOf "_law_slope" "_law_slope" (defArgs s_law_slope) (defBody s_law_slope) (defScope s_law_slope) .none kV28 dc28 pm28 an28 cd28 ct28), sl28⟩)
    (d28 : PySem.W.codeIn K cd28 "_law_slope" = true)
    (k28 : PySem.W.keepIn K (.ref f28) = true)
    (l29 : K.lookup f29 = some ⟨oc29, od29, .func (PySem.W.fnOf "_law_moving" "_law_moving" (defArgs s_law_moving) (defBody s_law_moving) (defScope s_law_moving) .none kV29 dc29 pm29 an29 cd29 ct29), sl29⟩)
    (d29 : PySem.W.codeIn K cd29 "_law_moving" = true)
    (k29 : PySem.W.keepIn K (.ref f29) = true)
    (l30 : K.lookup f30 = some ⟨oc30, od30, .func (PySem.W.fnOf "_law_two_fault" "_law_two_fault" (defArgs s_law_two_fault) (defBody s_law_two_fault) (defScope s_law_two_fault) .none kV30 dc30 pm30 an30 (.ref ck30) ct30), sl30⟩)
    (d30 : PySem.W.codeIn K (.ref ck30) "_law_two_fault" = true)
    (k30 : PySem.W.keepIn K (.ref f30) = true)
    (o30 : K.lookup ck30 = some ⟨oo30, oq30, .fields vs30, os30⟩)
    (p30 : vs30[11]? = some (.ref tk30))
    (nt30 : K.lookup tk30 = none)
    (l31 : K.lookup f31 = some ⟨oc31, od31, .func (PySem.W.fnOf "_law_made_moving" "_law_made_moving" (defArgs s_law_made_moving) (defBody s_law_made_moving) (defScope s_law_made_moving) .none kV31 dc31 pm31 an31 cd31 ct31), sl31⟩)
    (d31 : PySem.W.codeIn K cd31 "_law_made_moving" = true)
    (k31 : PySem.W.keepIn K (.ref f31) = true)
    (l32 : K.lookup f32 = some ⟨oc32, od32, .func (PySem.W.fnOf "_law_point" "_law_point" (defArgs s_law_point) (defBody s_law_point) (defScope s_law_point) .none kV32 dc32 pm32 an32 cd32 ct32), sl32⟩)
    (d32 : PySem.W.codeIn K cd32 "_law_point" = true)
    (k32 : PySem.W.keepIn K (.ref f32) = true)
    (l33 : K.lookup f33 = some ⟨oc33, od33, .func (PySem.W.fnOf "_law_bent" "_law_bent" (defArgs s_law_bent) (defBody s_law_bent) (defScope s_law_bent) .none kV33 dc33 pm33 an33 cd33 ct33), sl33⟩)
    (d33 : PySem.W.codeIn K cd33 "_law_bent" = true)
    (k33 : PySem.W.keepIn K (.ref f33) = true)
    (l34 : K.lookup f34 = some ⟨oc34, od34, .func (PySem.W.fnOf "_law_right" "_law_right" (defArgs s_law_right) (defBody s_law_right) (defScope s_law_right) .none kV34 dc34 pm34 an34 cd34 ct34), sl34⟩)
    (d34 : PySem.W.codeIn K cd34 "_law_right" = true)
    (k34 : PySem.W.keepIn K (.ref f34) = true)
    (l35 : K.lookup f35 = some ⟨oc35, od35, .func (PySem.W.fnOf "_law_pen" "_law_pen" (defArgs s_law_pen) (defBody s_law_pen) (defScope s_law_pen) .none kV35 dc35 pm35 an35 cd35 ct35), sl35⟩)
    (d35 : PySem.W.codeIn K cd35 "_law_pen" = true)
    (k35 : PySem.W.keepIn K (.ref f35) = true)
    (l36 : K.lookup f36 = some ⟨oc36, od36, .func (PySem.W.fnOf "_law_fault" "_law_fault" (defArgs s_law_fault) (defBody s_law_fault) (defScope s_law_fault) .none kV36 dc36 pm36 an36 cd36 ct36), sl36⟩)
    (d36 : PySem.W.codeIn K cd36 "_law_fault" = true)
    (k36 : PySem.W.keepIn K (.ref f36) = true)
    (l37 : K.lookup f37 = some ⟨oc37, od37, .func (PySem.W.fnOf "law" "law" (defArgs s_law) (defBody s_law) (defScope s_law) .none kV37 dc37 pm37 an37 cd37 ct37), sl37⟩)
    (d37 : PySem.W.codeIn K cd37 "law" = true)
    (k37 : PySem.W.keepIn K (.ref f37) = true)
    (ntd : (decide ([tk30] : List Addr).Nodup) = true)
    (n0_0 : PySem.W.findIn K (.ref c0) "what" = some none)
    (n0_1 : PySem.W.findIn K (.ref c0) "number" = some none)
    (x0 : K.lookup c0 = some (excClassObj nm0 qn0 c0 N0 bs0 bm0 true sn0 sb0 ab0 co0 dd0 ma0 mb0 mc0 md0 me0 "ValueError.__new__"))
    (r0 : PySem.HandSPX.refsVE bm0 = true)
    (sa0 : PySem.W.findIn K (.ref c0) "__setattr__" = some (some (.builtin "object.__setattr__")))
    (ty0 : PySem.W.typeIn K (.ref c0) = some (.type "type"))
    (kc0 : PySem.W.keepIn K (.ref c0) = true)
    (i0 : PySem.W.findIn K (.ref c0) "__init__" = some (some (.ref e0)))
    (t0 : PySem.W.typeIn K (.ref e0) = some (.type "function"))
    (el0 : K.lookup e0 = some ⟨ec0, eo0, .func (PySem.W.fnOf "__init__" "BadNumber.__init__" (defArgs (inClass (topS 3) 0)) (defBody (inClass (topS 3) 0)) (defScope (inClass (topS 3) 0)) .none eV0 ed0 ep0 ea0 eq0 et0), es0⟩)
    (em0 : PySem.W.codeIn K eq0 "BadNumber.__init__" = true)
    (ek0 : PySem.W.keepIn K (.ref e0) = true)
    (n1_0 : PySem.W.findIn K (.ref c1) "what" = some none)
    (n1_1 : PySem.W.findIn K (.ref c1) "row" = some none)
    (x1 : K.lookup c1 = some (excClassObj nm1 qn1 c1 N1 bs1 bm1 true sn1 sb1 ab1 co1 dd1 ma1 mb1 mc1 md1 me1 "ValueError.__new__"))
    (r1 : PySem.HandSPX.refsVE bm1 = true)
    (sa1 : PySem.W.findIn K (.ref c1) "__setattr__" = some (some (.builtin "object.__setattr__")))
    (ty1 : PySem.W.typeIn K (.ref c1) = some (.type "type"))
    (kc1 : PySem.W.keepIn K (.ref c1) = true)
    (i1 : PySem.W.findIn K (.ref c1) "__init__" = some (some (.ref e1)))
    (t1 : PySem.W.typeIn K (.ref e1) = some (.type "function"))
    (el1 : K.lookup e1 = some ⟨ec1, eo1, .func (PySem.W.fnOf "__init__" "BadRow.__init__" (defArgs (inClass (topS 4) 0)) (defBody (inClass (topS 4) 0)) (defScope (inClass (topS 4) 0)) .none eV1 ed1 ep1 ea1 eq1 et1), es1⟩)
    (em1 : PySem.W.codeIn K eq1 "BadRow.__init__" = true)
    (ek1 : PySem.W.keepIn K (.ref e1) = true)
    (n2_0 : PySem.W.findIn K (.ref c2) "what" = some none)
    (x2 : K.lookup c2 = some (excClassObj nm2 qn2 c2 N2 bs2 bm2 true sn2 sb2 ab2 co2 dd2 ma2 mb2 mc2 md2 me2 "ValueError.__new__"))
    (r2 : PySem.HandSPX.refsVE bm2 = true)
    (sa2 : PySem.W.findIn K (.ref c2) "__setattr__" = some (some (.builtin "object.__setattr__")))
    (ty2 : PySem.W.typeIn K (.ref c2) = some (.type "type"))
    (kc2 : PySem.W.keepIn K (.ref c2) = true)
    (i2 : PySem.W.findIn K (.ref c2) "__init__" = some (some (.ref e2)))
    (t2 : PySem.W.typeIn K (.ref e2) = some (.type "function"))
    (el2 : K.lookup e2 = some ⟨ec2, eo2, .func (PySem.W.fnOf "__init__" "BadTable.__init__" (defArgs (inClass (topS 5) 0)) (defBody (inClass (topS 5) 0)) (defScope (inClass (topS 5) 0)) .none eV2 ed2 ep2 ea2 eq2 et2), es2⟩)
    (em2 : PySem.W.codeIn K eq2 "BadTable.__init__" = true)
    (ek2 : PySem.W.keepIn K (.ref e2) = true)
    (n3_0 : PySem.W.findIn K (.ref c3) "what" = some none)
    (n4_0 : PySem.W.findIn K (.ref c4) "what" = some none)
    (n5_0 : PySem.W.findIn K (.ref c5) "name" = some none)
    (n6_0 : PySem.W.findIn K (.ref c6) "line" = some none)
    (n6_1 : PySem.W.findIn K (.ref c6) "word" = some none)
    (n7_0 : PySem.W.findIn K (.ref c7) "what" = some none)
    (n7_1 : PySem.W.findIn K (.ref c7) "index" = some none)
    (n8_0 : PySem.W.findIn K (.ref c8) "name" = some none)
    (n9_0 : PySem.W.findIn K (.ref c9) "name" = some none)
    (n10_0 : PySem.W.findIn K (.ref c10) "what" = some none)
    (n11_0 : PySem.W.findIn K (.ref c11) "paper" = some none)
    (n12_0 : PySem.W.findIn K (.ref c12) "what" = some none)
    (n12_1 : PySem.W.findIn K (.ref c12) "many" = some none)
    (n12_2 : PySem.W.findIn K (.ref c12) "limit" = some none)
    (n13_0 : PySem.W.findIn K (.ref c13) "promise" = some none)
    (n13_1 : PySem.W.findIn K (.ref c13) "witness" = some none)
    (zn_enumerate : PySem.W.nsIn K mainGlobals "enumerate" = some none)
    (zn_sorted : PySem.W.nsIn K mainGlobals "sorted" = some none)
    (zn_sum : PySem.W.nsIn K mainGlobals "sum" = some none)
    (zc_MOST_LETTERS : PySem.W.nsIn K mainGlobals "MOST_LETTERS" = some (some (.int 9 tk_MOST_LETTERS)))
    (zc_MOST_DEGREE : PySem.W.nsIn K mainGlobals "MOST_DEGREE" = some (some (.int 8 tk_MOST_DEGREE)))
    (aSMoving : PySem.W.nsIn K mainGlobals "Moving" = some (some (.ref SMoving)))
    (pgMoving : PySem.W.plainGet K SMoving Str.empty = true)
    (hdMoving : PySem.W.hasDictIn K SMoving = true)
    (poMoving : PySem.W.plainOver K SMoving = true)
    (saMoving : PySem.W.findIn K (.ref SMoving) "__setattr__" = some (some (.builtin "object.__setattr__")))
    (mkMoving : PySem.W.makesIn K SMoving = true)
    (kcMoving : PySem.W.keepIn K (.ref SMoving) = true)
    (nMoving_d : PySem.W.findIn K (.ref SMoving) "d" = some none)
    (nMoving_rows : PySem.W.findIn K (.ref SMoving) "rows" = some none)
    (iMovinginit : PySem.W.findIn K (.ref SMoving) "__init__" = some (some (.ref sMovinginit)))
    (fMovinginit : PySem.W.isFn K (.ref sMovinginit) = true)
    (lMovinginit : K.lookup sMovinginit = some ⟨ocMovinginit, odMovinginit, .func (PySem.W.fnOf "__init__" "Moving.__init__" (defArgs (inClass (topS 32) 0)) (defBody (inClass (topS 32) 0)) (defScope (inClass (topS 32) 0)) .none kVMovinginit dcMovinginit pmMovinginit anMovinginit cdMovinginit ctMovinginit), slMovinginit⟩)
    (dMovinginit : PySem.W.codeIn K cdMovinginit "Moving.__init__" = true)
    (kMovinginit : PySem.W.keepIn K (.ref sMovinginit) = true)
    (iMovingeq : PySem.W.findIn K (.ref SMoving) "__eq__" = some (some (.ref sMovingeq)))
    (fMovingeq : PySem.W.isFn K (.ref sMovingeq) = true)
    (lMovingeq : K.lookup sMovingeq = some ⟨ocMovingeq, odMovingeq, .func (PySem.W.fnOf "__eq__" "Moving.__eq__" (defArgs (inClass (topS 32) 1)) (defBody (inClass (topS 32) 1)) (defScope (inClass (topS 32) 1)) .none kVMovingeq dcMovingeq pmMovingeq anMovingeq cdMovingeq ctMovingeq), slMovingeq⟩)
    (dMovingeq : PySem.W.codeIn K cdMovingeq "Moving.__eq__" = true)
    (kMovingeq : PySem.W.keepIn K (.ref sMovingeq) = true)
    (kiMoving : (decide (PySem.W.kitOne K (.ref SMoving) (.ref SMoving) = some true)) = true)
    (knMoving : (plainTys.all fun t => decide (PySem.W.kitOne K (.type t) (.ref SMoving) = some false)) = true)
    (haMoving : PySem.W.findIn K (.ref SMoving) "__class__" = some (some (.builtin "object.__class__")))
    (hmMoving : PySem.W.mroIn K SMoving (.type "object") = some true)
    (hnG : PySem.W.specialIn K (.builtin "object.__class__") "__get__" = some (some (.builtin "getset_descriptor.__get__")))
    (htG : PySem.W.takesIn K (.builtin "object.__class__") = some true)
    (neMoving : PySem.W.findIn K (.ref SMoving) "__ne__" = some (some (.builtin "object.__ne__")))
    (nfMoving : PySem.W.notFirst K SMoving (.ref SMoving) = true)
    (ntMoving : (plainTys.all fun t => PySem.W.notFirst K SMoving (.type t)) = true)
    (nRS : (decide (f31 ≠ f16)) = true)
    (tS : PySem.W.typeIn K (.ref S) = some (.type "type"))
    (hS : PySem.W.hasDictIn K S = true)
    (bS : PySem.W.subIn K (.ref S) (.type "BaseException") = some true)
    (chk : chkAll K S [c0, c1, c2, c3, c4, c5, c6, c7, c8, c9, c10, c11, c12, c13, c14, c15] = true)
    (ndp : (decide ([c0, c1, c2, c3, c4, c5, c6, c7, c8, c9, c10, c11, c12, c13, c14, c15] : List Addr).Nodup) = true) :
    ∃ (fd : FuncData) (cs : List (Addr × Addr)), (∀ (s : Shared) (u : Value), BindsTo s fd ⟨[u], []⟩ [("script", u)]) ∧ (∀ p ∈ cs, h.get? p.2 = some tab0 ∧ K.lookup p.2 = none ∧ PySem.W.CodeHd h p.1 p.2) ∧
      ∀ base : Heap, K.In base → base.Ns mainGlobals mg → (∀ p ∈ cs, LamX.TabB base mg p.1 p.2) → FnG l.prog w K mg base (L2.CX l.prog w) 13 fa fd ["script"] (spLawT K (cs.map (·.2))) := by
  have e := hfa.symm.trans (PySem.W.mg_of X G g37)
  cases e
  have F0 := fun_mk (x := "is_integer") (qual := "is_integer") (st := s_is_integer) l0 d0 k0
  have F1 := fun_mk (x := "is_ratio") (qual := "is_ratio") (st := s_is_ratio) l1 d1 k1
  have F2 := fun_mk (x := "pair") (qual := "pair") (st := s_pair) l2 d2 k2
  have F3 := fun_mk (x := "in_lowest") (qual := "in_lowest") (st := s_in_lowest) l3 d3 k3
  have F4 := fun_mk (x := "added") (qual := "added") (st := s_added) l4 d4 k4
  have F5 := fun_mk (x := "multiplied") (qual := "multiplied") (st := s_multiplied) l5 d5 k5
  have F6 := fun_mk (x := "as_tuples") (qual := "as_tuples") (st := s_as_tuples) l6 d6 k6
  have F7 := fun_mk (x := "is_list") (qual := "is_list") (st := s_is_list) l7 d7 k7
  have F8 := fun_mk (x := "is_term") (qual := "is_term") (st := s_is_term) l8 d8 k8
  have F9 := fun_mk (x := "is_sum") (qual := "is_sum") (st := s_is_sum) l9 d9 k9
  have F10 := fun_mk (x := "need_moving") (qual := "need_moving") (st := s_need_moving) l10 d10 k10
  have F11 := fun_mk (x := "need_point") (qual := "need_point") (st := s_need_point) l11 d11 k11
  have F12 := fun_mk (x := "times_to") (qual := "times_to") (st := s_times_to) l12 d12 k12
  have F13 := fun_mk (x := "plus_to") (qual := "plus_to") (st := s_plus_to) l13 d13 k13
  have F14 := fun_mk (x := "sum_at") (qual := "sum_at") (st := s_sum_at) l14 d14 k14
  have F15 := fun_mk (x := "values_at") (qual := "values_at") (st := s_values_at) l15 d15 k15
  have F16 := fun_mk (x := "value") (qual := "value") (st := s_value) l16 d16 k16
  have F17 := fun_mk (x := "_law_draw") (qual := "_law_draw") (st := s_law_draw) l17 d17 k17
  have F18 := fun_mk (x := "_law_pick") (qual := "_law_pick") (st := s_law_pick) l18 d18 k18
  have F19 := fun_mk (x := "_law_is") (qual := "_law_is") (st := s_law_is) l19 d19 k19
  have F20 := fun_mk (x := "_law_divisor") (qual := "_law_divisor") (st := s_law_divisor) l20 d20 k20
  have F21 := fun_mk (x := "_law_low") (qual := "_law_low") (st := s_law_low) l21 d21 k21
  have F22 := fun_mk (x := "_law_pair") (qual := "_law_pair") (st := s_law_pair) l22 d22 k22
  have F23 := fun_mk (x := "_law_plus") (qual := "_law_plus") (st := s_law_plus) l23 d23 k23
  have F24 := fun_mk (x := "_law_times") (qual := "_law_times") (st := s_law_times) l24 d24 k24
  have F25 := fun_mk (x := "_law_kinds") (qual := "_law_kinds") (st := s_law_kinds) l25 d25 k25
  have F26 := fun_mk (x := "_law_more_kinds") (qual := "_law_more_kinds") (st := s_law_more_kinds) l26 d26 k26
  have F27 := fun_mk (x := "_law_power_times") (qual := "_law_power_times") (st := s_law_power_times) l27 d27 k27
  have F28 := fun_mk (x := "_law_slope") (qual := "_law_slope") (st := s_law_slope) l28 d28 k28
  have F29 := fun_mk (x := "_law_moving") (qual := "_law_moving") (st := s_law_moving) l29 d29 k29
  have F30 := fun_mk (x := "_law_two_fault") (qual := "_law_two_fault") (st := s_law_two_fault) l30 d30 k30
  have F31 := fun_mk (x := "_law_made_moving") (qual := "_law_made_moving") (st := s_law_made_moving) l31 d31 k31
  have F32 := fun_mk (x := "_law_point") (qual := "_law_point") (st := s_law_point) l32 d32 k32
  have F33 := fun_mk (x := "_law_bent") (qual := "_law_bent") (st := s_law_bent) l33 d33 k33
  have F34 := fun_mk (x := "_law_right") (qual := "_law_right") (st := s_law_right) l34 d34 k34
  have F35 := fun_mk (x := "_law_pen") (qual := "_law_pen") (st := s_law_pen) l35 d35 k35
  have F36 := fun_mk (x := "_law_fault") (qual := "_law_fault") (st := s_law_fault) l36 d36 k36
  have F37 := fun_mk (x := "law") (qual := "law") (st := s_law) l37 d37 k37
  have H0 : Has K mg "is_integer" s_is_integer := ⟨_, _, F0, PySem.W.mg_of X G g0⟩
  have H1 : Has K mg "is_ratio" s_is_ratio := ⟨_, _, F1, PySem.W.mg_of X G g1⟩
  have H2 : Has K mg "pair" s_pair := ⟨_, _, F2, PySem.W.mg_of X G g2⟩
  have H3 : Has K mg "in_lowest" s_in_lowest := ⟨_, _, F3, PySem.W.mg_of X G g3⟩
  have H4 : Has K mg "added" s_added := ⟨_, _, F4, PySem.W.mg_of X G g4⟩
  have H5 : Has K mg "multiplied" s_multiplied := ⟨_, _, F5, PySem.W.mg_of X G g5⟩
  have H6 : Has K mg "as_tuples" s_as_tuples := ⟨_, _, F6, PySem.W.mg_of X G g6⟩
  have H7 : Has K mg "is_list" s_is_list := ⟨_, _, F7, PySem.W.mg_of X G g7⟩
  have H8 : Has K mg "is_term" s_is_term := ⟨_, _, F8, PySem.W.mg_of X G g8⟩
  have H9 : Has K mg "is_sum" s_is_sum := ⟨_, _, F9, PySem.W.mg_of X G g9⟩
  have H10 : Has K mg "need_moving" s_need_moving := ⟨_, _, F10, PySem.W.mg_of X G g10⟩
  have H11 : Has K mg "need_point" s_need_point := ⟨_, _, F11, PySem.W.mg_of X G g11⟩
  have H12 : Has K mg "times_to" s_times_to := ⟨_, _, F12, PySem.W.mg_of X G g12⟩
  have H13 : Has K mg "plus_to" s_plus_to := ⟨_, _, F13, PySem.W.mg_of X G g13⟩
  have H14 : Has K mg "sum_at" s_sum_at := ⟨_, _, F14, PySem.W.mg_of X G g14⟩
  have H15 : Has K mg "values_at" s_values_at := ⟨_, _, F15, PySem.W.mg_of X G g15⟩
  have H16 : Has K mg "value" s_value := ⟨_, _, F16, PySem.W.mg_of X G g16⟩
  have H17 : Has K mg "_law_draw" s_law_draw := ⟨_, _, F17, PySem.W.mg_of X G g17⟩
  have H18 : Has K mg "_law_pick" s_law_pick := ⟨_, _, F18, PySem.W.mg_of X G g18⟩
  have H19 : Has K mg "_law_is" s_law_is := ⟨_, _, F19, PySem.W.mg_of X G g19⟩
  have H20 : Has K mg "_law_divisor" s_law_divisor := ⟨_, _, F20, PySem.W.mg_of X G g20⟩
  have H21 : Has K mg "_law_low" s_law_low := ⟨_, _, F21, PySem.W.mg_of X G g21⟩
  have H22 : Has K mg "_law_pair" s_law_pair := ⟨_, _, F22, PySem.W.mg_of X G g22⟩
  have H23 : Has K mg "_law_plus" s_law_plus := ⟨_, _, F23, PySem.W.mg_of X G g23⟩
  have H24 : Has K mg "_law_times" s_law_times := ⟨_, _, F24, PySem.W.mg_of X G g24⟩
  have H25 : Has K mg "_law_kinds" s_law_kinds := ⟨_, _, F25, PySem.W.mg_of X G g25⟩
  have H26 : Has K mg "_law_more_kinds" s_law_more_kinds := ⟨_, _, F26, PySem.W.mg_of X G g26⟩
  have H27 : Has K mg "_law_power_times" s_law_power_times := ⟨_, _, F27, PySem.W.mg_of X G g27⟩
  have H28 : Has K mg "_law_slope" s_law_slope := ⟨_, _, F28, PySem.W.mg_of X G g28⟩
  have H29 : Has K mg "_law_moving" s_law_moving := ⟨_, _, F29, PySem.W.mg_of X G g29⟩
  have H30 : HasC K mg "_law_two_fault" s_law_two_fault ck30 := ⟨_, _, F30, PySem.W.mg_of X G g30, rfl⟩
  have H31 : Has K mg "_law_made_moving" s_law_made_moving := ⟨_, _, F31, PySem.W.mg_of X G g31⟩
  have H32 : Has K mg "_law_point" s_law_point := ⟨_, _, F32, PySem.W.mg_of X G g32⟩
  have H33 : Has K mg "_law_bent" s_law_bent := ⟨_, _, F33, PySem.W.mg_of X G g33⟩
  have H34 : Has K mg "_law_right" s_law_right := ⟨_, _, F34, PySem.W.mg_of X G g34⟩
  have H35 : Has K mg "_law_pen" s_law_pen := ⟨_, _, F35, PySem.W.mg_of X G g35⟩
  have H36 : Has K mg "_law_fault" s_law_fault := ⟨_, _, F36, PySem.W.mg_of X G g36⟩
  have B : Blt mg := { b_int := PySem.W.mg_none_of X G z_int, b_bool := PySem.W.mg_none_of X G z_bool, b_str := PySem.W.mg_none_of X G z_str, b_list := PySem.W.mg_none_of X G z_list, b_tuple := PySem.W.mg_none_of X G z_tuple, b_len := PySem.W.mg_none_of X G z_len, b_range := PySem.W.mg_none_of X G z_range, b_repr := PySem.W.mg_none_of X G z_repr, b_isinstance := PySem.W.mg_none_of X G z_isinstance, b_abs := PySem.W.mg_none_of X G z_abs, b_all := PySem.W.mg_none_of X G z_all, b_zip := PySem.W.mg_none_of X G z_zip, g_gcd := PySem.W.mg_of X G z_gcd }
  have hVE : mg "ValueError" = none := PySem.W.mg_none_of X G z_ValueError
  have cm : ∀ i, i < 16 → csOf [c0, c1, c2, c3, c4, c5, c6, c7, c8, c9, c10, c11, c12, c13, c14, c15] i ∈ [c0, c1, c2, c3, c4, c5, c6, c7, c8, c9, c10, c11, c12, c13, c14, c15] := fun i hi => csOf_mem rfl hi
  have nfA : ∀ i x fs, tab[i]? = some (x, fs) → ∀ f ∈ fs, PySem.W.findIn K (.ref (csOf [c0, c1, c2, c3, c4, c5, c6, c7, c8, c9, c10, c11, c12, c13, c14, c15] i)) f = some none := by
    intro i x fs hi f hf
    have h16 : i < 16 := (List.getElem?_eq_some_iff.mp hi).1
    have hcase : i = 0 ∨ i = 1 ∨ i = 2 ∨ i = 3 ∨ i = 4 ∨ i = 5 ∨ i = 6 ∨ i = 7 ∨ i = 8 ∨ i = 9 ∨ i = 10 ∨ i = 11 ∨ i = 12 ∨ i = 13 ∨ i = 14 ∨ i = 15 := by omega
    rcases hcase with rfl | rfl | rfl | rfl | rfl | rfl | rfl | rfl | rfl | rfl | rfl | rfl | rfl | rfl | rfl | rfl
    · cases hi
      simp only [List.mem_cons, List.not_mem_nil, or_false] at hf
      rcases hf with rfl | rfl
      · exact n0_0
      · exact n0_1
    · cases hi
      simp only [List.mem_cons, List.not_mem_nil, or_false] at hf
      rcases hf with rfl | rfl
      · exact n1_0
      · exact n1_1
    · cases hi
      simp only [List.mem_cons, List.not_mem_nil, or_false] at hf
      subst hf; exact n2_0
    · cases hi
      simp only [List.mem_cons, List.not_mem_nil, or_false] at hf
      subst hf; exact n3_0
    · cases hi
      simp only [List.mem_cons, List.not_mem_nil, or_false] at hf
      subst hf; exact n4_0
    · cases hi
      simp only [List.mem_cons, List.not_mem_nil, or_false] at hf
      subst hf; exact n5_0
    · cases hi
      simp only [List.mem_cons, List.not_mem_nil, or_false] at hf
      rcases hf with rfl | rfl
      · exact n6_0
      · exact n6_1
    · cases hi
      simp only [List.mem_cons, List.not_mem_nil, or_false] at hf
      rcases hf with rfl | rfl
      · exact n7_0
      · exact n7_1
    · cases hi
      simp only [List.mem_cons, List.not_mem_nil, or_false] at hf
      subst hf; exact n8_0
    · cases hi
      simp only [List.mem_cons, List.not_mem_nil, or_false] at hf
      subst hf; exact n9_0
    · cases hi
      simp only [List.mem_cons, List.not_mem_nil, or_false] at hf
      subst hf; exact n10_0
    · cases hi
      simp only [List.mem_cons, List.not_mem_nil, or_false] at hf
      subst hf; exact n11_0
    · cases hi
      simp only [List.mem_cons, List.not_mem_nil, or_false] at hf
      rcases hf with rfl | rfl | rfl
      · exact n12_0
      · exact n12_1
      · exact n12_2
    · cases hi
      simp only [List.mem_cons, List.not_mem_nil, or_false] at hf
      rcases hf with rfl | rfl
      · exact n13_0
      · exact n13_1
    · cases hi; simp at hf
    · cases hi; simp at hf
  have gA : ∀ i x fs, tab[i]? = some (x, fs) → mg x = some (.ref (csOf [c0, c1, c2, c3, c4, c5, c6, c7, c8, c9, c10, c11, c12, c13, c14, c15] i)) := by
    intro i x fs hi
    have h16 : i < 16 := (List.getElem?_eq_some_iff.mp hi).1
    have hcase : i = 0 ∨ i = 1 ∨ i = 2 ∨ i = 3 ∨ i = 4 ∨ i = 5 ∨ i = 6 ∨ i = 7 ∨ i = 8 ∨ i = 9 ∨ i = 10 ∨ i = 11 ∨ i = 12 ∨ i = 13 ∨ i = 14 ∨ i = 15 := by omega
    rcases hcase with rfl | rfl | rfl | rfl | rfl | rfl | rfl | rfl | rfl | rfl | rfl | rfl | rfl | rfl | rfl | rfl
    · cases hi; exact PySem.W.mg_of X G a0
    · cases hi; exact PySem.W.mg_of X G a1
    · cases hi; exact PySem.W.mg_of X G a2
    · cases hi; exact PySem.W.mg_of X G a3
    · cases hi; exact PySem.W.mg_of X G a4
    · cases hi; exact PySem.W.mg_of X G a5
    · cases hi; exact PySem.W.mg_of X G a6
    · cases hi; exact PySem.W.mg_of X G a7
    · cases hi; exact PySem.W.mg_of X G a8
    · cases hi; exact PySem.W.mg_of X G a9
    · cases hi; exact PySem.W.mg_of X G a10
    · cases hi; exact PySem.W.mg_of X G a11
    · cases hi; exact PySem.W.mg_of X G a12
    · cases hi; exact PySem.W.mg_of X G a13
    · cases hi; exact PySem.W.mg_of X G a14
    · cases hi; exact PySem.W.mg_of X G a15
  have TC := tc_mk (cs := [c0, c1, c2, c3, c4, c5, c6, c7, c8, c9, c10, c11, c12, c13, c14, c15]) rfl chk (of_decide_eq_true ndp) tS hS bS (PySem.W.mg_of X G aS) gA nfA
  have T0 : OexC K c0 := oex_at x0 r0 sa0 (chk_at chk (cm 0 (by decide))).1 ty0 kc0
  have E0 := fun_mk (x := "__init__") (qual := "BadNumber.__init__") (st := inClass (topS 3) 0) el0 em0 ek0
  have eb0 := E0.binds (ps := ["self", "what", "number"]) fun _ _ _ _ _ _ us hl => match us, hl with | [_, _, _], _ => rfl
  have XI0 : XcI K mg "BadNumber" (csOf [c0, c1, c2, c3, c4, c5, c6, c7, c8, c9, c10, c11, c12, c13, c14, c15] 0) ["what", "number"] := ⟨T0, PySem.W.mg_of X G a0, e0, _, i0, t0, fun P w base => ini_BadNumber E0 T0 (nfA 0 _ _ rfl) P w base, eb0⟩
  have T1 : OexC K c1 := oex_at x1 r1 sa1 (chk_at chk (cm 1 (by decide))).1 ty1 kc1
  have E1 := fun_mk (x := "__init__") (qual := "BadRow.__init__") (st := inClass (topS 4) 0) el1 em1 ek1
  have eb1 := E1.binds (ps := ["self", "what", "row"]) fun _ _ _ _ _ _ us hl => match us, hl with | [_, _, _], _ => rfl
  have XI1 : XcI K mg "BadRow" (csOf [c0, c1, c2, c3, c4, c5, c6, c7, c8, c9, c10, c11, c12, c13, c14, c15] 1) ["what", "row"] := ⟨T1, PySem.W.mg_of X G a1, e1, _, i1, t1, fun P w base => ini_BadRow E1 T1 (nfA 1 _ _ rfl) P w base, eb1⟩
  have T2 : OexC K c2 := oex_at x2 r2 sa2 (chk_at chk (cm 2 (by decide))).1 ty2 kc2
  have E2 := fun_mk (x := "__init__") (qual := "BadTable.__init__") (st := inClass (topS 5) 0) el2 em2 ek2
  have eb2 := E2.binds (ps := ["self", "what"]) fun _ _ _ _ _ _ us hl => match us, hl with | [_, _], _ => rfl
  have XI2 : XcI K mg "BadTable" (csOf [c0, c1, c2, c3, c4, c5, c6, c7, c8, c9, c10, c11, c12, c13, c14, c15] 2) ["what"] := ⟨T2, PySem.W.mg_of X G a2, e2, _, i2, t2, fun P w base => ini_BadTable E2 T2 (nfA 2 _ _ rfl) P w base, eb2⟩
  have ZB : Blx mg := ⟨PySem.W.mg_none_of X G zn_enumerate, PySem.W.mg_none_of X G zn_sorted, PySem.W.mg_none_of X G zn_sum, ⟨tk_MOST_LETTERS, PySem.W.mg_of X G zc_MOST_LETTERS⟩, ⟨tk_MOST_DEGREE, PySem.W.mg_of X G zc_MOST_DEGREE⟩⟩
  have OMoving : Px.ObK K mg "Moving" SMoving ["d", "rows"] := ⟨⟨⟨pgMoving, hdMoving, poMoving, saMoving⟩, fun f hf => by
    simp only [List.mem_cons, List.not_mem_nil, or_false] at hf
    rcases hf with rfl | rfl
    · exact nMoving_d
    · exact nMoving_rows⟩, PySem.W.mg_of X G aSMoving, of_decide_eq_true kiMoving, fun t ht => of_decide_eq_true (List.all_eq_true.mp knMoving t ht), haMoving, hnG, htG, hmMoving⟩
  have FMovinginit := fun_mk (x := "__init__") (qual := "Moving.__init__") (st := inClass (topS 32) 0) lMovinginit dMovinginit kMovinginit
  have bMovinginit := FMovinginit.binds (ps := ["self", "d", "rows"]) fun _ _ _ _ _ _ us hl => match us, hl with | [_, _, _], _ => rfl
  have FMovingeq := fun_mk (x := "__eq__") (qual := "Moving.__eq__") (st := inClass (topS 32) 1) lMovingeq dMovingeq kMovingeq
  have bMovingeq := FMovingeq.binds (ps := ["self", "other"]) fun _ _ _ _ _ _ us hl => match us, hl with | [_, _], _ => rfl
  have OQMoving : Px.ObQ K SMoving sMovingeq := ⟨iMovingeq, fMovingeq, neMoving, nfMoving, fun t ht => List.all_eq_true.mp ntMoving t ht⟩
  refine ⟨PySem.W.fnOf "law" "law" (defArgs s_law) (defBody s_law) (defScope s_law) .none kV37 dc37 pm37 an37 cd37 ct37, [(ck30, tk30)], fun s v => .of_eq rfl, fun p hp => ?_, fun base _ _ hTB => ?_⟩
  · simp only [List.mem_cons, List.not_mem_nil, or_false] at hp
    rcases hp with rfl
    · obtain ⟨f', c', P', m1, m2⟩ := mks "_law_two_fault" (by simp)
      have m3 := mak_at X m2 (Value.ref.inj (Option.some.inj (m1.symm.trans (PySem.W.mg_of X G g30)))) l30 rfl o30 p30
      exact ⟨m3.2, nt30, m3.1⟩
  have nt : ([tk30] : List Addr).Nodup := of_decide_eq_true ntd
  obtain ⟨TT, hTT⟩ : ∃ TT : List (Addr × Str), TT = [(tk30, lamQ "_law_two_fault")] := ⟨_, rfl⟩
  have M30 : ∀ z : Addr × Addr, Mk base mg ⟨z.1, z.2, TT⟩ "_law_two_fault" ck30 tk30 := fun z => ⟨hTB (ck30, tk30) (by simp), by rw [hTT]; simp, mk_un (by rw [hTT]; exact nt) (by rw [hTT]; simp)⟩
  have D_is_integer := fun z : Addr × Addr => d_is_integer (P := l.prog) (w := w) (base := base) (c := ⟨z.1, z.2, TT⟩) H0 B
  have D_is_ratio := fun z : Addr × Addr => d_is_ratio (P := l.prog) (w := w) (base := base) (c := ⟨z.1, z.2, TT⟩) H1 B (D_is_integer z)
  have D_pair := fun z : Addr × Addr => d_pair (P := l.prog) (w := w) (base := base) (c := ⟨z.1, z.2, TT⟩) H2 B
  have D_in_lowest := fun z : Addr × Addr => d_in_lowest (P := l.prog) (w := w) (base := base) (c := ⟨z.1, z.2, TT⟩) H3 B
  have D_added := fun z : Addr × Addr => d_added (P := l.prog) (w := w) (base := base) (c := ⟨z.1, z.2, TT⟩) H4 B (D_pair z) (D_in_lowest z)
  have D_multiplied := fun z : Addr × Addr => d_multiplied (P := l.prog) (w := w) (base := base) (c := ⟨z.1, z.2, TT⟩) H5 B (D_pair z) (D_in_lowest z)
  have D_as_tuples := fun z : Addr × Addr => d_as_tuplesN (P := l.prog) (w := w) (base := base) (c := ⟨z.1, z.2, TT⟩) H6 B (d_as_tuplesN (P := l.prog) (w := w) (base := base) (c := ⟨z.1, z.2, TT⟩) H6 B (d_as_tuplesN (P := l.prog) (w := w) (base := base) (c := ⟨z.1, z.2, TT⟩) H6 B (d_as_tuplesN (P := l.prog) (w := w) (base := base) (c := ⟨z.1, z.2, TT⟩) H6 B (d_as_tuplesN (P := l.prog) (w := w) (base := base) (c := ⟨z.1, z.2, TT⟩) H6 B (as_zero (P := l.prog) (w := w) (base := base) (c := ⟨z.1, z.2, TT⟩) H6)))))
  have D_is_list := fun z : Addr × Addr => d_is_list (P := l.prog) (w := w) (base := base) (c := ⟨z.1, z.2, TT⟩) H7 B
  have D_is_term := fun z : Addr × Addr => d_is_term (P := l.prog) (w := w) (base := base) (c := ⟨z.1, z.2, TT⟩) H8 B ZB (D_is_integer z) (D_is_list z) (D_is_ratio z)
  have D_is_sum := fun z : Addr × Addr => d_is_sum (P := l.prog) (w := w) (base := base) (c := ⟨z.1, z.2, TT⟩) H9 B (D_is_list z) (D_is_term z)
  have DSTMoving := fun z : Addr × Addr => (⟨sMovinginit, _, _, ⟨mkMoving, iMovinginit, fMovinginit, kcMoving⟩, d_Moving_init (P := l.prog) (w := w) (base := base) (c := ⟨z.1, z.2, TT⟩) FMovinginit B ZB OMoving XI0 XI2 (D_as_tuples z) (D_is_integer z) (D_is_list z) (D_is_sum z), PySem.W.mg_of X G aSMoving, bMovinginit⟩ : Px.KpI l.prog w K mg base ⟨z.1, z.2, TT⟩ 6 "Moving" SMoving 2 (spIM c0 c2))
  have DQQMoving := fun z : Addr × Addr => (⟨sMovingeq, _, _, OQMoving, d_Moving_eq (P := l.prog) (w := w) (base := base) (c := ⟨z.1, z.2, TT⟩) FMovingeq B OMoving, bMovingeq⟩ : Px.KpQ l.prog w K mg base ⟨z.1, z.2, TT⟩ 2 SMoving (spEM SMoving))
  have D_need_moving := fun z : Addr × Addr => d_need_moving (P := l.prog) (w := w) (base := base) (c := ⟨z.1, z.2, TT⟩) H10 B OMoving XI2
  have D_need_point := fun z : Addr × Addr => d_need_point (P := l.prog) (w := w) (base := base) (c := ⟨z.1, z.2, TT⟩) H11 B XI1 (D_as_tuples z) (D_is_list z) (D_is_ratio z)
  have D_times_to := fun z : Addr × Addr => d_times_to (P := l.prog) (w := w) (base := base) (c := ⟨z.1, z.2, TT⟩) H12 B ZB (D_added z) (D_multiplied z)
  have D_plus_to := fun z : Addr × Addr => d_plus_to (P := l.prog) (w := w) (base := base) (c := ⟨z.1, z.2, TT⟩) H13 B (D_added z)
  have D_sum_at := fun z : Addr × Addr => d_sum_at (P := l.prog) (w := w) (base := base) (c := ⟨z.1, z.2, TT⟩) H14 B (D_plus_to z) (D_times_to z)
  have D_values_at := fun z : Addr × Addr => d_values_at (P := l.prog) (w := w) (base := base) (c := ⟨z.1, z.2, TT⟩) H15 B OMoving (D_sum_at z)
  have D_value := fun z : Addr × Addr => d_value (P := l.prog) (w := w) (base := base) (c := ⟨z.1, z.2, TT⟩) H16 B OMoving (D_need_moving z) (D_need_point z) (D_values_at z)
  have D_law_draw := fun z : Addr × Addr => kp_draw (c := ⟨z.1, z.2, TT⟩) (d_draw (P := l.prog) (w := w) (base := base) H17 B)
  have D_law_pick := fun z : Addr × Addr => d_law_pick (P := l.prog) (w := w) (base := base) (c := ⟨z.1, z.2, TT⟩) H18 B (D_law_draw z)
  have D_law_is := fun z : Addr × Addr => d_law_isN (P := l.prog) (w := w) (base := base) (c := ⟨z.1, z.2, TT⟩) H19 B (d_law_isN (P := l.prog) (w := w) (base := base) (c := ⟨z.1, z.2, TT⟩) H19 B (d_law_isN (P := l.prog) (w := w) (base := base) (c := ⟨z.1, z.2, TT⟩) H19 B (d_law_isN (P := l.prog) (w := w) (base := base) (c := ⟨z.1, z.2, TT⟩) H19 B (d_law_isN (P := l.prog) (w := w) (base := base) (c := ⟨z.1, z.2, TT⟩) H19 B (d_law_isN (P := l.prog) (w := w) (base := base) (c := ⟨z.1, z.2, TT⟩) H19 B (d_law_isN (P := l.prog) (w := w) (base := base) (c := ⟨z.1, z.2, TT⟩) H19 B (is_zero (P := l.prog) (w := w) (base := base) (c := ⟨z.1, z.2, TT⟩) H19)))))))
  have D_law_divisor := fun z : Addr × Addr => d_law_divisor (P := l.prog) (w := w) (base := base) (c := ⟨z.1, z.2, TT⟩) H20 B
  have D_law_low := fun z : Addr × Addr => d_law_low (P := l.prog) (w := w) (base := base) (c := ⟨z.1, z.2, TT⟩) H21 B (D_law_divisor z)
  have D_law_pair := fun z : Addr × Addr => d_law_pair (P := l.prog) (w := w) (base := base) (c := ⟨z.1, z.2, TT⟩) H22 B
  have D_law_plus := fun z : Addr × Addr => d_law_plus (P := l.prog) (w := w) (base := base) (c := ⟨z.1, z.2, TT⟩) H23 B (D_law_pair z) (D_law_low z)
  have D_law_times := fun z : Addr × Addr => d_law_times (P := l.prog) (w := w) (base := base) (c := ⟨z.1, z.2, TT⟩) H24 B (D_law_pair z) (D_law_low z)
  have D_law_more_kinds := fun z : Addr × Addr => d_law_more_kinds (P := l.prog) (w := w) (base := base) (c := ⟨z.1, z.2, TT⟩) (Cs := csOf [c0, c1, c2, c3, c4, c5, c6, c7, c8, c9, c10, c11, c12, c13, c14, c15]) H26 B TC
  have D_law_kinds := fun z : Addr × Addr => d_law_kinds (P := l.prog) (w := w) (base := base) (c := ⟨z.1, z.2, TT⟩) (Cs := csOf [c0, c1, c2, c3, c4, c5, c6, c7, c8, c9, c10, c11, c12, c13, c14, c15]) H25 B TC (D_law_more_kinds z)
  have D_law_power_times := fun z : Addr × Addr => d_law_power_times (P := l.prog) (w := w) (base := base) (c := ⟨z.1, z.2, TT⟩) H27 B (D_law_plus z) (D_law_times z)
  have D_law_slope := fun z : Addr × Addr => d_law_slope (P := l.prog) (w := w) (base := base) (c := ⟨z.1, z.2, TT⟩) H28 B (D_law_plus z) (D_law_power_times z)
  have D_law_moving := fun z : Addr × Addr => d_law_moving (P := l.prog) (w := w) (base := base) (c := ⟨z.1, z.2, TT⟩) H29 B ZB (D_law_draw z) (D_law_low z) (D_law_pick z)
  have D_law_made_moving := fun z : Addr × Addr => d_law_made_moving (P := l.prog) (w := w) (base := base) (c := ⟨z.1, z.2, TT⟩) (Cs := csOf [c0, c1, c2, c3, c4, c5, c6, c7, c8, c9, c10, c11, c12, c13, c14, c15]) H31 B (DSTMoving z)
  have D_law_two_fault := fun z : Addr × Addr => d_law_two_fault (P := l.prog) (w := w) (base := base) (c := ⟨z.1, z.2, TT⟩) (Cs := csOf [c0, c1, c2, c3, c4, c5, c6, c7, c8, c9, c10, c11, c12, c13, c14, c15]) H30 B hVE TC H36 (D_law_kinds z) (M30 z) (fun f e1 e2 => of_decide_eq_true nRS (Value.ref.inj (Option.some.inj ((PySem.W.mg_of X G g31).symm.trans (e1.trans (e2.symm.trans (PySem.W.mg_of X G g16))))))) (D_law_made_moving z) (D_value z)
  have D_law_point := fun z : Addr × Addr => d_law_point (P := l.prog) (w := w) (base := base) (c := ⟨z.1, z.2, TT⟩) H32 B (D_law_low z) (D_law_pick z)
  have D_law_bent := fun z : Addr × Addr => d_law_bent (P := l.prog) (w := w) (base := base) (c := ⟨z.1, z.2, TT⟩) H33 B (D_law_draw z) (D_law_pick z)
  have D_law_right := fun z : Addr × Addr => d_law_right (P := l.prog) (w := w) (base := base) (c := ⟨z.1, z.2, TT⟩) (Cs := csOf [c0, c1, c2, c3, c4, c5, c6, c7, c8, c9, c10, c11, c12, c13, c14, c15]) H34 B OMoving (DQQMoving z) (DSTMoving z) (D_law_bent z) (D_law_draw z) (D_law_is z) (D_law_moving z) (D_law_pick z) (D_law_point z) (D_law_slope z) (D_law_two_fault z) (D_value z) (PySem.W.mg_of X G g31) (PySem.W.mg_of X G g16)
  refine Px.FnG.imp (d_law (TT := TT) (Cs := csOf [c0, c1, c2, c3, c4, c5, c6, c7, c8, c9, c10, c11, c12, c13, c14, c15]) F37 B (d_pen H35 B) D_law_right OMoving DQQMoving DSTMoving D_value) fun vs H Q E h => ?_
  obtain ⟨a, ns, rfl, hS, hT, fin⟩ := h
  refine ⟨a, ns, rfl, hS, fun z hz => hT z.1 ?_, fin⟩
  rw [hTT] at hz
  simp only [List.mem_cons, List.not_mem_nil, or_false] at hz
  rcases hz with rfl <;> simp
end K38
section
open PySem PySem.W PyProof.Rows
set_option maxRecDepth 100000 in
set_option maxHeartbeats 8000000 in
open_top hd for PySem.Challenge.rw_fracsteps_k38_whole_movings_and_their_wo
end
open PySem PySem.W PyProof.Rows
set_option maxRecDepth 100000 in
set_option maxHeartbeats 8000000 in
theorem PySem.Challenge.cw_fracsteps_k38_whole_movings_and_their_wo_holds : PySem.Challenge.rw_fracsteps_k38_whole_movings_and_their_wo.Holds := by
  refine hd ?_
  k_fill
  refine Lx.walk_ofT (l := PySem.Challenge.rw_fracsteps_k38_whole_movings_and_their_wo) (n := 63) (k := 13) (x := "script") (sp := K38.spLawT) ["_law_two_fault"] rfl (by decide) rfl ⟨rfl, by decide, by decide⟩ (by decide +kernel) (fun w h Y => PySem.W.km_in_of Y) ?F (fun K ts H a ns _ hT hS => ⟨a, ns, rfl, hS, hT, fun _ => rfl⟩)
  case F =>
    intro w mg fa h KX G hmg mks
    refine' K38.all_mk KX G hmg mks ?aS ?a0 ?a1 ?a2 ?a3 ?a4 ?a5 ?a6 ?a7 ?a8 ?a9 ?a10 ?a11 ?a12 ?a13 ?a14 ?a15 ?g0 ?g1 ?g2 ?g3 ?g4 ?g5 ?g6 ?g7 ?g8 ?g9 ?g10 ?g11 ?g12 ?g13 ?g14 ?g15 ?g16 ?g17 ?g18 ?g19 ?g20 ?g21 ?g22 ?g23 ?g24 ?g25 ?g26 ?g27 ?g28 ?g29 ?g30 ?g31 ?g32 ?g33 ?g34 ?g35 ?g36 ?g37 ?z_int ?z_bool ?z_str ?z_list ?z_tuple ?z_len ?z_range ?z_repr ?z_isinstance ?z_abs ?z_all ?z_zip ?z_ValueError ?z_gcd ?l0 ?d0 ?k0 ?l1 ?d1 ?k1 ?l2 ?d2 ?k2 ?l3 ?d3 ?k3 ?l4 ?d4 ?k4 ?l5 ?d5 ?k5 ?l6 ?d6 ?k6 ?l7 ?d7 ?k7 ?l8 ?d8 ?k8 ?l9 ?d9 ?k9 ?l10 ?d10 ?k10 ?l11 ?d11 ?k11 ?l12 ?d12 ?k12 ?l13 ?d13 ?k13 ?l14 ?d14 ?k14 ?l15 ?d15 ?k15 ?l16 ?d16 ?k16 ?l17 ?d17 ?k17 ?l18 ?d18 ?k18 ?l19 ?d19 ?k19 ?l20 ?d20 ?k20 ?l21 ?d21 ?k21 ?l22 ?d22 ?k22 ?l23 ?d23 ?k23 ?l24 ?d24 ?k24 ?l25 ?d25 ?k25 ?l26 ?d26 ?k26 ?l27 ?d27 ?k27 ?l28 ?d28 ?k28 ?l29 ?d29 ?k29 ?l30 ?d30 ?k30 ?o30 ?p30 ?nt30 ?l31 ?d31 ?k31 ?l32 ?d32 ?k32 ?l33 ?d33 ?k33 ?l34 ?d34 ?k34 ?l35 ?d35 ?k35 ?l36 ?d36 ?k36 ?l37 ?d37 ?k37 ?ntd ?n0_0 ?n0_1 ?x0 ?r0 ?sa0 ?ty0 ?kc0 ?i0 ?t0 ?el0 ?em0 ?ek0 ?n1_0 ?n1_1 ?x1 ?r1 ?sa1 ?ty1 ?kc1 ?i1 ?t1 ?el1 ?em1 ?ek1 ?n2_0 ?x2 ?r2 ?sa2 ?ty2 ?kc2 ?i2 ?t2 ?el2 ?em2 ?ek2 ?n3_0 ?n4_0 ?n5_0 ?n6_0 ?n6_1 ?n7_0 ?n7_1 ?n8_0 ?n9_0 ?n10_0 ?n11_0 ?n12_0 ?n12_1 ?n12_2 ?n13_0 ?n13_1 ?zn_enumerate ?zn_sorted ?zn_sum ?zc_MOST_LETTERS ?zc_MOST_DEGREE ?aSMoving ?pgMoving ?hdMoving ?poMoving ?saMoving ?mkMoving ?kcMoving ?nMoving_d ?nMoving_rows ?iMovinginit ?fMovinginit ?lMovinginit ?dMovinginit ?kMovinginit ?iMovingeq ?fMovingeq ?lMovingeq ?dMovingeq ?kMovingeq ?kiMoving ?knMoving ?haMoving ?hmMoving ?hnG ?htG ?neMoving ?nfMoving ?ntMoving ?nRS ?tS ?hS ?bS ?chk ?ndp
    (case aS => k_is)
    (case a0 => k_is)
    (case a1 => k_is)
    (case a2 => k_is)
    (case a3 => k_is)
    (case a4 => k_is)
    (case a5 => k_is)
    (case a6 => k_is)
    (case a7 => k_is)
    (case a8 => k_is)
    (case a9 => k_is)
    (case a10 => k_is)
    (case a11 => k_is)
    (case a12 => k_is)
    (case a13 => k_is)
    (case a14 => k_is)
    (case a15 => k_is)
    (case g0 => k_is)
    (case g1 => k_is)
    (case g2 => k_is)
    (case g3 => k_is)
    (case g4 => k_is)
    (case g5 => k_is)
    (case g6 => k_is)
    (case g7 => k_is)
    (case g8 => k_is)
    (case g9 => k_is)
    (case g10 => k_is)
    (case g11 => k_is)
    (case g12 => k_is)
    (case g13 => k_is)
    (case g14 => k_is)
    (case g15 => k_is)
    (case g16 => k_is)
    (case g17 => k_is)
    (case g18 => k_is)
    (case g19 => k_is)
    (case g20 => k_is)
    (case g21 => k_is)
    (case g22 => k_is)
    (case g23 => k_is)
    (case g24 => k_is)
    (case g25 => k_is)
    (case g26 => k_is)
    (case g27 => k_is)
    (case g28 => k_is)
    (case g29 => k_is)
    (case g30 => k_is)
    (case g31 => k_is)
    (case g32 => k_is)
    (case g33 => k_is)
    (case g34 => k_is)
    (case g35 => k_is)
    (case g36 => k_is)
    (case g37 => k_is)
    (case z_int => k_is)
    (case z_bool => k_is)
    (case z_str => k_is)
    (case z_list => k_is)
    (case z_tuple => k_is)
    (case z_len => k_is)
    (case z_range => k_is)
    (case z_repr => k_is)
    (case z_isinstance => k_is)
    (case z_abs => k_is)
    (case z_all => k_is)
    (case z_zip => k_is)
    (case z_ValueError => k_is)
    (case z_gcd => k_is)
    (case l0 => k_is)
    (case d0 => k_is)
    (case k0 => k_is)
    (case l1 => k_is)
    (case d1 => k_is)
    (case k1 => k_is)
    (case l2 => k_is)
    (case d2 => k_is)
    (case k2 => k_is)
    (case l3 => k_is)
    (case d3 => k_is)
    (case k3 => k_is)
    (case l4 => k_is)
    (case d4 => k_is)
    (case k4 => k_is)
    (case l5 => k_is)
    (case d5 => k_is)
    (case k5 => k_is)
    (case l6 => k_is)
    (case d6 => k_is)
    (case k6 => k_is)
    (case l7 => k_is)
    (case d7 => k_is)
    (case k7 => k_is)
    (case l8 => k_is)
    (case d8 => k_is)
    (case k8 => k_is)
    (case l9 => k_is)
    (case d9 => k_is)
    (case k9 => k_is)
    (case l10 => k_is)
    (case d10 => k_is)
    (case k10 => k_is)
    (case l11 => k_is)
    (case d11 => k_is)
    (case k11 => k_is)
    (case l12 => k_is)
    (case d12 => k_is)
    (case k12 => k_is)
    (case l13 => k_is)
    (case d13 => k_is)
    (case k13 => k_is)
    (case l14 => k_is)
    (case d14 => k_is)
    (case k14 => k_is)
    (case l15 => k_is)
    (case d15 => k_is)
    (case k15 => k_is)
    (case l16 => k_is)
    (case d16 => k_is)
    (case k16 => k_is)
    (case l17 => k_is)
    (case d17 => k_is)
    (case k17 => k_is)
    (case l18 => k_is)
    (case d18 => k_is)
    (case k18 => k_is)
    (case l19 => k_is)
    (case d19 => k_is)
    (case k19 => k_is)
    (case l20 => k_is)
    (case d20 => k_is)
    (case k20 => k_is)
    (case l21 => k_is)
    (case d21 => k_is)
    (case k21 => k_is)
    (case l22 => k_is)
    (case d22 => k_is)
    (case k22 => k_is)
    (case l23 => k_is)
    (case d23 => k_is)
    (case k23 => k_is)
    (case l24 => k_is)
    (case d24 => k_is)
    (case k24 => k_is)
    (case l25 => k_is)
    (case d25 => k_is)
    (case k25 => k_is)
    (case l26 => k_is)
    (case d26 => k_is)
    (case k26 => k_is)
    (case l27 => k_is)
    (case d27 => k_is)
    (case k27 => k_is)
    (case l28 => k_is)
    (case d28 => k_is)
    (case k28 => k_is)
    (case l29 => k_is)
    (case d29 => k_is)
    (case k29 => k_is)
    (case l30 => k_is)
    (case d30 => k_is)
    (case k30 => k_is)
    (case o30 => k_is)
    (case p30 => rfl)
    (case nt30 => kernel_rfl)
    (case l31 => k_is)
    (case d31 => k_is)
    (case k31 => k_is)
    (case l32 => k_is)
    (case d32 => k_is)
    (case k32 => k_is)
    (case l33 => k_is)
    (case d33 => k_is)
    (case k33 => k_is)
    (case l34 => k_is)
    (case d34 => k_is)
    (case k34 => k_is)
    (case l35 => k_is)
    (case d35 => k_is)
    (case k35 => k_is)
    (case l36 => k_is)
    (case d36 => k_is)
    (case k36 => k_is)
    (case l37 => k_is)
    (case d37 => k_is)
    (case k37 => k_is)
    (case ntd => decide +kernel)
    (case n0_0 => k_is)
    (case n0_1 => k_is)
    (case x0 => k_is)
    (case r0 => decide +kernel)
    (case sa0 => k_is)
    (case ty0 => k_is)
    (case kc0 => k_is)
    (case i0 => k_is)
    (case t0 => k_is)
    (case el0 => k_is)
    (case em0 => k_is)
    (case ek0 => k_is)
    (case n1_0 => k_is)
    (case n1_1 => k_is)
    (case x1 => k_is)
    (case r1 => decide +kernel)
    (case sa1 => k_is)
    (case ty1 => k_is)
    (case kc1 => k_is)
    (case i1 => k_is)
    (case t1 => k_is)
    (case el1 => k_is)
    (case em1 => k_is)
    (case ek1 => k_is)
    (case n2_0 => k_is)
    (case x2 => k_is)
    (case r2 => decide +kernel)
    (case sa2 => k_is)
    (case ty2 => k_is)
    (case kc2 => k_is)
    (case i2 => k_is)
    (case t2 => k_is)
    (case el2 => k_is)
    (case em2 => k_is)
    (case ek2 => k_is)
    (case n3_0 => k_is)
    (case n4_0 => k_is)
    (case n5_0 => k_is)
    (case n6_0 => k_is)
    (case n6_1 => k_is)
    (case n7_0 => k_is)
    (case n7_1 => k_is)
    (case n8_0 => k_is)
    (case n9_0 => k_is)
    (case n10_0 => k_is)
    (case n11_0 => k_is)
    (case n12_0 => k_is)
    (case n12_1 => k_is)
    (case n12_2 => k_is)
    (case n13_0 => k_is)
    (case n13_1 => k_is)
    (case zn_enumerate => k_is)
    (case zn_sorted => k_is)
    (case zn_sum => k_is)
    (case zc_MOST_LETTERS => k_is)
    (case zc_MOST_DEGREE => k_is)
    (case aSMoving => k_is)
    (case pgMoving => k_is)
    (case hdMoving => k_is)
    (case poMoving => k_is)
    (case saMoving => k_is)
    (case mkMoving => k_is)
    (case kcMoving => k_is)
    (case nMoving_d => k_is)
    (case nMoving_rows => k_is)
    (case iMovinginit => k_is)
    (case fMovinginit => k_is)
    (case lMovinginit => k_is)
    (case dMovinginit => k_is)
    (case kMovinginit => k_is)
    (case iMovingeq => k_is)
    (case fMovingeq => k_is)
    (case lMovingeq => k_is)
    (case dMovingeq => k_is)
    (case kMovingeq => k_is)
    (case kiMoving => kernel_rfl)
    (case knMoving => kernel_rfl)
    (case haMoving => k_is)
    (case hmMoving => k_is)
    (case hnG => k_is)
    (case htG => k_is)
    (case neMoving => k_is)
    (case nfMoving => kernel_rfl)
    (case ntMoving => kernel_rfl)
    (case nRS => decide +kernel)
    (case tS => k_is)
    (case hS => k_is)
    (case bS => k_is)
    (case chk => kernel_rfl)
    (case ndp => decide +kernel)
