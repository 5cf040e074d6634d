import PyProof.Rows.All
import Wide.All
import OpenK.AllK
import Wide.FinOn
import HandS.ForExc
import HandS.ForMost
import HandS.ExcInit
import HandS.ExcIs
import HandS.ExcField
import HandS.IsInst
import HandS.HotCalls
import HandS.RaiseMore
import HandS.Gcd
import HandS.Wide
import HandS.Style
import KE.KExcIs
import PyProof.ReprLen
import HandS.EndTab
import HandS.TupAny
import HandS.Lambda
import HandS.WideBits
import HandS.Zip
import PyProof.P3Eq
import HandS.IterVal
import PyProof.InstNe
import HandS.SlotsOwn
import KE.GoesEnum
import HandS.TupMul
import HandS.Conv
import HandS.SortInts
import PySem.Challenge.RW_fracsteps_k11_whole_tables_of_stages
set_option Elab.async false
set_option linter.all false
set_option maxRecDepth 100000
set_option maxHeartbeats 4000000
/-! The layer with guards: promises of defs that may ask repr of a container; defs that are handed the caught exception. -/
namespace Lx
open PySem PySem.Spec PyProof.Rows L2
abbrev St := L2.St

/-! ### promises -/
structure FnG (P : Program) (w : World) (K : PySem.W.Frag) (mg : Str → Option Value) (base : Heap) (CX : CXT) (k : Nat)
    (f : Addr) (fd : FuncData) (ps : List Str) (sp : Sp) : Prop where
  len : ∀ vs H Q E, sp vs H Q E → vs.length = ps.length
  run : ∀ (A : Around) (outer : List Env) (s : Shared) (H : Hp) (args : Args) (us : List Value) (vs : List V) (Q : VK) (E : XK),
    Room k A → A.guards = some [] → Env0 P w K mg base A outer s H → BindsTo s fd args (ps.zip us) → Vals vs us → sp vs H Q E →
    codeAny (model P w) A (.call (.ref f) args) (CR CX outer P w H s Q E) s
theorem FnG.of {P w K mg base CX k f fd ps sp} (F : FnOk P w K mg base CX k f fd ps sp) : FnG P w K mg base CX k f fd ps sp :=
  ⟨F.len, fun A outer s H args us vs Q E hr _ e0 hb r h => F.run A outer s H args us vs Q E hr e0 hb r h⟩
theorem FnG.mono {P w K mg base CX j k f fd ps sp} (F : FnG P w K mg base CX j f fd ps sp) (h : j ≤ k) : FnG P w K mg base CX k f fd ps sp :=
  ⟨F.len, fun A outer s H args us vs Q E hr hg e0 hb r hs => F.run A outer s H args us vs Q E (hr.mono h) hg e0 hb r hs⟩
/-- a def that is handed the exception which a suite holds: p its address and object -/
structure FnE (P : Program) (w : World) (K : PySem.W.Frag) (mg : Str → Option Value) (base : Heap) (k : Nat)
    (f : Addr) (fd : FuncData) (ps : List Str) (sp : Addr × Obj → Sp) : Prop where
  len : ∀ p vs H Q E, sp p vs H Q E → vs.length = ps.length
  run : ∀ (A : Around) (outer : List Env) (s : Shared) (H : Hp) (args : Args) (us : List Value) (vs : List V) (Q : VK) (E : XK) (p : Addr × Obj),
    L2H.RoomH k A → A.guards = some [] → L2H.PinOk outer H s p → Env0 P w K mg base A outer s H → BindsTo s fd args (ps.zip us) → Vals vs us → sp p vs H Q E →
    codeAny (model P w) A (.call (.ref f) args) (CR CX0 outer P w H s Q E) s

theorem deeper_guards (A : Around) (env : Env) : (A.deeper env).guards = A.guards := rfl

section
variable {P : Program} {w : World} {K : PySem.W.Frag} {mg : Str → Option Value} {base : Heap} {CX : CXT}
def outV : Flow → Value
  | .ret v => v
  | _ => .none
theorem fin_cr {X : Cx} {outer : List Env} {H : Hp} {s s' : Shared} {Q : VK} {E : XK} {fl : Flow} (e1 : X.prog = P) (e2 : X.w = w) (e3 : X.outer = outer) (e4 : X.H_0 = H) (e5 : X.s_0 = s) (e6 : X.ex = [])
    (hs : SP X [] { nx := fun _ H' => Q .non H', rt := Q } fl s') : CR CX outer P w H s Q E (.ok (.ret (outV fl))) s' := by
  subst e1 e2 e3 e4 e5
  have go : ∀ {σ' : L2.St} {H' : Hp} {v : V} {u : Value}, Inv X [] σ' H' s' → RelV v u → Q v H' → CE X.outer X.prog X.w X.H_0 X.s_0 Q u s' := fun {σ' H' v u} J rv q => by
    have b := J.base
    rw [e6] at b
    exact ⟨v, H', J.os, J.bare, b, J.hok, rv, q⟩
  cases fl with
  | ret u => obtain ⟨v, σ', H', J, rv, q⟩ := hs; exact go J rv q
  | next => obtain ⟨σ', H', J, q⟩ := hs; exact go (v := V.non) (u := Value.none) J rfl q
  | brk => obtain ⟨_, _, _, q⟩ := hs; exact False.elim q
  | cont => obtain ⟨_, _, _, q⟩ := hs; exact False.elim q

/-- a def by its body, the guards told -/
theorem okG {x qual : Str} {st : Stmt} {f : Addr} {fd : FuncData} {N ps : List Str} {k : Nat} {sp : Sp} (F : Fun K x qual st f fd) (S : FnScope N ps (defScope st))
    (len : ∀ vs H Q E, sp vs H Q E → vs.length = ps.length)
    (hbody : ∀ (cdv : Value) (A : Around) (outer : List Env) (s : Shared) (H : Hp) (vs : List V) (Q : VK) (E : XK), Room k (A.deeper (envOfC qual (defScope st) s.heap.objs.size f cdv)) →
      (A.deeper (envOfC qual (defScope st) s.heap.objs.size f cdv)).guards = some [] → sp vs H Q E →
      ∃ t, PSs (cxOf CX P w K mg base N qual (defScope st) f cdv A outer s H E) (defBody st) t ∧ t { nx := fun _ H' => Q .non H', rt := Q } (start N vs) H) :
    FnG P w K mg base CX (k + 1) f fd ps sp := by
  obtain ⟨oc, od, kV, doc, pm, an, cdv, ct, osl, rfl, lk, hcd⟩ := F.ex
  refine ⟨len, fun A outer s H args us vs Q E hr hgd e0 hb r hsp => ?_⟩
  have hl := len _ _ _ _ hsp
  have inK : K.In s.heap := e0.mod.kin.keeps fun b o e => (e0.bs b o e).1
  have kinds : ∀ y ∈ ps.zip us, (defScope st).names.lookup y.1 = some .local ∨ ((defScope st).names.lookup y.1 = some .cell ∧ ((cellsFrom (s.heap.objs.size + 1) (defScope st).names []).lookup y.1).isSome = true) := by
    rintro ⟨n, v⟩ hy
    rcases S.par n (List.of_mem_zip hy).1 with q | q
    · exact .inl q
    · exact .inr ⟨q, PySem.W.cellsFrom_some _ _ _ (.inl q)⟩
  refine codeAny_call_function hr.depth (inK _ _ lk) rfl S.co S.gen rfl (PySem.W.codeRec_of inK hcd) (hb _ _ _ _ (wpAny_newFunctionEnv_cells S.kind kinds fun env he s1 x => ?_))
  subst he
  refine ⟨(e0.mod.nolimit.keeps fun b o e => (e0.bs b o e).1).keeps x.toInCall.keep, codeAny_func ?_⟩
  obtain ⟨t, ht, hq⟩ := hbody cdv A outer s H vs Q E (hr.deeper _) hgd hsp
  exact wpAny_mono (ht.run [] s1 (start N vs) H _ (inv_start (CX := CX) (E := E) S hr.hd e0 hl r x) hq) (fun fl s' hs => by cases fl <;> exact fin_cr rfl rfl rfl rfl rfl rfl hs) fun e s' hs => hs
/-- a def that is handed the exception -/
theorem okE {x qual : Str} {st : Stmt} {f : Addr} {fd : FuncData} {N ps : List Str} {k : Nat} {sp : Addr × Obj → Sp} (F : Fun K x qual st f fd) (S : FnScope N ps (defScope st))
    (len : ∀ p vs H Q E, sp p vs H Q E → vs.length = ps.length)
    (hbody : ∀ (cdv : Value) (A : Around) (outer : List Env) (s : Shared) (H : Hp) (vs : List V) (Q : VK) (E : XK) (p : Addr × Obj), L2H.RoomH k (A.deeper (envOfC qual (defScope st) s.heap.objs.size f cdv)) →
      (A.deeper (envOfC qual (defScope st) s.heap.objs.size f cdv)).guards = some [] → sp p vs H Q E →
      ∃ t, PSs (L2H.cxH CX0 P w K mg base N qual (defScope st) f cdv A outer s H E p).nox (defBody st) t ∧ t { nx := fun _ H' => Q .non H', rt := Q } (start N vs) H) :
    FnE P w K mg base (k + 1) f fd ps sp := by
  obtain ⟨oc, od, kV, doc, pm, an, cdv, ct, osl, rfl, lk, hcd⟩ := F.ex
  refine ⟨len, fun A outer s H args us vs Q E p hr hgd hpin e0 hb r hsp => ?_⟩
  have hl := len _ _ _ _ _ hsp
  have inK : K.In s.heap := e0.mod.kin.keeps fun b o e => (e0.bs b o e).1
  have kinds : ∀ y ∈ ps.zip us, (defScope st).names.lookup y.1 = some .local ∨ ((defScope st).names.lookup y.1 = some .cell ∧ ((cellsFrom (s.heap.objs.size + 1) (defScope st).names []).lookup y.1).isSome = true) := by
    rintro ⟨n, v⟩ hy
    rcases S.par n (List.of_mem_zip hy).1 with q | q
    · exact .inl q
    · exact .inr ⟨q, PySem.W.cellsFrom_some _ _ _ (.inl q)⟩
  refine codeAny_call_function hr.depth (inK _ _ lk) rfl S.co S.gen rfl (PySem.W.codeRec_of inK hcd) (hb _ _ _ _ (wpAny_newFunctionEnv_cells S.kind kinds fun env he s1 x => ?_))
  subst he
  refine ⟨(e0.mod.nolimit.keeps fun b o e => (e0.bs b o e).1).keeps x.toInCall.keep, codeAny_func ?_⟩
  obtain ⟨t, ht, hq⟩ := hbody cdv A outer s H vs Q E p (hr.deeper _) hgd hsp
  exact wpAny_mono (ht.nox.run [] s1 (start N vs) H _ (L2H.inv_startH (CX := CX0) (E := E) S hpin e0 hl r x) hq) (fun fl s' hs => by cases fl <;> exact fin_cr rfl rfl rfl rfl rfl rfl hs) fun e s' hs => hs
end

/-! ### calls -/
section
variable {X : Cx} {CX : CXT} {k : Nat} {f : Addr} {fd : FuncData} {ps : List Str} {sp : Sp} {E : L2.St → XK} {x : Str} {q pos : Pos} {e : Expr} {es : List Expr} {t : TA}
theorem run_fnG {pins : List (Addr × Obj)} {σ : L2.St} {H : Hp} {s : Shared} {Q : VK} {us : List Value} {vs : List V} (F : FnG X.prog X.w X.K X.mg X.base CX k f fd ps sp) (hr : Room k X.A) (hg : X.A.guards = some [])
    (hb : Binds X.K fd ps []) (hx : PassesAt CX X σ (E σ)) (I : Inv X pins σ H s) (r : Vals vs us) (h : sp vs H Q (E σ)) : wpAny (model X.prog X.w) X.A (call (.ref f) us) (EP X pins σ Q) X.xe s := by
  have b := hb s us I.kIn (by rw [List.append_nil, ← r.length]; exact F.len _ _ _ _ h)
  rw [List.append_nil] at b
  refine wpAny_call (codeAny_mono (F.run X.A X.stack s H ⟨us, []⟩ us vs Q (E σ) hr hg I.env0 b r h) fun r s' hq => ?_)
  cases r with
  | error e => exact hx pins H s e s' I hq
  | ok fl => cases fl with
    | ret u => exact I.after hq
    | _ => exact False.elim hq
theorem pe_callG (F : FnG X.prog X.w X.K X.mg X.base CX k f fd ps sp) (hr : Room k X.A) (hgd : X.A.guards = some []) (hg : Gl X x) (hm : X.mg x = some (.ref f)) (hk : PySem.W.keepIn X.K (.ref f) = true) (hb : Binds X.K fd ps [])
    (hx : ∀ σ, PassesAt CX X σ (E σ)) (ha : PA X (e :: es) t) (hdb : (x == ("__debug__" : Str)) = false := by decide) (he : starEach (e :: es) X.env = (false, eval e X.env) :: starEach es X.env := by rfl)
    (hpl : (backTo pos (starEach es X.env)).any (·.1) = false := by rfl) : PE X (.Call (.Name x q) (e :: es) [] pos) (tCallS sp E t) :=
  ⟨fun pins s σ H Q I h => wpAny_Call_Name_kw (ld_glob I hg hm (PySem.W.callWith_K (h₀ := X.base) I.ok.mod.kin hk
    (thn (ha.run pos pins s σ H _ I h) fun us s1 ⟨vs, H1, I1, r, q⟩ => ⟨I1.kIn, run_fnG F hr hgd hb (hx σ) I1 r q⟩) he hpl) hdb)⟩
theorem pe_callG0 (F : FnG X.prog X.w X.K X.mg X.base CX k f fd [] sp) (hr : Room k X.A) (hgd : X.A.guards = some []) (hg : Gl X x) (hm : X.mg x = some (.ref f)) (hk : PySem.W.keepIn X.K (.ref f) = true) (hb : Binds X.K fd [] [])
    (hx : ∀ σ, PassesAt CX X σ (E σ)) (hdb : (x == ("__debug__" : Str)) = false := by decide) : PE X (.Call (.Name x q) [] [] pos) (tCallS sp E tNil) :=
  ⟨fun pins s σ H Q I h => wpAny_Call_Name_kw (ld_glob I hg hm (PySem.W.callWith_K0 I.kIn hk (run_fnG (us := []) F hr hgd hb (hx σ) I .nil h)) hdb)⟩
theorem at0 {X : Cx} {σ : L2.St} : PassesAt CX0 X σ E0 := fun _ _ _ _ _ _ h => h.elim
abbrev noE : L2.St → XK := fun _ => E0
/-- the call of a def that is handed the exception at p: the promise from what is said at the arguments -/
def tCallR (R : List V → Hp → VK → Prop) (t : TA) : TE := fun σ H Q => t σ H fun vs H1 => R vs H1 Q
theorem pe_callR {p : Addr × Obj} {spE : Addr × Obj → Sp} {R : List V → Hp → VK → Prop} (hR : ∀ vs H Q, R vs H Q → spE p vs H Q E0) (F : FnE X.prog X.w X.K X.mg X.base k f fd ps spE) (hr : L2H.RoomH k X.A) (hgd : X.A.guards = some []) (hp : p ∈ X.pn) (hg : Gl X x) (hm : X.mg x = some (.ref f))
    (hk : PySem.W.keepIn X.K (.ref f) = true) (hb : Binds X.K fd ps []) (ha : PA X (e :: es) t) (hdb : (x == ("__debug__" : Str)) = false := by decide)
    (he : starEach (e :: es) X.env = (false, eval e X.env) :: starEach es X.env := by rfl) (hpl : (backTo pos (starEach es X.env)).any (·.1) = false := by rfl) :
    PE X (.Call (.Name x q) (e :: es) [] pos) (tCallR R t) := by
  refine ⟨fun pins s σ H Q I h => wpAny_Call_Name_kw (ld_glob I hg hm (PySem.W.callWith_K (h₀ := X.base) I.ok.mod.kin hk
    (thn (ha.run pos pins s σ H _ I h) fun us s1 ⟨vs, H1, I1, r, q⟩ => ⟨I1.kIn, ?_⟩) he hpl) hdb)⟩
  have q2 := hR _ _ _ q
  have b := hb s1 us I1.kIn (by rw [List.append_nil, ← r.length]; exact F.len _ _ _ _ _ q2)
  rw [List.append_nil] at b
  obtain ⟨g1, g2, g3, g4, g5⟩ := I1.pin p (List.mem_append_left _ hp)
  have hpin : L2H.PinOk X.stack H1 s1 p := ⟨g1, g2, fun hm => (List.mem_cons.mp (I1.stkSub p.1 hm)).elim g3 g4, g5⟩
  show wpAny _ _ (call (.ref f) us) _ _ _
  refine wpAny_call (codeAny_mono (F.run X.A X.stack s1 H1 ⟨us, []⟩ us vs Q E0 p hr hgd hpin I1.env0 b r q2) fun r s' hq => ?_)
  cases r with
  | error e => exact False.elim hq
  | ok fl => cases fl with
    | ret u => exact I1.after hq
    | _ => exact False.elim hq
end
end Lx
namespace Lx
open PySem PySem.Spec PyProof.Rows L2

/-! ### the end of a law -/
theorem out_true {P : Program} {w : World} {H : Hp} {s s' : Shared} {a : Addr} {ob : Obj} {xs : List V} (hO : ∀ b, H b = none ∨ H b = some (.frz ob (.lst xs))) (hok : HOk P w H s.heap)
    {u : Value} (h : CE [] P w H s (fun v _ => v = .bl true) u s') : u = .bool true ∧ OldK s.heap s'.heap ∧ s'.os = s.os ∧ AllBare s'.gens := by
  obtain ⟨v, H', os, bare, un, hok', r, q⟩ := h
  have q' : v = .bl true := q
  subst q'
  refine ⟨r, OldK.of_keep fun b o e => ?_, os, bare⟩
  have nf : ∀ {b : Addr}, b ∉ frs [] := fun z => absurd (show _ ∈ ([] : List Addr) from z) (by simp)
  rcases hO b with z | z
  · exact un.keep b o e z nf (by simp)
  · have y1 : s.heap.get? b = some ob := (show ObjOk P w H s.heap b (.frz ob (.lst xs)) from hok b _ z).1
    have y2 : s'.heap.get? b = some ob := (show ObjOk P w H' s'.heap b (.frz ob (.lst xs)) from hok' b _ (un.frzs b ob _ z)).1
    rw [y1] at e
    rw [y2, ← e]

theorem law_callG {P : Program} {w : World} {K : PySem.W.Frag} {mg mb : Str → Option Value} {k : Nat} {fa a : Addr} {fd : FuncData} {x : Str} {sp : Sp} {s₁ : Shared} {vs : List Value} {ns : List Int}
    (KX : K.In s₁.heap) (hns : s₁.heap.Ns mainGlobals mg) (hb : s₁.heap.Ns builtinsNs mb) (hbb : ∀ x : Str, x ≠ "__name__" → mb x = bootBuiltins x) (hlim : s₁.heap.NoLimit) (hg : s₁.gens = #[])
    (ha : s₁.heap.get? a = some { cls := .type "list", data := .seq vs.toArray }) (hi : IntsAre vs ns) (hl : ns.length ≤ sizeLine) (hr : Room k callerA)
    (F : ∀ base : Heap, K.In base → base.Ns mainGlobals mg → FnG P w K mg base CX0 k fa fd [x] sp) (hbind : ∀ (s : Shared) (u : Value), BindsTo s fd ⟨[u], []⟩ [(x, u)])
    (hsp : ∀ H : Hp, Only H → SqL K H a (ns.map V.int) → sp [.ref a] H (fun v _ => v = .bl true) E0) :
    codeAny (model P w) callerA (.call (.ref fa) ⟨[.ref a], []⟩) (fun r s' => r = .ok (.ret (.bool true)) ∧ OldK s₁.heap s'.heap ∧ s'.os = s₁.os ∧ AllBare s'.gens) s₁ := by
  have rv := vals_ints hi
  have lv := hi.length
  obtain ⟨ob, hob⟩ : ∃ ob : Obj, ob = { cls := .type "list", data := .seq vs.toArray } := ⟨_, rfl⟩
  -- H tracks at most the script, at a
  have go : ∀ H : Hp, (∀ b, H b = none ∨ (b = a ∧ H b = some (.frz ob (.lst (ns.map V.int))))) → SqL K H a (ns.map V.int) → (H a ≠ none → K.lookup a = none) →
      codeAny (model P w) callerA (.call (.ref fa) ⟨[.ref a], []⟩) (fun r s' => r = .ok (.ret (.bool true)) ∧ OldK s₁.heap s'.heap ∧ s'.os = s₁.os ∧ AllBare s'.gens) s₁ := by
    intro H hH hS hK
    have isA : ∀ {b : Addr}, H b ≠ none → b = a := fun {b} n => (hH b).elim (fun z => absurd z n) fun z => z.1
    have hok : HOk P w H s₁.heap := fun b u q => by
      rcases hH b with z | ⟨z, z2⟩
      · rw [z] at q; cases q
      · subst z
        rw [z2] at q
        cases q
        exact ⟨by rw [hob]; exact ha, by rw [List.length_map]; exact hl, vs, _, rv, ha⟩
    have dictFree : ∀ {b : Addr} {o : Obj} {es : Array DictEntry} {ep : Nat}, s₁.heap.get? b = some o → o.data = .dict es ep → H b = none := fun {b o es ep} e d => by
      cases q : H b with
      | none => rfl
      | some u =>
        have z : b = a := isA (by rw [q]; simp)
        rw [z, ha] at e
        cases e
        cases d
    have toB : ∀ {b : Addr} {m : Str → Option Value}, s₁.heap.Ns b m → (hidT s₁.heap H).Ns b m := fun {b m} ⟨o, es, ep, e, d, r⟩ => ⟨o, es, ep, hidT_get e (dictFree e d), d, r⟩
    have inB : K.In (hidT s₁.heap H) := fun b o e => hidT_get (KX b o e) (by
      cases q : H b with
      | none => rfl
      | some u =>
        have z := isA (b := b) (by rw [q]; simp)
        rw [z, hK (by rw [← z, q]; simp)] at e
        cases e)
    have md : Mod K mg (hidT s₁.heap H) := ⟨inB, toB hns, ⟨mb, toB hb, hbb⟩, hlim.imp fun mc z => ⟨toB z.1, z.2⟩⟩
    have e0 : Env0 P w K mg (hidT s₁.heap H) callerA [] s₁ H := ⟨rfl, md, fun b o e => of_hidT e, Nat.le_of_eq (hidT_size _ _), trivial, fun b hb => absurd (show b ∈ ([] : List Addr) from hb) (by simp), hok, .of_eq hg⟩
    have on : Only H := fun b => (hH b).imp id fun z => ⟨ob, _, z.2⟩
    refine codeAny_mono ((F _ inB (toB hns)).run callerA [] s₁ H ⟨[.ref a], []⟩ [.ref a] [.ref a] _ _ hr rfl e0 (hbind s₁ (.ref a)) (.cons rfl .nil) (hsp H on hS)) fun r s' h => ?_
    cases r with
    | error e => exact False.elim h
    | ok fl => cases fl with
      | ret u =>
        obtain ⟨e1, e2⟩ := out_true (a := a) (fun b => (hH b).imp id fun z => z.2) hok h
        exact ⟨by rw [e1], e2⟩
      | _ => exact False.elim h
  cases hk : K.lookup a with
  | some o =>
    have e := KX a o hk
    rw [ha] at e
    cases e
    exact go (fun _ => none) (fun _ => .inl rfl) (.inr ⟨_, vs.toArray, _, hk, rfl, rfl, rfl, by rw [List.size_toArray, lv]; exact hl, by simpa using rv⟩) fun z => absurd rfl z
  | none =>
    refine go (fun b => if b = a then some (.frz ob (.lst (ns.map V.int))) else none) (fun b => ?_) (.inl (.inr ⟨ob, if_pos rfl⟩)) fun _ => hk
    by_cases hb : b = a
    · exact .inr ⟨hb, if_pos hb⟩
    · exact .inl (if_neg hb)

/-- what k_head leaves, from the law's promise with guards -/
theorem walk_ofG {l : PySem.W.OpenLaw} {n k : Nat} {q : Program} {loose : List Str} {XP : (Str → Option Value) → Heap → Prop} {YP : World → Heap → Prop} {d : DefRec} {K : Params → PySem.W.Frag} {sp : PySem.W.Frag → Sp} {x : Str}
    (hn : l.most = some n) (hn2 : n ≤ sizeLine) (hdf : d.params.defaults = []) (hr : Room k callerA)
    (hY : ∀ (w : World) (h : Heap), YP w h → (K w.params).In h)
    (F : ∀ (w : World) (mg : Str → Option Value) (fa : Addr) (h : Heap), (K w.params).In h → h.Ns mainGlobals mg → mg d.name = some (.ref fa) →
      ∃ fd : FuncData, (∀ (s : Shared) (u : Value), BindsTo s fd ⟨[u], []⟩ [(x, u)]) ∧
        ∀ base : Heap, (K w.params).In base → base.Ns mainGlobals mg → FnG l.prog w (K w.params) mg base CX0 k fa fd [x] (sp (K w.params)))
    (hsp : ∀ (K : PySem.W.Frag) (H : Hp) (a : Addr) (ns : List Int), ns.length ≤ n → Only H → SqL K H a (ns.map V.int) → sp K [.ref a] H (fun v _ => v = .bl true) E0) :
    PySem.W.WalkO q loose XP YP l.row.toRowW d [] (fun f vs => PySem.call f vs) := by
  refine Att.attach_call hn hdf fun w s₀ s₁ mg mb fa o pm cd doc a vs ns G Y ho hd hcd hmg hobj hints hlen hg => ?_
  obtain ⟨fd, hb, hF⟩ := F w mg fa _ (hY w _ Y) G.T.g hmg
  exact law_callG (hY w _ Y) G.T.g G.T.b G.T.builtins G.T.nolimit hg hobj hints (Nat.le_trans hlen hn2) hr hF hb fun H hO hS => hsp (K w.params) H a ns hlen hO hS

/-! ### data, with its dicts -/
def kD : Key → PyData
  | .inl i => .int i
  | .inr x => .str x
mutual
inductive Rp (H : Hp) : V → PyData → Prop
  | non : Rp H .non .none
  | bl (b : Bool) : Rp H (.bl b) (.bool b)
  | int (i : Int) : Rp H (.int i) (.int i)
  | str (x : Str) : Rp H (.str x) (.str x)
  | lst {a : Addr} {xs : List V} {ds : List PyData} : H a = some (.lst xs) → a ≠ sysModules → RpAll H xs ds → Rp H (.ref a) (.list ds)
  | tup {a : Addr} {xs : List V} {ds : List PyData} : H a = some (.tup xs) → RpAll H xs ds → Rp H (.ref a) (.tuple ds)
  | dct {a : Addr} {kvs : List (Key × V)} {ds : List (PyData × PyData)} : H a = some (.dK kvs) → ds.map (·.1) = kvs.map (fun p => kD p.1) → RpAll H (kvs.map (·.2)) (ds.map (·.2)) → Rp H (.ref a) (.dict ds)
inductive RpAll (H : Hp) : List V → List PyData → Prop
  | nil : RpAll H [] []
  | cons {v : V} {vs : List V} {d : PyData} {ds : List PyData} : Rp H v d → RpAll H vs ds → RpAll H (v :: vs) (d :: ds)
end
mutual
theorem Rp.same {H H' : Hp} (k : Same H H') : ∀ {v : V} {d : PyData}, Rp H v d → Rp H' v d
  | _, _, .non => .non
  | _, _, .bl b => .bl b
  | _, _, .int i => .int i
  | _, _, .str x => .str x
  | _, _, .lst e n r => .lst (k _ _ e) n (RpAll.same k r)
  | _, _, .tup e r => .tup (k _ _ e) (RpAll.same k r)
  | _, _, .dct e q r => .dct (k _ _ e) q (RpAll.same k r)
theorem RpAll.same {H H' : Hp} (k : Same H H') : ∀ {vs : List V} {ds : List PyData}, RpAll H vs ds → RpAll H' vs ds
  | _, _, .nil => .nil
  | _, _, .cons a b => .cons (Rp.same k a) (RpAll.same k b)
end
theorem keys_read {P : Program} {w : World} {h : Heap} : ∀ {es : List DictEntry} {vs : List (Key × Value)}, Pairs (mixKind P w) es vs → ReadsAll h (es.map (·.key)) (vs.map fun p => kD p.1) []
  | _, _, .nil => .nil
  | _, _, .cons (e := e) (kv := kv) hk hv hr => by
    have r : Reads h e.key (kD kv.1) [] := by
      rcases keyIs_shape hk with ⟨i, t, e1, e2⟩ | ⟨x, t, e1, e2⟩
      · rw [e1, e2]; exact .int i t
      · rw [e1, e2]; exact .str x t
    exact ReadsAll.cons (as := []) (bs := []) r (keys_read hr)
theorem vals_of_pairs {P : Program} {w : World} : ∀ {es : List DictEntry} {vs : List (Key × Value)}, Pairs (mixKind P w) es vs → es.map (·.val) = vs.map (·.2)
  | _, _, .nil => rfl
  | _, _, .cons hk hv hr => by rw [List.map_cons, List.map_cons, hv, vals_of_pairs hr]
theorem kv_keys : ∀ {kvs : List (Key × V)} {vs : List (Key × Value)}, KV kvs vs → vs.map (fun p => kD p.1) = kvs.map (fun p => kD p.1)
  | _, _, .nil => rfl
  | _, _, .cons a b => by rw [List.map_cons, List.map_cons, a.1, kv_keys b]
theorem kv_vals : ∀ {kvs : List (Key × V)} {vs : List (Key × Value)}, KV kvs vs → Vals (kvs.map (·.2)) (vs.map (·.2))
  | _, _, .nil => .nil
  | _, _, .cons a b => .cons a.2 (kv_vals b)
section
variable {X : Cx} {pins : List (Addr × Obj)} {σ : L2.St} {H : Hp} {s : Shared}
mutual
theorem Rp.reads (I : Inv X pins σ H s) : ∀ {v : V} {d : PyData}, Rp H v d → ∀ {u : Value}, RelV v u → ∃ as, Reads s.heap u d as ∧ sysModules ∉ as
  | _, _, .non, _, r => by cases r; exact ⟨_, .none, by simp⟩
  | _, _, .bl b, _, r => by cases r; exact ⟨_, .bool b, by simp⟩
  | _, _, .int i, _, r => by obtain ⟨t, rfl⟩ := r; exact ⟨_, .int i t, by simp⟩
  | _, _, .str x, _, r => by obtain ⟨t, rfl⟩ := r; exact ⟨_, .str x t, by simp⟩
  | _, _, @Rp.lst _ a xs ds e n h, _, r => by
    cases r
    obtain ⟨its, rv, ⟨o, c, ho, hc, _, hd⟩, _⟩ := I.list (.inl (.inl e))
    obtain ⟨as, q1, q2⟩ := RpAll.reads I h rv
    exact ⟨_, .list ho hc hd q1, fun z => (List.mem_cons.mp z).elim (fun y => n y.symm) q2⟩
  | _, _, @Rp.tup _ a xs ds e h, _, r => by
    cases r
    obtain ⟨its, rv, ⟨o, ho, hc, c, hd⟩, _⟩ := I.tuple (.inl (.inl e))
    obtain ⟨as, q1, q2⟩ := RpAll.reads I h rv
    exact ⟨_, .tuple ho hc hd q1, q2⟩
  | _, _, @Rp.dct _ a kvs ds e hk h, _, r => by
    cases r
    obtain ⟨_, hs, vs, kv, o, es, ep, ho, hx, hd, _, hp, _⟩ := (show ObjOk X.prog X.w H s.heap a (.dK kvs) from I.hok a _ e)
    obtain ⟨as, q1, q2⟩ := RpAll.reads I h (kv_vals kv)
    have e1 : ReadsAll s.heap (es.toList.map (·.key)) (ds.map (·.1)) [] := by
      rw [hk, ← kv_keys kv]
      exact keys_read hp
    have e2 : ReadsAll s.heap (es.toList.map (·.val)) (ds.map (·.2)) as := by
      rw [vals_of_pairs hp]
      exact q1
    refine ⟨_, .dict ho hx.1 hd e1 e2, fun z => ?_⟩
    rcases List.mem_cons.mp z with y | y
    · rw [← y] at hs
      simp at hs
    · exact q2 (by simpa using y)
theorem RpAll.reads (I : Inv X pins σ H s) : ∀ {vs : List V} {ds : List PyData}, RpAll H vs ds → ∀ {us : List Value}, Vals vs us → ∃ as, ReadsAll s.heap us ds as ∧ sysModules ∉ as
  | _, _, .nil, _, r => by cases r; exact ⟨_, .nil, by simp⟩
  | _, _, .cons h1 h2, _, r => by
    cases r with
    | cons r1 r2 =>
      obtain ⟨as, q1, n1⟩ := Rp.reads I h1 r1
      obtain ⟨bs, q2, n2⟩ := RpAll.reads I h2 r2
      exact ⟨_, .cons q1 q2, fun z => (List.mem_append.mp z).elim n1 n2⟩
end
end
/-- repr(x), x data -/
def rRepr : List V → Hp → VK → Prop := fun xs H Q => ∃ (v : V) (d : PyData), xs = [v] ∧ Rp H v d ∧ d.showable = true ∧ d.depth ≤ 64 ∧ d.shown.length ≤ sizeLine ∧ Q (.str d.shown) H
theorem call_repr {X : Cx} (hg : X.A.guards = some []) (hu : X.A.units + 65 < cLine) : CallR X (.builtin "repr") rRepr := by
  intro pins s σ H xs us Q I r h
  obtain ⟨v, d, rfl, hr, hs, hd, hz, q⟩ := h
  cases r with
  | cons r1 rr =>
    cases rr
    rename_i u
    have fin : ∀ {t : Tok} {s' : Shared}, Inv X pins σ H s' → EP X pins σ Q (.str d.shown t) s' := fun {t s'} J => ⟨.str d.shown, H, J, ⟨t, rfl⟩, q⟩
    obtain ⟨as, rd, nm⟩ := hr.reads I r1
    cases hr with
    | non =>
      cases r1
      exact PySem.P.repr_of_none (by simpa [PyData.shown] using fin (I.tok _))
    | bl b =>
      cases r1
      exact PySem.P.repr_of_bool (by simpa [PyData.shown] using fin (I.tok _))
    | int i =>
      obtain ⟨t, rfl⟩ := r1
      refine PySem.P.repr_of_int (by simpa [PyData.showable] using hs) (by simpa [PyData.shown] using fin (I.tok _))
    | str x =>
      obtain ⟨t, rfl⟩ := r1
      refine PySem.P.repr_of_str (by simpa [PyData.shown] using fin (I.tok _)) (by simpa [PyData.shown] using hz)
    | lst e n hh =>
      cases r1
      exact repr_of_reads' rd hs (fun _ => nm) hg (by omega) (fun _ _ e => e) (fun h' u tk hk => fin (I.kept hk)) hz
    | tup e hh =>
      cases r1
      exact repr_of_reads' rd hs (fun _ => nm) hg (by omega) (fun _ _ e => e) (fun h' u tk hk => fin (I.kept hk)) hz
    | dct e hk hh =>
      cases r1
      exact repr_of_reads' rd hs (fun _ => nm) hg (by omega) (fun _ _ e => e) (fun h' u tk hk => fin (I.kept hk)) hz
end Lx
namespace Lx
open PySem PySem.Spec PyProof.Rows L2
/-! ### exceptions of the program's classes -/
/-- what is asked of an exception class, for isinstance and fields -/
structure XcF (K : PySem.W.Frag) (C : Addr) : Prop where
  ga : PySem.W.findIn K (.ref C) "__getattribute__" = some (some (.builtin "BaseException.__getattribute__"))
  gg : PySem.W.findIn K (.ref C) "__getattr__" = some none
  ex : PySem.W.subIn K (.ref C) (.type "BaseException") = some true
  hd : PySem.W.hasDictIn K C = true
  cl : PySem.W.findIn K (.ref C) "__class__" = some (some (.builtin "object.__class__"))
  ob : PySem.W.mroIn K C (.type "object") = some true
  sp : PySem.W.specialIn K (.builtin "object.__class__") "__get__" = some (some (.builtin "getset_descriptor.__get__"))
  tk : PySem.W.takesIn K (.builtin "object.__class__") = some true
/-- the exception at p is of the class at C, its fields fs -/
def ExcAt (H : Hp) (p : Addr × Obj) (C : Addr) (fs : List (Str × V)) : Prop :=
  p.2.cls = .ref C ∧ (∃ vs, p.2.data = .fields vs) ∧ ((p.2.dict = none ∧ fs = []) ∨ ∃ d, p.2.dict = some d ∧ H d = some (.xd fs))
theorem ExcAt.same {H H' : Hp} {p : Addr × Obj} {C : Addr} {fs : List (Str × V)} (h : ExcAt H p C fs) (k : Same H H') : ExcAt H' p C fs :=
  ⟨h.1, h.2.1, h.2.2.imp id fun ⟨d, e, q⟩ => ⟨d, e, k _ _ q⟩⟩
section
variable {X : Cx} {pins : List (Addr × Obj)} {σ : L2.St} {H : Hp} {s : Shared} {p : Addr × Obj} {C : Addr} {fs : List (Str × V)}
theorem ExcAt.inst (I : Inv X pins σ H s) (hp : p ∈ X.pn) (h : ExcAt H p C fs) : ∃ od, PySem.W.InstAt s.heap p.1 p.2 C od ∧ ∀ f v, fs.lookup f = some v → ∃ o, od = some o ∧ ∃ u, PySem.W.lookIn f o = some (some u) ∧ RelV v u := by
  obtain ⟨hc, ⟨vs, hv⟩, hd⟩ := h
  have hget := (I.pin p (List.mem_append_left _ hp)).1
  have hn : PySem.W.notCls p.2 = true := by unfold PySem.W.notCls; rw [hv] <;> rfl
  rcases hd with ⟨e, ef⟩ | ⟨d, e, q⟩
  · refine ⟨none, ⟨hget, hc, hn, by rw [e]; trivial⟩, fun f v hl => ?_⟩
    rw [ef] at hl
    cases hl
  · obtain ⟨mA, hns, hr⟩ := (show ObjOk X.prog X.w H s.heap d (.xd fs) from I.hok d _ q)
    obtain ⟨od, ho, hl⟩ := lookIn_ns hns
    refine ⟨some od, ⟨hget, hc, hn, by rw [e]; exact ho⟩, fun f v h2 => ⟨od, rfl, ?_⟩⟩
    obtain ⟨u, hu, ru⟩ := RelO.some_of (v := v) (o := mA f) (by rw [← h2]; exact hr f)
    exact ⟨u, by rw [hl, hu], ru⟩
/-- isinstance(e, c), e the exception at p -/
def rIsP (K : PySem.W.Frag) (p : Addr × Obj) : List V → Hp → VK → Prop := fun xs H Q => ∃ (c : V) (cv : Value) (b : Bool) (C : Addr) (fs : List (Str × V)),
  xs = [.ref p.1, c] ∧ (∀ u, RelV c u → u = cv) ∧ ExcAt H p C fs ∧ XcF K C ∧ PySem.W.kitOne K (.ref C) cv = some b ∧ Q (.bl b) H
theorem call_isP (hp : p ∈ X.pn) : CallR X (.builtin "isinstance") (rIsP X.K p) := by
  intro pins s σ H xs us Q I r h
  obtain ⟨c, cv, b, C, fs, rfl, hcv, he, T, e, q⟩ := h
  cases r with
  | cons rx rr =>
    cases rr with
    | cons rt rr =>
      cases rr
      cases rx
      have ec := hcv _ rt
      subst ec
      obtain ⟨od, J, _⟩ := he.inst I hp
      obtain ⟨cd, hcd, _⟩ := PySem.W.any_some T.hd
      exact PySem.W.kia_one (PySem.W.kitx_exc (od := od) (by rw [hcd]; rfl) T.ga T.gg T.ex T.cl T.sp T.tk T.ob) I.kIn J e (fun z => nomatch z) fun tk => ⟨.bl b, H, I.kept (t' := tk) fun _ _ z => z, rfl, q⟩
/-- e.n, e the exception at p -/
def tFldP (K : PySem.W.Frag) (p : Addr × Obj) (n : Str) (te : TE) : TE := fun σ H Q => te σ H fun x H1 => x = .ref p.1 ∧ ∃ (C : Addr) (fs : List (Str × V)) (v : V),
  ExcAt H1 p C fs ∧ XcF K C ∧ PySem.W.findIn K (.ref C) n = some none ∧ fs.lookup n = some v ∧ Q v H1
theorem pe_fldP {e : Expr} {te : TE} {pos : Pos} {n : Str} (hp : p ∈ X.pn) (he : PE X e te) (hb : attributeBase e n X.env (eval e X.env) = eval e X.env := by rfl) : PE X (.Attribute e n pos) (tFldP X.K p n te) := by
  refine ⟨fun pins s σ H Q I h => attr_of hb (thn (he.run pins s σ H _ I h) fun u s1 hh => ?_)⟩
  obtain ⟨x, H1, I1, rx, ex, C, fs, v, ea, T, hno, hl, q⟩ := hh
  subst ex
  obtain rfl : u = Value.ref p.1 := rx
  obtain ⟨od, J, hf⟩ := ea.inst I1 hp
  obtain ⟨o, rfl, u, hu, ru⟩ := hf n v hl
  exact HandSPX.exc_get I1.kIn J T.ga T.gg T.ex (PySem.W.findObj_own T.hd hno rfl hu) (handed_of ru) ⟨v, H1, I1.tok _, ru, q⟩
/-- a list display, its place no module's table -/
def tLstN (t : TA) : TE := fun σ H Q => t σ H fun xs H1 => xs.length ≤ sizeLine ∧ ∀ p, H1 p = none → p ≠ sysModules → Q (.ref p) (upd H1 p (.lst xs))
theorem big_of (I : Inv X pins σ H s) : sysModules < s.heap.objs.size := by
  obtain ⟨o, _, _, e, _⟩ := I.ok.mod.glob
  have h1 : mainGlobals < X.base.objs.size := Heap.lt_size e
  have h2 := Nat.le_trans I.ok.bsz I.sz
  exact Nat.lt_of_lt_of_le (Nat.lt_trans (by decide : sysModules < mainGlobals) h1) h2
theorem pe_lstN {es : List Expr} {t : TA} {pos : Pos} (h : PA X es t) : PE X (.List es pos) (tLstN t) := by
  refine ⟨fun pins s σ H Q I hq => wpAny_List_spliced (thn (h.run pos pins s σ H _ I hq) fun us s1 ⟨xs, H1, I1, r, z, q⟩ => ⟨by rw [← r.length]; exact z, ?_⟩)⟩
  have new : H1 s1.heap.objs.size = none := I1.hok.fresh (Nat.le_refl _)
  have ok : ObjOk X.prog X.w (upd H1 s1.heap.objs.size (.lst xs)) (s1.heap.push { cls := .type "list", data := .seq us.toArray }) s1.heap.objs.size (.lst xs) := ⟨z, us, 0, r, Heap.get?_push_size _ rfl⟩
  exact ⟨.ref s1.heap.objs.size, _, I1.laid (t' := s1.toks) (fun b u e => Heap.get?_push_of_some _ e) (Nat.le_refl _) ok, rfl, q _ new fun z => Nat.lt_irrefl _ (z ▸ big_of I1)⟩
end
/-- classes by the written part, as one look -/
def xcB (K : PySem.W.Frag) (C : Addr) : Bool :=
  decide (PySem.W.findIn K (.ref C) "__getattribute__" = some (some (.builtin "BaseException.__getattribute__"))) && decide (PySem.W.findIn K (.ref C) "__getattr__" = some none) &&
  decide (PySem.W.subIn K (.ref C) (.type "BaseException") = some true) && PySem.W.hasDictIn K C && decide (PySem.W.findIn K (.ref C) "__class__" = some (some (.builtin "object.__class__"))) &&
  decide (PySem.W.mroIn K C (.type "object") = some true) && decide (PySem.W.specialIn K (.builtin "object.__class__") "__get__" = some (some (.builtin "getset_descriptor.__get__"))) && decide (PySem.W.takesIn K (.builtin "object.__class__") = some true)
theorem xcB_ok {K : PySem.W.Frag} {C : Addr} (h : xcB K C = true) : XcF K C := by
  unfold xcB at h
  simp only [Bool.and_eq_true, decide_eq_true_eq] at h
  obtain ⟨⟨⟨⟨⟨⟨⟨h1, h2⟩, h3⟩, h4⟩, h5⟩, h6⟩, h7⟩, h8⟩ := h
  exact ⟨h1, h2, h3, h4, h5, h6, h7, h8⟩
end Lx
namespace Lx
open PySem PySem.Spec PyProof.Rows L2
/-! ### a def of the program by its name -/
/-- the def st stands under its name x -/
def Has (K : PySem.W.Frag) (mg : Str → Option Value) (x : Str) (st : Stmt) : Prop := ∃ f fd, Fun K x x st f fd ∧ mg x = some (.ref f)
/-- it keeps the promise sp -/
structure Keeps (P : Program) (w : World) (K : PySem.W.Frag) (mg : Str → Option Value) (base : Heap) (CX : CXT) (k : Nat) (x : Str) (ps : List Str) (sp : Sp) : Prop where
  ex : ∃ f fd, FnG P w K mg base CX k f fd ps sp ∧ mg x = some (.ref f) ∧ PySem.W.keepIn K (.ref f) = true ∧ Binds K fd ps []
structure KeepsE (P : Program) (w : World) (K : PySem.W.Frag) (mg : Str → Option Value) (base : Heap) (k : Nat) (x : Str) (ps : List Str) (sp : Addr × Obj → Sp) : Prop where
  ex : ∃ f fd, FnE P w K mg base k f fd ps sp ∧ mg x = some (.ref f) ∧ PySem.W.keepIn K (.ref f) = true ∧ Binds K fd ps []
/-- how a def without defaults binds -/
def BindsBy (x : Str) (st : Stmt) (ps : List Str) : Prop := ∀ (kV doc pm : Value) (an : Option Addr) (cdv ct : Value) (us : List Value), us.length = ps.length →
  bindArgs (PySem.W.fnOf x x (defArgs st) (defBody st) (defScope st) .none kV doc pm an cdv ct) ⟨us, []⟩ = pure (ps.zip us)
section
variable {P : Program} {w : World} {K : PySem.W.Frag} {mg : Str → Option Value} {base : Heap} {CX : CXT} {x : Str} {st : Stmt} {N ps : List Str} {k : Nat} {sp : Sp}
theorem keep0 (F : Has K mg x st) (b : BindsBy x st ps) (S : FnScope N ps (defScope st)) (len : ∀ vs H Q E, sp vs H Q E → vs.length = ps.length)
    (hbody : ∀ (f : Addr) (cdv : Value) (A : Around) (outer : List Env) (s : Shared) (H : Hp) (vs : List V) (Q : VK) (E : XK), Room k (A.deeper (envOfC x (defScope st) s.heap.objs.size f cdv)) →
      (A.deeper (envOfC x (defScope st) s.heap.objs.size f cdv)).guards = some [] → sp vs H Q E →
      ∃ t, PSs (cxOf CX0 P w K mg base N x (defScope st) f cdv A outer s H E).nox (defBody st) t ∧ t { nx := fun _ H' => Q .non H', rt := Q } (start N vs) H) :
    Keeps P w K mg base CX0 (k + 1) x ps sp := by
  obtain ⟨f, fd, F, hm⟩ := F
  refine ⟨f, fd, okG F S len fun cdv A outer s H vs Q E hr hg h => ?_, hm, F.kp, F.binds b⟩
  obtain ⟨t, h1, h2⟩ := hbody f cdv A outer s H vs Q E hr hg h
  exact ⟨t, h1.nox, h2⟩
theorem keepX (F : Has K mg x st) (b : BindsBy x st ps) (S : FnScope N ps (defScope st)) (len : ∀ vs H Q E, sp vs H Q E → vs.length = ps.length)
    (hbody : ∀ (f : Addr) (cdv : Value) (A : Around) (outer : List Env) (s : Shared) (H : Hp) (vs : List V) (Q : VK) (E : XK), Room k (A.deeper (envOfC x (defScope st) s.heap.objs.size f cdv)) →
      (A.deeper (envOfC x (defScope st) s.heap.objs.size f cdv)).guards = some [] → sp vs H Q E →
      ∃ t, PSs (cxOf (L2.CX P w) P w K mg base N x (defScope st) f cdv A outer s H E) (defBody st) t ∧ t { nx := fun _ H' => Q .non H', rt := Q } (start N vs) H) :
    Keeps P w K mg base (L2.CX P w) (k + 1) x ps sp := by
  obtain ⟨f, fd, F, hm⟩ := F
  exact ⟨f, fd, okG F S len fun cdv A outer s H vs Q E hr hg h => hbody f cdv A outer s H vs Q E hr hg h, hm, F.kp, F.binds b⟩
theorem keepE {sp : Addr × Obj → Sp} (F : Has K mg x st) (b : BindsBy x st ps) (S : FnScope N ps (defScope st)) (len : ∀ p vs H Q E, sp p vs H Q E → vs.length = ps.length)
    (hbody : ∀ (f : Addr) (cdv : Value) (A : Around) (outer : List Env) (s : Shared) (H : Hp) (vs : List V) (Q : VK) (E : XK) (p : Addr × Obj), L2H.RoomH k (A.deeper (envOfC x (defScope st) s.heap.objs.size f cdv)) →
      (A.deeper (envOfC x (defScope st) s.heap.objs.size f cdv)).guards = some [] → sp p vs H Q E →
      ∃ t, PSs (L2H.cxH CX0 P w K mg base N x (defScope st) f cdv A outer s H E p).nox (defBody st) t ∧ t { nx := fun _ H' => Q .non H', rt := Q } (start N vs) H) :
    KeepsE P w K mg base (k + 1) x ps sp := by
  obtain ⟨f, fd, F, hm⟩ := F
  exact ⟨f, fd, okE F S len fun cdv A outer s H vs Q E p hr hg h => hbody f cdv A outer s H vs Q E p hr hg h, hm, F.kp, F.binds b⟩
theorem Keeps.mono {j : Nat} (D : Keeps P w K mg base CX j x ps sp) (h : j ≤ k) : Keeps P w K mg base CX k x ps sp := by
  obtain ⟨f, fd, F, r⟩ := D.ex
  exact ⟨f, fd, F.mono h, r⟩
end
section
variable {X : Cx} {CX : CXT} {j k : Nat} {x : Str} {ps : List Str} {sp : Sp} {q pos : Pos} {e : Expr} {es : List Expr} {t : TA}
/-- f(e, ..), f a def that raises nothing -/
theorem pc0 (D : Keeps X.prog X.w X.K X.mg X.base CX0 j x ps sp) (hr : Room k X.A) (hg : X.A.guards = some []) (ha : PA X (e :: es) t) (hjk : j ≤ k := by decide) (hgl : Gl X x := by rfl)
    (hdb : (x == ("__debug__" : Str)) = false := by decide) (he : starEach (e :: es) X.env = (false, eval e X.env) :: starEach es X.env := by rfl)
    (hpl : (backTo pos (starEach es X.env)).any (·.1) = false := by rfl) : PE X (.Call (.Name x q) (e :: es) [] pos) (tCallS sp noE t) := by
  obtain ⟨f, fd, F, hm, hk, hb⟩ := D.ex
  exact pe_callG F (hr.mono hjk) hg hgl hm hk hb (fun _ => at0) ha hdb he hpl
theorem pc00 (D : Keeps X.prog X.w X.K X.mg X.base CX0 j x [] sp) (hr : Room k X.A) (hg : X.A.guards = some []) (hjk : j ≤ k := by decide) (hgl : Gl X x := by rfl)
    (hdb : (x == ("__debug__" : Str)) = false := by decide) : PE X (.Call (.Name x q) [] [] pos) (tCallS sp noE tNil) := by
  obtain ⟨f, fd, F, hm, hk, hb⟩ := D.ex
  exact pe_callG0 F (hr.mono hjk) hg hgl hm hk hb (fun _ => at0) hdb
/-- f(e, ..), f a def that may raise -/
theorem pcX {W : WX} (D : Keeps X.prog X.w X.K X.mg X.base (L2.CX X.prog X.w) j x ps sp) (hr : Room k X.A) (hg : X.A.guards = some []) (tk : Takes X W) (ha : PA X (e :: es) t) (hjk : j ≤ k := by decide) (hgl : Gl X x := by rfl)
    (hdb : (x == ("__debug__" : Str)) = false := by decide) (he : starEach (e :: es) X.env = (false, eval e X.env) :: starEach es X.env := by rfl)
    (hpl : (backTo pos (starEach es X.env)).any (·.1) = false := by rfl) : PE X (.Call (.Name x q) (e :: es) [] pos) (tCallS sp (WE W) t) := by
  obtain ⟨f, fd, F, hm, hk, hb⟩ := D.ex
  exact pe_callG F (hr.mono hjk) hg hgl hm hk hb (fun σ => passAt tk σ) ha hdb he hpl
/-- f(e, ..), f a def that is handed the exception at p -/
theorem pcE {p : Addr × Obj} {sp : Addr × Obj → Sp} (D : KeepsE X.prog X.w X.K X.mg X.base j x ps sp) (hr : L2H.RoomH k X.A) (hg : X.A.guards = some []) (hp : p ∈ X.pn) (ha : PA X (e :: es) t) (hjk : j ≤ k := by decide) (hgl : Gl X x := by rfl)
    (hdb : (x == ("__debug__" : Str)) = false := by decide) (he : starEach (e :: es) X.env = (false, eval e X.env) :: starEach es X.env := by rfl)
    (hpl : (backTo pos (starEach es X.env)).any (·.1) = false := by rfl) : PE X (.Call (.Name x q) (e :: es) [] pos) (tCallR (fun vs H Q => sp p vs H Q E0) t) := by
  obtain ⟨f, fd, F, hm, hk, hb⟩ := D.ex
  exact pe_callR (fun _ _ _ h => h) F (hr.mono hjk) hg hp hgl hm hk hb ha hdb he hpl
/-- the same within the suite that holds the exception at a, of the class cls, its dict d -/
def callA (sp : Addr × Obj → Sp) (a : Addr) (cls : Value) (d : Option Addr) : List V → Hp → VK → Prop := fun vs H Q => ∀ oe : Obj, Zc cls d oe → (∃ fv, oe.data = .fields fv) → sp (a, oe) vs H Q E0
theorem pcA {a : Addr} {oe : Obj} {cls : Value} {d : Option Addr} {sp : Addr × Obj → Sp} (D : KeepsE X.prog X.w X.K X.mg X.base j x ps sp) (hr : L2H.RoomH k X.A) (hg : X.A.guards = some []) (hp : (a, oe) ∈ X.pn) (hz : Zc cls d oe) (hf : ∃ fv, oe.data = .fields fv) (ha : PA X (e :: es) t)
    (hjk : j ≤ k := by decide) (hgl : Gl X x := by rfl) (hdb : (x == ("__debug__" : Str)) = false := by decide) (he : starEach (e :: es) X.env = (false, eval e X.env) :: starEach es X.env := by rfl)
    (hpl : (backTo pos (starEach es X.env)).any (·.1) = false := by rfl) : PE X (.Call (.Name x q) (e :: es) [] pos) (tCallR (callA sp a cls d) t) := by
  obtain ⟨f, fd, F, hm, hk, hb⟩ := D.ex
  exact pe_callR (fun _ _ _ h => h oe hz hf) F (hr.mono hjk) hg hp hgl hm hk hb ha hdb he hpl
end
/-! ### the source of all draws -/
def penL (l : Addr) (a d c f : Int) : List (Key × V) := [(.inr "cells", .ref l), (.inr "at", .int a), (.inr "digits", .int d), (.inr "count", .int c), (.inr "fold", .int f)]
section
variable {l : Addr} {a d c f x : Int} {H : Hp} {p : Addr}
theorem get_cells : valV (penL l a d c f) (.inr "cells") = some (.ref l) := by rfl
theorem get_at : valV (penL l a d c f) (.inr "at") = some (.int a) := by rfl
theorem get_digits : valV (penL l a d c f) (.inr "digits") = some (.int d) := by rfl
theorem get_count : valV (penL l a d c f) (.inr "count") = some (.int c) := by rfl
theorem get_fold : valV (penL l a d c f) (.inr "fold") = some (.int f) := by rfl
theorem put_at : putK (penL l a d c f) (.inr "at") (.int x) = penL l x d c f := by rfl
theorem put_digits : putK (penL l a d c f) (.inr "digits") (.int x) = penL l a x c f := by rfl
theorem put_count : putK (penL l a d c f) (.inr "count") (.int x) = penL l a d x f := by rfl
theorem put_fold : putK (penL l a d c f) (.inr "fold") (.int x) = penL l a d c x := by rfl
/-- at p a source of draws, its cells at l -/
def PenAt (H : Hp) (p l : Addr) (ns : List Int) (a d c f : Int) : Prop := H p = some (.dK (penL l a d c f)) ∧ H l = some (.lst (ns.map V.int)) ∧ 0 ≤ a ∧ 0 ≤ d ∧ 0 ≤ c ∧ 0 ≤ f ∧ f < 2147483648
def PenOk (H : Hp) (p : Addr) : Prop := ∃ l ns a d c f, PenAt H p l ns a d c f
/-- all but what stands at p is as it was -/
def SameBut (p : Addr) (H H' : Hp) : Prop := ∀ b o, b ≠ p → H b = some o → H' b = some o
theorem SameBut.trans {p : Addr} {H H1 H2 : Hp} (a : SameBut p H H1) (b : SameBut p H1 H2) : SameBut p H H2 := fun c o n h => b c o n (a c o n h)
theorem SameBut.of {p : Addr} {H H1 : Hp} (a : Same H H1) : SameBut p H H1 := fun c o _ h => a c o h
theorem SameBut.upd {p : Addr} {H : Hp} {o : HO} : SameBut p H (upd H p o) := fun b u n h => by rw [upd_ne n]; exact h
theorem PenAt.ne {H : Hp} {p l : Addr} {ns : List Int} {a d c f : Int} (h : PenAt H p l ns a d c f) : l ≠ p := fun z => by
  have e := h.2.1
  rw [z, h.1] at e
  cases e
theorem getP {kv : List (Key × V)} (k : Str) {v : V} (h : H p = some (.dK kv)) (e : valV kv (.inr k) = some v) : DGet H p (.str k) (some v) := .inl ⟨kv, .inr k, .inl h, rfl, e.symm⟩
theorem putP {kv kv' : List (Key × V)} (k : Str) {v : V} (h : H p = some (.dK kv)) (e : putK kv (.inr k) v = kv') (hl : kv.length < sizeLine) : DPut H p (.str k) v (upd H p (.dK kv')) := .inl ⟨kv, .inr k, h, rfl, hl, by rw [e]⟩
end
theorem pen_small {l : Addr} {a d c f : Int} : (penL l a d c f).length < sizeLine := by show 5 < sizeLine; decide
/-- _law_draw(pen, many) -/
def spDraw : Sp := fun vs H Q _ => ∃ (p : Addr) (m : Int), vs = [.ref p, .int m] ∧ PenOk H p ∧ 0 < m ∧ m < 1073741824 ∧
  ∀ (r : Int) (H' : Hp), 0 ≤ r → r < m → PenOk H' p → SameBut p H H' → (∀ b, H b = none → H' b = none) → Q (.int r) H'
/-- _law_pen(script) -/
def spPen (K : PySem.W.Frag) : Sp := fun vs H Q _ => ∃ (a : Addr) (ns : List Int), vs = [.ref a] ∧ SqL K H a (ns.map V.int) ∧
  ∀ (p : Addr) (H' : Hp), Same H H' → H p = none → PenOk H' p → Q (.ref p) H'
/-- _law_pick(pen, some) -/
def spPick : Sp := fun vs H Q _ => ∃ (p q : Addr) (xs : List V), vs = [.ref p, .ref q] ∧ PenOk H p ∧ H q = some (.lst xs) ∧ 0 < xs.length ∧ xs.length ≤ 1000 ∧ q ≠ p ∧
  ∀ (v : V) (H' : Hp), v ∈ xs → PenOk H' p → SameBut p H H' → Q v H'
end Lx
namespace Lx
open PySem PySem.Spec PyProof.Rows L2
/-! ### built-ins, their readings named -/
def rInt : List V → Hp → VK → Prop := fun xs H Q => (∃ i, xs = [.int i] ∧ Q (.int i) H) ∨ ∃ k, xs = [.bl k] ∧ Q (.int (if k then 1 else 0)) H
theorem c_int {X : Cx} : CallR X (.type "int") rInt := call_int1
def rLenK (K : PySem.W.Frag) : List V → Hp → VK → Prop := fun xs H Q => ∃ p ys, xs = [.ref p] ∧ (SqL K H p ys ∨ SqT K H p ys) ∧ Q (.int ys.length) H
theorem c_len {X : Cx} : CallR X (.builtin "len") (rLenK X.K) := call_len_seq
def rListK (K : PySem.W.Frag) : List V → Hp → VK → Prop := fun xs H Q => ∃ p ys, xs = [.ref p] ∧ (SqL K H p ys ∨ SqT K H p ys) ∧ ∀ l, H l = none → Q (.ref l) (upd H l (.lst ys))
theorem c_list {X : Cx} : CallR X (.type "list") (rListK X.K) := call_list_of
def rIsN : R2 := fun x y H Q => y = .non ∧ Q (.bl (decide (x = .non))) H
theorem o_isN {X : Cx} : OpR X (compareOp .Is) rIsN := op_isN
def rNotN : R2 := fun x y H Q => y = .non ∧ Q (.bl (!decide (x = .non))) H
theorem o_notN {X : Cx} : OpR X (compareOp .IsNot) rNotN := op_notN
/-! ### readings, a step each -/
section
variable {D : Ends} {σ : L2.St} {H : Hp} {t u : TS} {te ta tb : TE} {tc td : TT} {g : TG} {i : Nat} {v x y : V} {Q : VK} {K : PySem.W.Frag}
theorem rr_seq (h : t { D with nx := u D } σ H) : tSeq t u D σ H := h
/-- what follows is shown once, for all states that come there -/
theorem rr_seqJ {α : Type} (C : α → Prop) (S : α → L2.St) (G : α → Hp) (h2 : ∀ z, C z → u D (S z) (G z)) (h1 : (∀ z, C z → u D (S z) (G z)) → t { D with nx := u D } σ H) : tSeq t u D σ H := h1 h2
theorem rr_next (h : D.nx σ H) : tNext D σ H := h
theorem rr_asg (h : te σ H fun x H1 => g x σ H1 D.nx) : tAsg te g D σ H := h
theorem rr_name {R : L2.St → Hp → Prop} (h : R (σ.set i (some v)) H) : gName i v σ H R := h
theorem rr_drop (h : te σ H fun _ H1 => D.nx σ H1) : tDrop te D σ H := h
theorem rr_ret (h : te σ H D.rt) : tRet te D σ H := h
theorem rr_retN (h : D.rt .non H) : tRetN D σ H := h
theorem rr_ifs (h : tc σ H fun b H1 => if b = true then t D σ H1 else u D σ H1) : tIfS tc t u D σ H := h
theorem rr_if (h : tc σ H fun b H1 => if b = true then ta σ H1 Q else tb σ H1 Q) : tIf tc ta tb σ H Q := h
theorem rr_test {R : Bool → Hp → Prop} (h : te σ H fun x H1 => ∃ k, x = .bl k ∧ R k H1) : tTest te σ H R := h
theorem rr_tB {R : Bool → Hp → Prop} (h : te σ H fun x H1 => ∃ k, x = .bl k ∧ R k H1) : tB te σ H R := h
theorem rr_bl {b : Bool} {R : Bool → Prop} (h : R b) : ∃ k, V.bl b = .bl k ∧ R k := ⟨b, rfl, h⟩
theorem rr_and {R : Bool → Hp → Prop} (h : tc σ H fun c H1 => if c = true then td σ H1 R else R false H1) : tAnd tc td σ H R := h
theorem rr_or {R : Bool → Hp → Prop} (h : tc σ H fun c H1 => if c = true then R true H1 else td σ H1 R) : tOr tc td σ H R := h
theorem rr_not {R : Bool → Hp → Prop} (h : tc σ H fun c H1 => R (!c) H1) : tNot tc σ H R := h
theorem rr_var (e : σ[i]? = some (some v)) (h : Q v H) : tVar i σ H Q := ⟨v, e, h⟩
theorem rr_c (h : Q v H) : tC v σ H Q := h
theorem rr_op {r : R2} (h : ta σ H fun x H1 => tb σ H1 fun y H2 => r x y H2 Q) : tOp r ta tb σ H Q := h
theorem rr_un {r : V → Hp → VK → Prop} (h : ta σ H fun x H1 => r x H1 Q) : tUn r ta σ H Q := h
theorem rr_i0 {f : Int → Int → V} {a b : Int} (h : Q (f a b) H) : rI0 f (.int a) (.int b) H Q := ⟨a, b, rfl, rfl, h⟩
theorem rr_i {C : Int → Int → Prop} {f : Int → Int → V} {a b : Int} (c : C a b) (h : Q (f a b) H) : rI C f (.int a) (.int b) H Q := ⟨a, b, rfl, rfl, c, h⟩
theorem rr_eq (c : scal x y = true) (h : Q (.bl (decide (x = y))) H) : rEq x y H Q := ⟨c, h⟩
theorem rr_ne (c : scal x y = true) (h : Q (.bl (!decide (x = y))) H) : rNe x y H Q := ⟨c, h⟩
theorem rr_eqi {a b : Int} (h : Q (.bl (decide (a = b))) H) : rEq (.int a) (.int b) H Q := ⟨rfl, by
  have e : decide (V.int a = V.int b) = decide (a = b) := by
    by_cases z : a = b
    · rw [decide_eq_true z, decide_eq_true (congrArg V.int z)]
    · rw [decide_eq_false z, decide_eq_false fun q => z (V.int.inj q)]
  rw [e]
  exact h⟩
theorem rr_nei {a b : Int} (h : Q (.bl (!decide (a = b))) H) : rNe (.int a) (.int b) H Q := ⟨rfl, by
  have e : decide (V.int a = V.int b) = decide (a = b) := by
    by_cases z : a = b
    · rw [decide_eq_true z, decide_eq_true (congrArg V.int z)]
    · rw [decide_eq_false z, decide_eq_false fun q => z (V.int.inj q)]
  rw [e]
  exact h⟩
theorem rr_cons {ts : TA} {R : List V → Hp → Prop} (h : ta σ H fun x H1 => ts σ H1 fun xs H2 => R (x :: xs) H2) : tCons ta ts σ H R := h
theorem rr_nil {R : List V → Hp → Prop} (h : R [] H) : tNil σ H R := h
theorem rr_cb {ts : TA} {r : List V → Hp → VK → Prop} (h : ts σ H fun vs H1 => r vs H1 Q) : tCB r ts σ H Q := h
theorem rr_call {ts : TA} {sp : Sp} {E : L2.St → XK} (h : ts σ H fun vs H1 => sp vs H1 Q (E σ)) : tCallS sp E ts σ H Q := h
theorem rr_tup {ts : TA} (h : ts σ H fun xs H1 => xs.length ≤ sizeLine ∧ ∀ p, H1 p = none → Q (.ref p) (upd H1 p (.tup xs))) : tTup ts σ H Q := h
theorem rr_lst {ts : TA} (h : ts σ H fun xs H1 => xs.length ≤ sizeLine ∧ ∀ p, H1 p = none → Q (.ref p) (upd H1 p (.lst xs))) : tLst ts σ H Q := h
theorem rr_lstN {ts : TA} (h : ts σ H fun xs H1 => xs.length ≤ sizeLine ∧ ∀ p, H1 p = none → p ≠ sysModules → Q (.ref p) (upd H1 p (.lst xs))) : tLstN ts σ H Q := h
theorem rr_dget (h : ta σ H fun x H1 => tb σ H1 fun y H2 => ∃ a v, x = .ref a ∧ DGet H2 a y (some v) ∧ Q v H2) : tDGet ta tb σ H Q := h
theorem rr_dput (h : te σ H fun v H1 => ta σ H1 fun x H2 => tb σ H2 fun y H3 => ∃ a H4, x = .ref a ∧ DPut H3 a y v H4 ∧ D.nx σ H4) : sDPut ta tb te D σ H := h
theorem rr_bm {T : String} {r : V → List V → Hp → VK → Prop} {ts : TA} (h : ta σ H fun x H1 => tyV K T x H1 ∧ ts σ H1 fun xs H2 => r x xs H2 Q) : tBM K T r ta ts σ H Q := h
theorem rr_isN (h : Q (.bl (decide (x = .non))) H) : rIsN x .non H Q := ⟨rfl, h⟩
theorem rr_notN (h : Q (.bl (!decide (x = .non))) H) : rNotN x .non H Q := ⟨rfl, h⟩
theorem rr_v0 {r : List (Option V)} (h : Q v H) : tVar 0 (some v :: r) H Q := ⟨v, rfl, h⟩
theorem rr_n0 {z : Option V} {r : List (Option V)} {R : L2.St → Hp → Prop} (h : R (some v :: r) H) : gName 0 v (z :: r) H R := h
theorem rr_v1 {a0 : Option V} {r : List (Option V)} (h : Q v H) : tVar 1 (a0 :: some v :: r) H Q := ⟨v, rfl, h⟩
theorem rr_n1 {a0 : Option V} {z : Option V} {r : List (Option V)} {R : L2.St → Hp → Prop} (h : R (a0 :: some v :: r) H) : gName 1 v (a0 :: z :: r) H R := h
theorem rr_v2 {a0 a1 : Option V} {r : List (Option V)} (h : Q v H) : tVar 2 (a0 :: a1 :: some v :: r) H Q := ⟨v, rfl, h⟩
theorem rr_n2 {a0 a1 : Option V} {z : Option V} {r : List (Option V)} {R : L2.St → Hp → Prop} (h : R (a0 :: a1 :: some v :: r) H) : gName 2 v (a0 :: a1 :: z :: r) H R := h
theorem rr_v3 {a0 a1 a2 : Option V} {r : List (Option V)} (h : Q v H) : tVar 3 (a0 :: a1 :: a2 :: some v :: r) H Q := ⟨v, rfl, h⟩
theorem rr_n3 {a0 a1 a2 : Option V} {z : Option V} {r : List (Option V)} {R : L2.St → Hp → Prop} (h : R (a0 :: a1 :: a2 :: some v :: r) H) : gName 3 v (a0 :: a1 :: a2 :: z :: r) H R := h
theorem rr_v4 {a0 a1 a2 a3 : Option V} {r : List (Option V)} (h : Q v H) : tVar 4 (a0 :: a1 :: a2 :: a3 :: some v :: r) H Q := ⟨v, rfl, h⟩
theorem rr_n4 {a0 a1 a2 a3 : Option V} {z : Option V} {r : List (Option V)} {R : L2.St → Hp → Prop} (h : R (a0 :: a1 :: a2 :: a3 :: some v :: r) H) : gName 4 v (a0 :: a1 :: a2 :: a3 :: z :: r) H R := h
theorem rr_v5 {a0 a1 a2 a3 a4 : Option V} {r : List (Option V)} (h : Q v H) : tVar 5 (a0 :: a1 :: a2 :: a3 :: a4 :: some v :: r) H Q := ⟨v, rfl, h⟩
theorem rr_n5 {a0 a1 a2 a3 a4 : Option V} {z : Option V} {r : List (Option V)} {R : L2.St → Hp → Prop} (h : R (a0 :: a1 :: a2 :: a3 :: a4 :: some v :: r) H) : gName 5 v (a0 :: a1 :: a2 :: a3 :: a4 :: z :: r) H R := h
theorem rr_v6 {a0 a1 a2 a3 a4 a5 : Option V} {r : List (Option V)} (h : Q v H) : tVar 6 (a0 :: a1 :: a2 :: a3 :: a4 :: a5 :: some v :: r) H Q := ⟨v, rfl, h⟩
theorem rr_n6 {a0 a1 a2 a3 a4 a5 : Option V} {z : Option V} {r : List (Option V)} {R : L2.St → Hp → Prop} (h : R (a0 :: a1 :: a2 :: a3 :: a4 :: a5 :: some v :: r) H) : gName 6 v (a0 :: a1 :: a2 :: a3 :: a4 :: a5 :: z :: r) H R := h
theorem rr_v7 {a0 a1 a2 a3 a4 a5 a6 : Option V} {r : List (Option V)} (h : Q v H) : tVar 7 (a0 :: a1 :: a2 :: a3 :: a4 :: a5 :: a6 :: some v :: r) H Q := ⟨v, rfl, h⟩
theorem rr_n7 {a0 a1 a2 a3 a4 a5 a6 : Option V} {z : Option V} {r : List (Option V)} {R : L2.St → Hp → Prop} (h : R (a0 :: a1 :: a2 :: a3 :: a4 :: a5 :: a6 :: some v :: r) H) : gName 7 v (a0 :: a1 :: a2 :: a3 :: a4 :: a5 :: a6 :: z :: r) H R := h
theorem rr_v8 {a0 a1 a2 a3 a4 a5 a6 a7 : Option V} {r : List (Option V)} (h : Q v H) : tVar 8 (a0 :: a1 :: a2 :: a3 :: a4 :: a5 :: a6 :: a7 :: some v :: r) H Q := ⟨v, rfl, h⟩
theorem rr_n8 {a0 a1 a2 a3 a4 a5 a6 a7 : Option V} {z : Option V} {r : List (Option V)} {R : L2.St → Hp → Prop} (h : R (a0 :: a1 :: a2 :: a3 :: a4 :: a5 :: a6 :: a7 :: some v :: r) H) : gName 8 v (a0 :: a1 :: a2 :: a3 :: a4 :: a5 :: a6 :: a7 :: z :: r) H R := h
theorem rr_v9 {a0 a1 a2 a3 a4 a5 a6 a7 a8 : Option V} {r : List (Option V)} (h : Q v H) : tVar 9 (a0 :: a1 :: a2 :: a3 :: a4 :: a5 :: a6 :: a7 :: a8 :: some v :: r) H Q := ⟨v, rfl, h⟩
theorem rr_n9 {a0 a1 a2 a3 a4 a5 a6 a7 a8 : Option V} {z : Option V} {r : List (Option V)} {R : L2.St → Hp → Prop} (h : R (a0 :: a1 :: a2 :: a3 :: a4 :: a5 :: a6 :: a7 :: a8 :: some v :: r) H) : gName 9 v (a0 :: a1 :: a2 :: a3 :: a4 :: a5 :: a6 :: a7 :: a8 :: z :: r) H R := h
theorem rr_v10 {a0 a1 a2 a3 a4 a5 a6 a7 a8 a9 : Option V} {r : List (Option V)} (h : Q v H) : tVar 10 (a0 :: a1 :: a2 :: a3 :: a4 :: a5 :: a6 :: a7 :: a8 :: a9 :: some v :: r) H Q := ⟨v, rfl, h⟩
theorem rr_n10 {a0 a1 a2 a3 a4 a5 a6 a7 a8 a9 : Option V} {z : Option V} {r : List (Option V)} {R : L2.St → Hp → Prop} (h : R (a0 :: a1 :: a2 :: a3 :: a4 :: a5 :: a6 :: a7 :: a8 :: a9 :: some v :: r) H) : gName 10 v (a0 :: a1 :: a2 :: a3 :: a4 :: a5 :: a6 :: a7 :: a8 :: a9 :: z :: r) H R := h
theorem rr_v11 {a0 a1 a2 a3 a4 a5 a6 a7 a8 a9 a10 : Option V} {r : List (Option V)} (h : Q v H) : tVar 11 (a0 :: a1 :: a2 :: a3 :: a4 :: a5 :: a6 :: a7 :: a8 :: a9 :: a10 :: some v :: r) H Q := ⟨v, rfl, h⟩
theorem rr_n11 {a0 a1 a2 a3 a4 a5 a6 a7 a8 a9 a10 : Option V} {z : Option V} {r : List (Option V)} {R : L2.St → Hp → Prop} (h : R (a0 :: a1 :: a2 :: a3 :: a4 :: a5 :: a6 :: a7 :: a8 :: a9 :: a10 :: some v :: r) H) : gName 11 v (a0 :: a1 :: a2 :: a3 :: a4 :: a5 :: a6 :: a7 :: a8 :: a9 :: a10 :: z :: r) H R := h
theorem rr_v12 {a0 a1 a2 a3 a4 a5 a6 a7 a8 a9 a10 a11 : Option V} {r : List (Option V)} (h : Q v H) : tVar 12 (a0 :: a1 :: a2 :: a3 :: a4 :: a5 :: a6 :: a7 :: a8 :: a9 :: a10 :: a11 :: some v :: r) H Q := ⟨v, rfl, h⟩
theorem rr_n12 {a0 a1 a2 a3 a4 a5 a6 a7 a8 a9 a10 a11 : Option V} {z : Option V} {r : List (Option V)} {R : L2.St → Hp → Prop} (h : R (a0 :: a1 :: a2 :: a3 :: a4 :: a5 :: a6 :: a7 :: a8 :: a9 :: a10 :: a11 :: some v :: r) H) : gName 12 v (a0 :: a1 :: a2 :: a3 :: a4 :: a5 :: a6 :: a7 :: a8 :: a9 :: a10 :: a11 :: z :: r) H R := h
theorem rr_v13 {a0 a1 a2 a3 a4 a5 a6 a7 a8 a9 a10 a11 a12 : Option V} {r : List (Option V)} (h : Q v H) : tVar 13 (a0 :: a1 :: a2 :: a3 :: a4 :: a5 :: a6 :: a7 :: a8 :: a9 :: a10 :: a11 :: a12 :: some v :: r) H Q := ⟨v, rfl, h⟩
theorem rr_n13 {a0 a1 a2 a3 a4 a5 a6 a7 a8 a9 a10 a11 a12 : Option V} {z : Option V} {r : List (Option V)} {R : L2.St → Hp → Prop} (h : R (a0 :: a1 :: a2 :: a3 :: a4 :: a5 :: a6 :: a7 :: a8 :: a9 :: a10 :: a11 :: a12 :: some v :: r) H) : gName 13 v (a0 :: a1 :: a2 :: a3 :: a4 :: a5 :: a6 :: a7 :: a8 :: a9 :: a10 :: a11 :: a12 :: z :: r) H R := h
theorem rr_int {a : Int} (h : Q (.int a) H) : rInt [.int a] H Q := .inl ⟨a, rfl, h⟩
theorem rr_len {p : Addr} {xs : List V} (h1 : SqL K H p xs) (h : Q (.int xs.length) H) : rLenK K [.ref p] H Q := ⟨p, xs, rfl, .inl h1, h⟩
theorem rr_lenT {p : Addr} {xs : List V} (h1 : SqT K H p xs) (h : Q (.int xs.length) H) : rLenK K [.ref p] H Q := ⟨p, xs, rfl, .inr h1, h⟩
theorem rr_listL {p : Addr} {xs : List V} (h1 : SqL K H p xs) (h : ∀ l, H l = none → Q (.ref l) (upd H l (.lst xs))) : rListK K [.ref p] H Q := ⟨p, xs, rfl, .inl h1, h⟩
theorem rr_listT {p : Addr} {xs : List V} (h1 : SqT K H p xs) (h : ∀ l, H l = none → Q (.ref l) (upd H l (.lst xs))) : rListK K [.ref p] H Q := ⟨p, xs, rfl, .inr h1, h⟩
theorem rr_lt0 {A B : Prop} {p : Prop} [Decidable p] (h1 : p → A) (h2 : ¬ p → B) : if decide p = true then A else B := by
  by_cases h : p
  · rw [if_pos (decide_eq_true h)]; exact h1 h
  · rw [if_neg (by rw [decide_eq_false h]; decide)]; exact h2 h
theorem rr_nlt0 {A B : Prop} {p : Prop} [Decidable p] (h1 : ¬ p → A) (h2 : p → B) : if (!decide p) = true then A else B := by
  by_cases h : p
  · rw [if_neg (by rw [decide_eq_true h]; decide)]; exact h2 h
  · rw [if_pos (by rw [decide_eq_false h]; decide)]; exact h1 h
theorem rr_ixL {p : Addr} {xs : List V} {i : Int} (h1 : SqL K H p xs) (h2 : atI xs i = some v) (h : Q v H) : rIxL K (.ref p) (.int i) H Q := ⟨p, xs, i, v, rfl, rfl, h1, h2, h⟩
theorem rr_ixT {p : Addr} {xs : List V} {i : Int} (h1 : SqT K H p xs) (h2 : atI xs i = some v) (h : Q v H) : rIxT K (.ref p) (.int i) H Q := ⟨p, xs, i, v, rfl, rfl, h1, h2, h⟩
theorem rr_sL {p : Addr} {xs : List V} {i : Int} (h1 : SqL K H p xs) (h2 : atI xs i = some v) (h : Q v H) : rIx K (.ref p) (.int i) H Q := .inl ⟨p, xs, i, v, rfl, rfl, h1, h2, h⟩
theorem rr_sT {p : Addr} {xs : List V} {i : Int} (h1 : SqT K H p xs) (h2 : atI xs i = some v) (h : Q v H) : rIx K (.ref p) (.int i) H Q := .inr (.inl ⟨p, xs, i, v, rfl, rfl, h1, h2, h⟩)
/-- a source of draws is asked, and written -/
theorem rr_gcells {p l : Addr} {a d c f : Int} {R : V → Prop} (h1 : H p = some (.dK (penL l a d c f))) (h : R (.ref l)) : ∃ b v, V.ref p = .ref b ∧ DGet H b (.str "cells") (some v) ∧ R v := ⟨p, _, rfl, getP _ h1 get_cells, h⟩
theorem rr_gat {p l : Addr} {a d c f : Int} {R : V → Prop} (h1 : H p = some (.dK (penL l a d c f))) (h : R (.int a)) : ∃ b v, V.ref p = .ref b ∧ DGet H b (.str "at") (some v) ∧ R v := ⟨p, _, rfl, getP _ h1 get_at, h⟩
theorem rr_gdigits {p l : Addr} {a d c f : Int} {R : V → Prop} (h1 : H p = some (.dK (penL l a d c f))) (h : R (.int d)) : ∃ b v, V.ref p = .ref b ∧ DGet H b (.str "digits") (some v) ∧ R v := ⟨p, _, rfl, getP _ h1 get_digits, h⟩
theorem rr_gcount {p l : Addr} {a d c f : Int} {R : V → Prop} (h1 : H p = some (.dK (penL l a d c f))) (h : R (.int c)) : ∃ b v, V.ref p = .ref b ∧ DGet H b (.str "count") (some v) ∧ R v := ⟨p, _, rfl, getP _ h1 get_count, h⟩
theorem rr_gfold {p l : Addr} {a d c f : Int} {R : V → Prop} (h1 : H p = some (.dK (penL l a d c f))) (h : R (.int f)) : ∃ b v, V.ref p = .ref b ∧ DGet H b (.str "fold") (some v) ∧ R v := ⟨p, _, rfl, getP _ h1 get_fold, h⟩
theorem rr_pat {p l : Addr} {a d c f x : Int} {R : Hp → Prop} (h1 : H p = some (.dK (penL l a d c f))) (h : R (upd H p (.dK (penL l x d c f)))) : ∃ b H4, V.ref p = .ref b ∧ DPut H b (.str "at") (.int x) H4 ∧ R H4 := ⟨p, _, rfl, putP _ h1 put_at pen_small, h⟩
theorem rr_pdigits {p l : Addr} {a d c f x : Int} {R : Hp → Prop} (h1 : H p = some (.dK (penL l a d c f))) (h : R (upd H p (.dK (penL l a x c f)))) : ∃ b H4, V.ref p = .ref b ∧ DPut H b (.str "digits") (.int x) H4 ∧ R H4 := ⟨p, _, rfl, putP _ h1 put_digits pen_small, h⟩
theorem rr_pcount {p l : Addr} {a d c f x : Int} {R : Hp → Prop} (h1 : H p = some (.dK (penL l a d c f))) (h : R (upd H p (.dK (penL l a d x f)))) : ∃ b H4, V.ref p = .ref b ∧ DPut H b (.str "count") (.int x) H4 ∧ R H4 := ⟨p, _, rfl, putP _ h1 put_count pen_small, h⟩
theorem rr_pfold {p l : Addr} {a d c f x : Int} {R : Hp → Prop} (h1 : H p = some (.dK (penL l a d c f))) (h : R (upd H p (.dK (penL l a d c x)))) : ∃ b H4, V.ref p = .ref b ∧ DPut H b (.str "fold") (.int x) H4 ∧ R H4 := ⟨p, _, rfl, putP _ h1 put_fold pen_small, h⟩
end
theorem sqL {K : PySem.W.Frag} {H : Hp} {p : Addr} {xs : List V} (h : H p = some (.lst xs)) : SqL K H p xs := .inl (.inl h)
theorem sqT {K : PySem.W.Frag} {H : Hp} {p : Addr} {xs : List V} (h : H p = some (.tup xs)) : SqT K H p xs := .inl (.inl h)
theorem sameNew {H : Hp} {p : Addr} (h : H p = none) (o : HO) : Same H (upd H p o) := fun b u q => by rw [upd_ne (ne_of_none q h)]; exact q
theorem modN {a b : Int} (hb : 0 < b) : 0 ≤ a.fmod b ∧ a.fmod b < b := by
  rw [Int.fmod_eq_emod_of_nonneg a (Int.le_of_lt hb)]
  exact ⟨Int.emod_nonneg a (by omega), Int.emod_lt_of_pos a hb⟩
theorem divN {a b : Int} (ha : 0 ≤ a) (hb : 0 < b) : 0 ≤ a.fdiv b := by
  rw [Int.fdiv_eq_ediv_of_nonneg a (Int.le_of_lt hb)]
  exact Int.ediv_nonneg ha (Int.le_of_lt hb)
end Lx
namespace Lx
open PySem PySem.Spec PyProof.Rows L2
/-! ### the signs of what repr gives -/
def Sm (x : Str) : Prop := ∀ c ∈ x.cps.toList, c < 16 ^ 8
theorem Sm.app {x y : Str} (a : Sm x) (b : Sm y) : Sm (x ++ y) := fun c hc => by
  have e : (x ++ y).cps = x.cps ++ y.cps := rfl
  rw [e, Array.toList_append, List.mem_append] at hc
  exact hc.elim (a c) (b c)
theorem sm_of (s : String) : Sm (Str.ofString s) := fun c hc => by
  rw [Str.ofString_eq_toList] at hc
  simp only [List.mem_map] at hc
  obtain ⟨d, _, rfl⟩ := hc
  have := d.valid
  have h2 : d.toNat < 1114112 := by
    have h3 : d.val.toNat < 0xd800 ∨ (0xdfff < d.val.toNat ∧ d.val.toNat < 0x110000) := d.valid
    show d.val.toNat < 1114112
    omega
  exact Nat.lt_trans h2 (by decide)
theorem sm_char {q c : Nat} (hq : q < 16 ^ 8) (hc : c < 16 ^ 8) : ∀ d ∈ Builtin.Str.reprChar q c, d < 16 ^ 8 := by
  have hex : ∀ w : Nat, ∀ d ∈ (List.replicate (w - ((Nat.toDigits 16 c).map Char.toNat).length) 48 ++ (Nat.toDigits 16 c).map Char.toNat), d < 16 ^ 8 := fun w d hd => by
    rcases List.mem_append.mp hd with h | h
    · rw [(List.mem_replicate.mp h).2]; decide
    · obtain ⟨e, _, rfl⟩ := List.mem_map.mp h
      have h3 : e.val.toNat < 0xd800 ∨ (0xdfff < e.val.toNat ∧ e.val.toNat < 0x110000) := e.valid
      have h2 : e.toNat < 1114112 := by show e.val.toNat < 1114112; omega
      exact Nat.lt_trans h2 (by decide)
  intro d hd
  unfold Builtin.Str.reprChar at hd
  dsimp only at hd
  have two : ∀ (a b : Nat) (l : List Nat), a < 16 ^ 8 → b < 16 ^ 8 → (∀ z ∈ l, z < 16 ^ 8) → ∀ z ∈ [a, b] ++ l, z < 16 ^ 8 := fun a b l ha hb hl z hz => by
    simp only [List.cons_append, List.nil_append, List.mem_cons] at hz
    rcases hz with rfl | rfl | h
    · exact ha
    · exact hb
    · exact hl _ h
  repeat' split at hd
  · exact two 92 c [] (by decide) hc (by simp) d (by simpa using hd)
  · exact two 92 110 [] (by decide) (by decide) (by simp) d (by simpa using hd)
  · exact two 92 114 [] (by decide) (by decide) (by simp) d (by simpa using hd)
  · exact two 92 116 [] (by decide) (by decide) (by simp) d (by simpa using hd)
  · rw [List.mem_singleton.mp hd]; exact hc
  · exact two _ _ _ (by decide) (by decide) (hex 2) d hd
  · exact two _ _ _ (by decide) (by decide) (hex 4) d hd
  · exact two _ _ _ (by decide) (by decide) (hex 8) d hd
theorem sm_fold {q : Nat} (hq : q < 16 ^ 8) : ∀ (l : List Nat) (acc : Array Nat), (∀ c ∈ l, c < 16 ^ 8) → (∀ c ∈ acc.toList, c < 16 ^ 8) → ∀ d ∈ (l.foldl (fun out c => out ++ (Builtin.Str.reprChar q c).toArray) acc).toList, d < 16 ^ 8
  | [], acc, _, h => h
  | c :: r, acc, hl, h => sm_fold hq r _ (fun d hd => hl d (List.mem_cons_of_mem _ hd)) fun d hd => by
    rw [Array.toList_append, List.mem_append] at hd
    rcases hd with z | z
    · exact h d z
    · exact sm_char hq (hl c List.mem_cons_self) d (by simpa using z)
theorem sm_quote (x : Str) : reprQuote x < 16 ^ 8 := by
  unfold reprQuote
  split <;> decide
theorem sm_repr {x : Str} (h : Sm x) : Sm (reprText x) := fun c hc => by
  unfold reprText at hc
  rw [Array.toList_push, List.mem_append] at hc
  rcases hc with z | z
  · rw [← Array.foldl_toList] at z
    exact sm_fold (sm_quote x) x.cps.toList _ h (fun d hd => by
      have e : d = reprQuote x := by simpa using hd
      rw [e]; exact sm_quote x) c z
  · rw [List.mem_singleton.mp z]; exact sm_quote x
theorem sm_from : ∀ (ts : List Str) (k : Nat) (acc : Str), Sm acc → (∀ t ∈ ts, Sm t) → Sm (textFrom k acc ts)
  | [], _, acc, h, _ => h
  | t :: r, k, acc, h, ht => sm_from r (k + 1) _ ((h.app (sm_of _)).app (ht t List.mem_cons_self)) fun u hu => ht u (List.mem_cons_of_mem _ hu)
theorem sm_list {ts : List Str} (h : ∀ t ∈ ts, Sm t) : Sm (listText ts) := (sm_from ts 0 _ (sm_of "[") h).app (sm_of "]")
theorem sm_join : ∀ ts : List Str, (∀ t ∈ ts, Sm t) → Sm (Str.join ", " ts)
  | [], _ => fun c hc => by
    have : c ∈ ([] : List Nat) := hc
    cases this
  | [x], h => h x List.mem_cons_self
  | x :: y :: r, h => ((h x List.mem_cons_self).app (sm_of ", ")).app (sm_join (y :: r) fun u hu => h u (List.mem_cons_of_mem _ hu))
theorem sm_tuple {ts : List Str} (h : ∀ t ∈ ts, Sm t) : Sm (tupleText ts) := ((sm_of "(").app (sm_join ts h)).app (sm_of _)
theorem sm_dict {ts : List Str} (h : ∀ t ∈ ts, Sm t) : Sm (dictText ts) := ((sm_of "{").app (sm_join ts h)).app (sm_of "}")
mutual
theorem sm_shown (B : Nat) : ∀ d : PyData, d.leavesShort B = true → Sm d.shown
  | .none, _ => sm_of "None"
  | .bool b, _ => by cases b; exact sm_of "False"; exact sm_of "True"
  | .int i, _ => sm_of (toString i)
  | .str x, h => sm_repr (by
    simp only [PyData.leavesShort, List.all_eq_true, decide_eq_true_eq] at h
    exact h)
  | .list xs, h => sm_list (sm_shownAll B xs (by simpa only [PyData.leavesShort] using h))
  | .tuple xs, h => sm_tuple (sm_shownAll B xs (by simpa only [PyData.leavesShort] using h))
  | .dict kvs, h => sm_dict (sm_shownKv B kvs (by simpa only [PyData.leavesShort] using h))
theorem sm_shownAll (B : Nat) : ∀ xs : List PyData, PyData.leavesShortAll B xs = true → ∀ t ∈ PyData.shownAll xs, Sm t
  | [], _, t, ht => by simp [PyData.shownAll] at ht
  | x :: xs, h, t, ht => by
    have h' : x.leavesShort B = true ∧ PyData.leavesShortAll B xs = true := by simpa only [PyData.leavesShortAll, Bool.and_eq_true] using h
    simp only [PyData.shownAll, List.mem_cons] at ht
    rcases ht with rfl | z
    · exact sm_shown B x h'.1
    · exact sm_shownAll B xs h'.2 t z
theorem sm_shownKv (B : Nat) : ∀ xs : List (PyData × PyData), PyData.leavesShortKv B xs = true → ∀ t ∈ PyData.shownKv xs, Sm t
  | [], _, t, ht => by simp [PyData.shownKv] at ht
  | (k, v) :: xs, h, t, ht => by
    have h' : (k.leavesShort B = true ∧ v.leavesShort B = true) ∧ PyData.leavesShortKv B xs = true := by simpa only [PyData.leavesShortKv, Bool.and_eq_true] using h
    simp only [PyData.shownKv, List.mem_cons] at ht
    rcases ht with rfl | z
    · exact ((sm_shown B k h'.1.1).app (sm_of ": ")).app (sm_shown B v h'.1.2)
    · exact sm_shownKv B xs h'.2 t z
end
/-- data of small leaves: its text is known to fit -/
structure Fit (n W : Nat) (d : PyData) : Prop where
  sh : d.showable = true
  dp : d.depth ≤ n
  lv : d.leavesShort 60 = true
  wt : d.weight ≤ W
theorem Fit.len {n W : Nat} {d : PyData} (h : Fit n W d) : d.shown.length ≤ 62 * W + 60 := by
  have a := PyData.shown_le 60 (by decide) d h.lv
  have b := Nat.mul_le_mul_left 62 h.wt
  omega
theorem Fit.str {n W : Nat} {d : PyData} (h : Fit n W d) : Fit 0 (62 * W + 60) (.str d.shown) :=
  ⟨rfl, Nat.le_refl _, by
    simp only [PyData.leavesShort, List.all_eq_true, decide_eq_true_eq]
    exact sm_shown 60 d h.lv, h.len⟩
theorem Fit.mono {n m W Y : Nat} {d : PyData} (h : Fit n W d) (a : n ≤ m) (b : W ≤ Y) : Fit m Y d := ⟨h.sh, Nat.le_trans h.dp a, h.lv, Nat.le_trans h.wt b⟩
/-- repr(x), x such data -/
theorem rr_repr {H : Hp} {v : V} {d : PyData} {n W : Nat} {Q : VK} (r : Rp H v d) (f : Fit n W d) (h : Q (.str d.shown) H) (hn : n ≤ 64 := by decide) (hW : W ≤ 200000 := by decide) : rRepr [v] H Q :=
  ⟨v, d, rfl, r, f.sh, Nat.le_trans f.dp hn, by have := f.len; rw [sizeLine_eq]; omega, h⟩
end Lx
namespace Lx
open PySem PySem.Spec PyProof.Rows L2
/-! ### what does not lean on the source of draws -/
def hid (H : Hp) (p : Addr) : Hp := fun b => if b = p then none else H b
theorem hid_ne {H : Hp} {p b : Addr} (h : b ≠ p) : hid H p b = H b := if_neg h
theorem hid_same {H : Hp} {p : Addr} : Same (hid H p) H := fun b o h => by
  unfold hid at h
  split at h
  · cases h
  · exact h
theorem SameBut.hid {p : Addr} {H H' : Hp} (h : SameBut p H H') : Same (hid H p) (hid H' p) := fun b o e => by
  by_cases z : b = p
  · unfold Lx.hid at e; rw [if_pos z] at e; cases e
  · rw [hid_ne z] at e ⊢; exact h b o z e
theorem PenOk.some {H : Hp} {p : Addr} (h : PenOk H p) : H p ≠ none := by
  obtain ⟨l, ns, a, d, c, f, e, _⟩ := h
  rw [e]; simp
theorem PenOk.same {H H' : Hp} {p : Addr} (h : PenOk H p) (k : Same H H') : PenOk H' p := by
  obtain ⟨l, ns, a, d, c, f, e1, e2, r⟩ := h
  exact ⟨l, ns, a, d, c, f, k _ _ e1, k _ _ e2, r⟩
/-- _law_pick, some a tuple -/
def spAny : Sp := fun vs H Q _ => ∃ p : Addr, vs = [.ref p] ∧ PenOk H p ∧
  ∀ (v : V) (d : PyData) (H' : Hp), Rp (hid H' p) v d → Fit 2 150 d → PenOk H' p → SameBut p H H' → Q v H'
section
variable {σ : L2.St} {H : Hp} {Q : VK}
theorem rr_disp {trs : List (TE × TE)} (h : ∀ p, H p = none → tPairs trs σ (upd H p (.dK [])) fun ps H2 => H2 p = some (.dK []) ∧ ∃ kvs : List (Key × V), ps = kvs.map (fun kv => (kV kv.1, kv.2)) ∧ kvs.length ≤ 15 ∧ Q (.ref p) (upd H2 p (.dK (mergeK [] kvs)))) : tDisp trs σ H Q := h
theorem rr_pcons {tk tv : TE} {r : List (TE × TE)} {R : List (V × V) → Hp → Prop} (h : tk σ H fun x H1 => tv σ H1 fun y H2 => tPairs r σ H2 fun ps H3 => R ((x, y) :: ps) H3) : tPairs ((tk, tv) :: r) σ H R := h
theorem rr_pnil {R : List (V × V) → Hp → Prop} (h : R [] H) : tPairs [] σ H R := h
end
theorem fit_ints {r : Int} (h0 : 0 ≤ r) (h : r < 1000000) : (PyData.int r).showable = true ∧ (PyData.int r).leavesShort 60 = true ∧ (PyData.int r).weight ≤ 20 := by
  have hn : r.natAbs < 2 ^ 20 := by
    have : (2 : Nat) ^ 20 = 1048576 := by decide
    omega
  have hl : r.natAbs.log2 < 20 := by
    by_cases z : r.natAbs = 0
    · rw [z]; decide
    · exact (Nat.log2_lt z).mpr hn
  refine ⟨?_, ?_, ?_⟩
  · simp only [PyData.showable, decide_eq_true_eq]; omega
  · have e1 := int_text_length_le (k := 20) (by decide) hl
    have e2 : (Str.ofString (toString r)).length ≤ 60 := by rw [PySem.ofString_length]; omega
    exact decide_eq_true (show (PyData.shown (.int r)).length ≤ 60 from e2)
  · simp only [PyData.weight]
    split <;> omega
end Lx
namespace Lx
open PySem PySem.Spec PyProof.Rows L2
/-! ### own exceptions whose __init__ keeps its arguments -/
/-- __init__(self, ..) of the class at C: each argument under its own name -/
def spI (C : Addr) (fns : List Str) : Sp := fun vs H Q _ => ∃ (a : Addr) (ws : List V), vs = .ref a :: ws ∧ ws.length = fns.length ∧ H a = some (exo a C none) ∧
  ∀ (d : Addr) (H2 : Hp), H d = none → d ≠ a → H2 a = some (exo a C (some d)) → H2 d = some (exd d (fns.zip ws).reverse) → (∀ b, b ≠ a → b ≠ d → H2 b = H b) → Q .non H2
section
variable {D : Ends} {σ : L2.St} {H : Hp} {K : PySem.W.Frag} {C a : Addr} {f : Str} {y : V} {i : Nat}
theorem rr_ostA (T : OexC K C) (n : PySem.W.findIn K (.ref C) f = some none) (e1 : σ[0]? = some (some (.ref a))) (e2 : σ[i]? = some (some y)) (e : H a = some (exo a C none))
    (h : ∀ dx, H dx = none → dx ≠ a → D.nx σ (upd (upd H dx (exd dx [(f, y)])) a (exo a C (some dx)))) : tOst K f (tVar 0) (tVar i) D σ H := ⟨y, e2, .ref a, e1, a, C, rfl, T, n, .inl ⟨e, h⟩⟩
theorem rr_ostB {dx : Addr} {fs : List (Str × V)} (T : OexC K C) (n : PySem.W.findIn K (.ref C) f = some none) (e1 : σ[0]? = some (some (.ref a))) (e2 : σ[i]? = some (some y)) (ea : H a = some (exo a C (some dx)))
    (ed : H dx = some (exd dx fs)) (hl : fs.length ≤ 900) (h : D.nx σ (upd H dx (exd dx ((f, y) :: fs)))) : tOst K f (tVar 0) (tVar i) D σ H := ⟨y, e2, .ref a, e1, a, C, rfl, T, n, .inr ⟨dx, fs, ea, ed, hl, h⟩⟩
end
/-- what the written part says of the class x at C with the fields fns -/
structure XcI (K : PySem.W.Frag) (mg : Str → Option Value) (x : Str) (C : Addr) (fns : List Str) : Prop where
  T : OexC K C
  gC : mg x = some (.ref C)
  ini : ∃ fI fd, PySem.W.findIn K (.ref C) "__init__" = some (some (.ref fI)) ∧ PySem.W.typeIn K (.ref fI) = some (.type "function") ∧
    (∀ (P : Program) (w : World) (base : Heap), FnOk P w K mg base CX0 1 fI fd ("self" :: fns) (spI C fns)) ∧ Binds K fd ("self" :: fns) []
/-- the exception is made: what is left to be said -/
def leafI (C : Addr) (fns : List Str) (vs : List V) (H1 : Hp) (Q : XK) : Prop := vs.length ≤ 1000 ∧ ∀ a, H1 a = none → spI C fns (.ref a :: (vs ++ [])) (upd H1 a (exo a C none))
  (fun v H2 => v = .non ∧ ∃ (d : Addr) (fs : List (Str × V)), H2 a = some (exo a C (some d)) ∧ H2 d = some (exd d fs) ∧ H1 d = none ∧ Q (.ref C) (some d) (upd (del H2 a) d (.xd fs))) (fun _ _ _ => False)
theorem leafI_of {C : Addr} {fns : List Str} {vs : List V} {H1 : Hp} {Q : XK} (hl : vs.length = fns.length) (h3 : fns.length ≤ 3) (h : ∀ d, H1 d = none → Q (.ref C) (some d) (upd H1 d (.xd (fns.zip vs).reverse))) : leafI C fns vs H1 Q := by
  refine ⟨by omega, fun a ha => ⟨a, vs, by rw [List.append_nil], hl, upd_same, fun d H2 hd hne e1 e2 e3 => ⟨rfl, d, _, e1, e2, ?_, ?_⟩⟩⟩
  · rw [upd_ne hne] at hd
    exact hd
  · rw [upd_ne hne] at hd
    have e : upd (del H2 a) d (.xd (fns.zip vs).reverse) = upd H1 d (.xd (fns.zip vs).reverse) := by
      funext b
      by_cases q : b = d
      · rw [q, upd_same, upd_same]
      · rw [upd_ne q, upd_ne q]
        by_cases r : b = a
        · rw [r, del_same, ha]
        · rw [del_ne r, e3 b r q, upd_ne r]
    rw [e]
    exact h d hd
def tRf (C : Addr) (fns : List Str) (W : WX) (ta : TA) : TS := fun _ σ H => ta σ H fun vs H1 => leafI C fns vs H1 fun cls d H' => W cls d σ H'
theorem rr_rf {C : Addr} {fns : List Str} {W : WX} {ta : TA} {D : Ends} {σ : L2.St} {H : Hp} (h : ta σ H fun vs H1 => leafI C fns vs H1 fun cls d H' => W cls d σ H') : tRf C fns W ta D σ H := h
section
variable {X : Cx} {x : Str} {C : Addr} {fns : List Str} {W : WX} {e : Expr} {es : List Expr} {ta : TA} {p pos pos2 : Pos} {k : Nat}
theorem ps_rf (B : XcI X.K X.mg x C fns) (hr : Room k X.A) (tk : Takes X W) (ha : PA X (e :: es) ta) (hk : 2 ≤ k := by decide) (hc : X.calm = true := by rfl) (hg : Gl X x := by rfl) (hdb : (x == ("__debug__" : Str)) = false := by decide)
    (he : starEach (e :: es) X.env = (false, eval e X.env) :: starEach es X.env := by rfl) (hpl : (backTo pos (starEach es X.env)).any (·.1) = false := by rfl) :
    PS X (.Raise (some (.Call (.Name x p) (e :: es) [] pos)) none pos2) (tRf C fns W ta) := by
  obtain ⟨fI, fd, i1, i2, F, hb⟩ := B.ini
  exact ps_raise hc tk (pmk_oex (dvs := []) B.T i1 i2 (F X.prog X.w X.base) (hr.mono hk) hb .nil pass0 hg B.gC ha hdb he hpl)
/-- X(), X without an __init__ of its own -/
theorem ps_rf0 {bmB : List Value} {Bs newId initId : String} (F : ExcBaseFacts Bs newId initId bmB) (q : PySem.W.excIn X.K C bmB newId = true) (gC : X.mg x = some (.ref C)) (kC : PySem.W.keepIn X.K (.ref C) = true) (r : Raises X (.ref C)) (tk : Takes X W)
    (hc : X.calm = true := by rfl) (hg : Gl X x := by rfl) (hdb : (x == ("__debug__" : Str)) = false := by decide) : PS X (.Raise (some (.Call (.Name x p) [] [] pos)) none pos2) (fun _ σ H => W (.ref C) none σ H) := by
  refine ps_raise (t := fun _ H Q => Q (.ref C) none H) hc tk (fun pins s σ H Q I h => wpAny_Call_Name_kw (ld_glob I hg gC (PySem.W.callWith_K0 I.kIn kC ?_) hdb))
  show wpAny _ _ (call (.ref C) []) _ _ _
  obtain ⟨bm, N, nm, qn, bs, hdct, sn, sub, ab, col, dd, k0, k1, k2, k3, k5, mN, hC, hN, hni, T⟩ := exc_obj I.kIn q
  exact wpAny_call_exc_subT F T hC hN hni (fun h' e hm => mk_of I hm r h (I.hok.gone hm.new)) (by show 0 ≤ sizeLine; exact Nat.zero_le _)
end
/-- isinstance of the exception at p -/
theorem rr_isP {K : PySem.W.Frag} {p : Addr × Obj} {H : Hp} {Q : VK} {C : Addr} {fs : List (Str × V)} {c : V} {cv : Value} {b : Bool} (he : ExcAt H p C fs) (T : XcF K C) (kt : PySem.W.kitOne K (.ref C) cv = some b) (hcv : ∀ u, RelV c u → u = cv) (h : Q (.bl b) H) :
    rIsP K p [.ref p.1, c] H Q := ⟨c, cv, b, C, fs, rfl, hcv, he, T, kt, h⟩
theorem rr_fldP {K : PySem.W.Frag} {p : Addr × Obj} {H : Hp} {Q : VK} {n : Str} {te : TE} {σ : L2.St} (h : te σ H fun x H1 => x = .ref p.1 ∧ ∃ (C : Addr) (fs : List (Str × V)) (v : V), ExcAt H1 p C fs ∧ XcF K C ∧ PySem.W.findIn K (.ref C) n = some none ∧ fs.lookup n = some v ∧ Q v H1) :
    tFldP K p n te σ H Q := h
theorem rr_fldL {K : PySem.W.Frag} {p : Addr × Obj} {H : Hp} {R : V → Prop} {C : Addr} {fs : List (Str × V)} {n : Str} {v : V} (he : ExcAt H p C fs) (T : XcF K C) (hn : PySem.W.findIn K (.ref C) n = some none) (hl : fs.lookup n = some v) (h : R v) :
    V.ref p.1 = .ref p.1 ∧ ∃ (C : Addr) (fs : List (Str × V)) (v : V), ExcAt H p C fs ∧ XcF K C ∧ PySem.W.findIn K (.ref C) n = some none ∧ fs.lookup n = some v ∧ R v := ⟨rfl, C, fs, v, he, T, hn, hl, h⟩
/-- the same within the suite -/
def rIsA (K : PySem.W.Frag) (a : Addr) (cls : Value) (d : Option Addr) : List V → Hp → VK → Prop := fun xs H Q => ∀ oe : Obj, Zc cls d oe → (∃ fv, oe.data = .fields fv) → rIsP K (a, oe) xs H Q
theorem call_isA {X : Cx} {a : Addr} {oe : Obj} {cls : Value} {d : Option Addr} (hp : (a, oe) ∈ X.pn) (hz : Zc cls d oe) (hf : ∃ fv, oe.data = .fields fv) : CallR X (.builtin "isinstance") (rIsA X.K a cls d) :=
  fun pins s σ H xs us Q I r h => call_isP hp pins s σ H xs us Q I r (h oe hz hf)
theorem rr_callR {R : List V → Hp → VK → Prop} {ts : TA} {σ : L2.St} {H : Hp} {Q : VK} (h : ts σ H fun vs H1 => R vs H1 Q) : tCallR R ts σ H Q := h
/-- found.append(e) -/
theorem rr_app {H : Hp} {l : Addr} {xs : List V} {y : V} {Q : VK} (e : H l = some (.lst xs)) (hz : xs.length < sizeLine) (h : Q .non (upd H l (.lst (xs ++ [y])))) : rAppend (.ref l) [y] H Q := ⟨l, xs, y, rfl, rfl, e, hz, h⟩
theorem rr_cat {H : Hp} {l b : Addr} {xs zs : List V} {Q : VK} (e1 : H l = some (.lst xs)) (e2 : H b = some (.lst zs)) (hz : xs.length + zs.length ≤ sizeLine) (h : ∀ p, H p = none → Q (.ref p) (upd H p (.lst (xs ++ zs)))) : rCat (.ref l) (.ref b) H Q := ⟨l, b, xs, zs, rfl, rfl, e1, e2, hz, h⟩
theorem tyL {K : PySem.W.Frag} {H : Hp} {l : Addr} {xs : List V} (h : H l = some (.lst xs)) : tyV K "list" (.ref l) H := .inl ⟨rfl, _, .inl (.inl h)⟩
end Lx
namespace Lx
open PySem PySem.Spec PyProof.Rows L2
/-! ### the end of a law whose defs make lambdas: their tables are tracked -/
/-- empty -/
abbrev tab0 : Obj := { cls := .none, data := .fields #[] }
/-- what may be tracked when the law is called: the script at a, the tables ts -/
def Few (a : Addr) (ob : Obj) (ns : List Int) (ts : List Addr) (H : Hp) : Prop := ∀ b, H b = none ∨ (b ∈ ts ∧ H b = some (.tbl #[])) ∨ (b = a ∧ H b = some (.frz ob (.lst (ns.map V.int))))
section
variable {P : Program} {w : World} {K : PySem.W.Frag} {mg mb : Str → Option Value} {a : Addr} {ob : Obj} {ns : List Int} {ts : List Addr} {cs : List (Addr × Addr)} {H : Hp} {s s' : Shared}
/-- no table, no list: out of H's sight -/
theorem Few.unseen (hH : Few a ob ns ts H) (ea : s.heap.get? a = some ob) (et : ∀ b ∈ ts, s.heap.get? b = some tab0) {b : Addr} {o : Obj} (e : s.heap.get? b = some o) (n1 : o ≠ ob) (n2 : o ≠ tab0) : H b = none := by
  rcases hH b with z | ⟨z, _⟩ | ⟨z, _⟩
  · exact z
  · rw [et b z] at e
    exact absurd (Option.some.inj e).symm n2
  · rw [z, ea] at e
    exact absurd (Option.some.inj e).symm n1
theorem few_out (hH : Few a ob ns ts H) (ea : s.heap.get? a = some ob) (et : ∀ b ∈ ts, s.heap.get? b = some tab0) (ic : ∀ b ∈ ts, isCodeTable s.heap b) {u : Value} (h : CE [] P w H s (fun v _ => v = .bl true) u s') :
    u = .bool true ∧ OldK s.heap s'.heap ∧ s'.os = s.os ∧ AllBare s'.gens := by
  obtain ⟨v, H', os, bare, un, hok', r, q⟩ := h
  have q' : v = .bl true := q
  subst q'
  have nf : ∀ {b : Addr}, b ∉ frs [] := fun z => absurd (show _ ∈ ([] : List Addr) from z) (by simp)
  have ne : ∀ {b : Addr}, b ∉ ([] : List Addr) := by simp
  refine ⟨r, ⟨fun b o e => ?_, fun b o e => un.there b o e ne⟩, os, bare⟩
  rcases hH b with z | ⟨z, z2⟩ | ⟨z, z2⟩
  · exact .inl (un.keep b o e z nf ne)
  · obtain ⟨more, g⟩ := un.tbls b _ z2
    have g' : s'.heap.get? b = some { cls := .none, data := .fields (#[] ++ more) } := hok' b _ g
    rw [et b z] at e
    cases e
    exact .inr (.inl ⟨ic b z, rfl, #[], more, rfl, g'⟩)
  · subst z
    have y2 : s'.heap.get? b = some ob := (show ObjOk P w H' s'.heap b (.frz ob (.lst (ns.map V.int))) from hok' b _ (un.frzs b ob _ z2)).1
    rw [ea] at e
    cases e
    exact .inl y2

theorem law_callT {k : Nat} {fa : Addr} {fd : FuncData} {x : Str} {sp : Sp} {s₁ : Shared} {vs : List Value}
    (KX : K.In s₁.heap) (hns : s₁.heap.Ns mainGlobals mg) (hb : s₁.heap.Ns builtinsNs mb) (hbb : ∀ x : Str, x ≠ "__name__" → mb x = bootBuiltins x) (hlim : s₁.heap.NoLimit) (hg : s₁.gens = #[])
    (hT : ∀ q ∈ cs, s₁.heap.get? q.2 = some tab0) (nT : ∀ q ∈ cs, K.lookup q.2 = none) (cT : ∀ q ∈ cs, PySem.W.CodeHd s₁.heap q.1 q.2)
    (hbm : ∃ (bm : Addr) (ob : Obj), mg "__builtins__" = some (.ref bm) ∧ bm ≠ builtinsNs ∧ s₁.heap.get? bm = some ob ∧ ob.cls = .type "module" ∧ ob.dict = some builtinsNs ∧ ob.data = .plain)
    (ha : s₁.heap.get? a = some { cls := .type "list", data := .seq vs.toArray }) (hi : IntsAre vs ns) (hl : ns.length ≤ sizeLine) (hr : Room k callerA)
    (F : ∀ base : Heap, K.In base → base.Ns mainGlobals mg → (∀ q ∈ cs, LamX.TabB base mg q.1 q.2) → FnG P w K mg base (L2.CX P w) k fa fd [x] sp) (hbind : ∀ (s : Shared) (u : Value), BindsTo s fd ⟨[u], []⟩ [(x, u)])
    (hsp : ∀ H : Hp, (∀ q ∈ cs, H q.2 = some (.tbl #[])) → SqL K H a (ns.map V.int) → sp [.ref a] H (fun v _ => v = .bl true) E0) :
    codeAny (model P w) callerA (.call (.ref fa) ⟨[.ref a], []⟩) (fun r s' => r = .ok (.ret (.bool true)) ∧ OldK s₁.heap s'.heap ∧ s'.os = s₁.os ∧ AllBare s'.gens) s₁ := by
  have rv := vals_ints hi
  have lv := hi.length
  obtain ⟨ob, hob⟩ : ∃ ob : Obj, ob = { cls := .type "list", data := .seq vs.toArray } := ⟨_, rfl⟩
  have ea : s₁.heap.get? a = some ob := by rw [hob]; exact ha
  have et : ∀ b ∈ cs.map (·.2), s₁.heap.get? b = some tab0 := fun b hb => by
    obtain ⟨q, hq, rfl⟩ := List.mem_map.mp hb
    exact hT q hq
  have ic : ∀ b ∈ cs.map (·.2), isCodeTable s₁.heap b := fun b hb => by
    obtain ⟨q, hq, rfl⟩ := List.mem_map.mp hb
    exact ((cT q hq).tab (hT q hq)).isCodeTable
  have na : a ∉ cs.map (·.2) := fun z => by
    have := et a z
    rw [ea, hob] at this
    cases this
  have go : ∀ H : Hp, Few a ob ns (cs.map (·.2)) H → (∀ q ∈ cs, H q.2 = some (.tbl #[])) → SqL K H a (ns.map V.int) → (H a ≠ none → K.lookup a = none) →
      codeAny (model P w) callerA (.call (.ref fa) ⟨[.ref a], []⟩) (fun r s' => r = .ok (.ret (.bool true)) ∧ OldK s₁.heap s'.heap ∧ s'.os = s₁.os ∧ AllBare s'.gens) s₁ := by
    intro H hH hHT hS hK
    have un {b : Addr} {o : Obj} (e : s₁.heap.get? b = some o) (n1 : o ≠ ob) (n2 : o ≠ tab0) : (hidT s₁.heap H).get? b = some o := hidT_get e (hH.unseen ea et e n1 n2)
    have hok : HOk P w H s₁.heap := fun b u q => by
      rcases hH b with z | ⟨z, z2⟩ | ⟨z, z2⟩
      · rw [z] at q; cases q
      · rw [z2] at q
        cases q
        exact et b z
      · subst z
        rw [z2] at q
        cases q
        exact ⟨ea, by rw [List.length_map]; exact hl, vs, _, rv, ha⟩
    have toB : ∀ {b : Addr} {m : Str → Option Value}, s₁.heap.Ns b m → (hidT s₁.heap H).Ns b m := fun {b m} ⟨o, es, ep, e, d, r⟩ =>
      ⟨o, es, ep, un e (fun z => by rw [z, hob] at d; cases d) (fun z => by rw [z] at d; cases d), d, r⟩
    have inB : K.In (hidT s₁.heap H) := fun b o e => hidT_get (KX b o e) (by
      rcases hH b with z | ⟨z, z2⟩ | ⟨z, z2⟩
      · exact z
      · obtain ⟨q, hq, rfl⟩ := List.mem_map.mp z
        rw [nT q hq] at e
        cases e
      · subst z
        rw [hK (by rw [z2]; simp)] at e
        cases e)
    have md : Mod K mg (hidT s₁.heap H) := ⟨inB, toB hns, ⟨mb, toB hb, hbb⟩, hlim.imp fun mc z => ⟨toB z.1, z.2⟩⟩
    have tb : ∀ q ∈ cs, LamX.TabB (hidT s₁.heap H) mg q.1 q.2 := fun q hq => by
      refine ⟨?_, ?_, fun z => ?_⟩
      · obtain ⟨o, us, f1, f2, f3, f4, f5, f6, f7, e1, r1, r2, r3, rest⟩ := cT q hq
        refine ⟨o, us, f1, f2, f3, f4, f5, f6, f7, un e1 (fun z => ?_) (fun z => ?_), r1, r2, r3, rest⟩
        · rw [z, hob] at r2; cases r2
        · rw [z] at r1; cases r1
      · obtain ⟨bm, o, b1, b2, b3, b4, b5, b6⟩ := hbm
        refine ⟨bm, o, b1, b2, fun z => ?_, fun z => ?_, un b3 (fun z => ?_) (fun z => ?_), b4, b5, b6⟩
        · obtain ⟨o', es, ep, e, d, _⟩ := hns
          rw [← z, b3] at e
          cases e
          rw [d] at b6
          cases b6
        · rw [z, hT q hq] at b3
          cases b3
          cases b4
        · rw [z, hob] at b6; cases b6
        · rw [z] at b4; cases b4
      · obtain ⟨o', es, ep, e, d, _⟩ := hns
        rw [z, hT q hq] at e
        cases e
        cases d
    have e0 : Env0 P w K mg (hidT s₁.heap H) callerA [] s₁ H := ⟨rfl, md, fun b o e => of_hidT e, Nat.le_of_eq (hidT_size _ _), trivial, fun b hb => absurd (show b ∈ ([] : List Addr) from hb) (by simp), hok, .of_eq hg⟩
    refine codeAny_mono ((F _ inB (toB hns) tb).run callerA [] s₁ H ⟨[.ref a], []⟩ [.ref a] [.ref a] _ _ hr rfl e0 (hbind s₁ (.ref a)) (.cons rfl .nil) (hsp H hHT hS)) fun r s' h => ?_
    cases r with
    | error e =>
      obtain ⟨_, _, _, _, _, _, _, _, _, _, _, _, z⟩ := h
      exact False.elim z
    | ok fl => cases fl with
      | ret u =>
        obtain ⟨e1, e2⟩ := few_out hH ea et ic h
        exact ⟨by rw [e1], e2⟩
      | _ => exact False.elim h
  have memT : ∀ q ∈ cs, q.2 ∈ cs.map (·.2) := fun q hq => List.mem_map.mpr ⟨q, hq, rfl⟩
  cases hk : K.lookup a with
  | some o =>
    have e := KX a o hk
    rw [ha] at e
    cases e
    refine go (fun b => if b ∈ cs.map (·.2) then some (.tbl #[]) else none) (fun b => ?_) (fun q hq => if_pos (memT q hq)) (.inr ⟨_, vs.toArray, _, hk, rfl, rfl, rfl, by rw [List.size_toArray, lv]; exact hl, by simpa using rv⟩) fun z => absurd (if_neg na) z
    by_cases hb : b ∈ cs.map (·.2)
    · exact .inr (.inl ⟨hb, if_pos hb⟩)
    · exact .inl (if_neg hb)
  | none =>
    refine go (fun b => if b = a then some (.frz ob (.lst (ns.map V.int))) else if b ∈ cs.map (·.2) then some (.tbl #[]) else none) (fun b => ?_) (fun q hq => ?_) (.inl (.inr ⟨ob, if_pos rfl⟩)) fun _ => hk
    · by_cases hb : b = a
      · exact .inr (.inr ⟨hb, if_pos hb⟩)
      · by_cases hm : b ∈ cs.map (·.2)
        · exact .inr (.inl ⟨hm, (if_neg hb).trans (if_pos hm)⟩)
        · exact .inl ((if_neg hb).trans (if_neg hm))
    · have : q.2 ≠ a := fun z => na (by rw [← z]; exact memT q hq)
      exact (if_neg this).trans (if_pos (memT q hq))
end
/-- what is known of a def that makes lambdas: its code object and table -/
structure MakT (h : Heap) (f c P : Addr) : Prop where
  code : ∃ (o : Obj) (fd : FuncData), h.get? f = some o ∧ o.data = .func fd ∧ fd.code = .ref c
  hd : PySem.W.CodeHd h c P
  tab : h.get? P = some tab0
theorem walk_ofT {l : PySem.W.OpenLaw} {n k : Nat} {q : Program} {loose : List Str} {XP : (Str → Option Value) → Heap → Prop} {YP : World → Heap → Prop} {d : DefRec} {K : Params → PySem.W.Frag} {sp : PySem.W.Frag → List Addr → Sp} {x : Str} (mk : List Str)
    (hn : l.most = some n) (hn2 : n ≤ sizeLine) (hdf : d.params.defaults = []) (hr : Room k callerA) (hmk : mk.all (fun y => (recsOf q).any fun e => e.name == y) = true)
    (hY : ∀ (w : World) (h : Heap), YP w h → (K w.params).In h)
    (F : ∀ (w : World) (mg : Str → Option Value) (fa : Addr) (h : Heap), (K w.params).In h → h.Ns mainGlobals mg → mg d.name = some (.ref fa) → (∀ y ∈ mk, ∃ f c P, mg y = some (.ref f) ∧ MakT h f c P) →
      ∃ (fd : FuncData) (cs : List (Addr × Addr)), (∀ (s : Shared) (u : Value), BindsTo s fd ⟨[u], []⟩ [(x, u)]) ∧ (∀ p ∈ cs, h.get? p.2 = some tab0 ∧ (K w.params).lookup p.2 = none ∧ PySem.W.CodeHd h p.1 p.2) ∧
        ∀ base : Heap, (K w.params).In base → base.Ns mainGlobals mg → (∀ p ∈ cs, LamX.TabB base mg p.1 p.2) → FnG l.prog w (K w.params) mg base (L2.CX l.prog w) k fa fd [x] (sp (K w.params) (cs.map (·.2))))
    (hsp : ∀ (K : PySem.W.Frag) (ts : List Addr) (H : Hp) (a : Addr) (ns : List Int), ns.length ≤ n → (∀ p ∈ ts, H p = some (.tbl #[])) → SqL K H a (ns.map V.int) → sp K ts [.ref a] H (fun v _ => v = .bl true) E0) :
    PySem.W.WalkO q loose XP YP l.row.toRowW d [] (fun f vs => PySem.call f vs) := by
  refine Att.attach_call hn hdf fun w s₀ s₁ mg mb fa o pm cd doc a vs ns G Y ho hd hcd hmg hobj hints hlen hg => ?_
  have mks : ∀ y ∈ mk, ∃ f c P, mg y = some (.ref f) ∧ MakT s₁.heap f c P := fun y hy => by
    obtain ⟨e, he, hne⟩ := List.any_eq_true.mp (List.all_eq_true.mp hmk y hy)
    obtain ⟨f, o', fd', c, P', g1, g2, g3, g4, g5, g6⟩ := G.T.tab e he
    rw [beq_iff_eq.mp hne] at g1
    exact ⟨f, c, P', g1, ⟨o', fd', g2, g3, g4⟩, .of g5 g6, g6.2⟩
  obtain ⟨fd, cs, hb, hcs, hF⟩ := F w mg fa _ (hY w _ Y) G.T.g hmg mks
  exact law_callT (hY w _ Y) G.T.g G.T.b G.T.builtins G.T.nolimit hg (fun p hp => (hcs p hp).1) (fun p hp => (hcs p hp).2.1) (fun p hp => (hcs p hp).2.2) G.T.bmain hobj hints (Nat.le_trans hlen hn2) hr hF hb fun H hT hS =>
    hsp (K w.params) _ H a ns hlen (fun b hb => by obtain ⟨p, hp, rfl⟩ := List.mem_map.mp hb; exact hT p hp) hS
end Lx
/-! Pure readings: values as data, the heap out of sight. -/
namespace Px
open PySem PySem.Spec PyProof.Rows L2 Lx
abbrev St := L2.St
mutual
inductive Rq (F : Hp) : V → PyData → Prop
  | non : Rq F .non .none
  | bl (b : Bool) : Rq F (.bl b) (.bool b)
  | int (i : Int) : Rq F (.int i) (.int i)
  | str (x : Str) : Rq F (.str x) (.str x)
  | lst {a : Addr} {xs : List V} {ds : List PyData} : F a = some (.lst xs) → RqAll F xs ds → Rq F (.ref a) (.list ds)
  | tup {a : Addr} {xs : List V} {ds : List PyData} : F a = some (.tup xs) → RqAll F xs ds → Rq F (.ref a) (.tuple ds)
  | dct {a : Addr} {kvs : List (Key × V)} {ds : List (PyData × PyData)} : F a = some (.dK kvs) → ds.map (·.1) = kvs.map (fun p => kD p.1) → RqAll F (kvs.map (·.2)) (ds.map (·.2)) → Rq F (.ref a) (.dict ds)
inductive RqAll (F : Hp) : List V → List PyData → Prop
  | nil : RqAll F [] []
  | cons {v : V} {vs : List V} {d : PyData} {ds : List PyData} : Rq F v d → RqAll F vs ds → RqAll F (v :: vs) (d :: ds)
end
mutual
theorem Rq.same {H H' : Hp} (k : Same H H') : ∀ {v : V} {d : PyData}, Rq H v d → Rq H' v d
  | _, _, .non => .non
  | _, _, .bl b => .bl b
  | _, _, .int i => .int i
  | _, _, .str x => .str x
  | _, _, .lst e r => .lst (k _ _ e) (RqAll.same k r)
  | _, _, .tup e r => .tup (k _ _ e) (RqAll.same k r)
  | _, _, .dct e q r => .dct (k _ _ e) q (RqAll.same k r)
theorem RqAll.same {H H' : Hp} (k : Same H H') : ∀ {vs : List V} {ds : List PyData}, RqAll H vs ds → RqAll H' vs ds
  | _, _, .nil => .nil
  | _, _, .cons a b => .cons (Rq.same k a) (RqAll.same k b)
end
theorem RqAll.len {F : Hp} : ∀ {vs : List V} {ds : List PyData}, RqAll F vs ds → vs.length = ds.length
  | _, _, .nil => rfl
  | _, _, .cons _ b => by rw [List.length_cons, List.length_cons, b.len]
theorem RqAll.get {F : Hp} : ∀ {vs : List V} {ds : List PyData} {i : Nat} {d : PyData}, RqAll F vs ds → ds[i]? = some d → ∃ v, vs[i]? = some v ∧ Rq F v d
  | _, _, i, d, .nil, h => by simp at h
  | _, _, 0, d, .cons a b, h => by
    simp at h
    subst h
    exact ⟨_, rfl, a⟩
  | _, _, i + 1, d, .cons a b, h => by
    simp at h
    obtain ⟨v, e, r⟩ := b.get h
    exact ⟨v, by simpa using e, r⟩
theorem RqAll.app {F : Hp} : ∀ {vs ws : List V} {ds es : List PyData}, RqAll F vs ds → RqAll F ws es → RqAll F (vs ++ ws) (ds ++ es)
  | _, _, _, _, .nil, h => h
  | _, _, _, _, .cons a b, h => .cons a (b.app h)
theorem RqAll.take {F : Hp} : ∀ {vs : List V} {ds : List PyData} (n : Nat), RqAll F vs ds → RqAll F (vs.take n) (ds.take n)
  | _, _, 0, _ => .nil
  | _, _, n + 1, .nil => .nil
  | _, _, n + 1, .cons a b => .cons a (b.take n)
theorem RqAll.drop {F : Hp} : ∀ {vs : List V} {ds : List PyData} (n : Nat), RqAll F vs ds → RqAll F (vs.drop n) (ds.drop n)
  | _, _, 0, h => h
  | _, _, n + 1, .nil => .nil
  | _, _, n + 1, .cons a b => b.drop n
theorem RqAll.set {F : Hp} : ∀ {vs : List V} {ds : List PyData} (n : Nat) {v : V} {d : PyData}, RqAll F vs ds → Rq F v d → RqAll F (vs.set n v) (ds.set n d)
  | _, _, 0, _, _, .nil, h => .nil
  | _, _, n + 1, _, _, .nil, h => .nil
  | _, _, 0, _, _, .cons a b, h => .cons h b
  | _, _, n + 1, _, _, .cons a b, h => .cons a (b.set n h)

/-! ### slots and heaps -/
abbrev FD := List (Str × PyData)
def ExcD (F : Hp) (d : Option Addr) (ds : FD) : Prop := (d = none ∧ ds = []) ∨ ∃ a fs, d = some a ∧ F a = some (.xd fs) ∧ fs.map (·.1) = ds.map (·.1) ∧ RqAll F (fs.map (·.2)) (ds.map (·.2))
theorem ExcD.same {F F' : Hp} (k : Same F F') {d : Option Addr} {ds : FD} (h : ExcD F d ds) : ExcD F' d ds :=
  h.imp id fun ⟨a, fs, e, q, m, r⟩ => ⟨a, fs, e, k _ _ q, m, r.same k⟩
/-- the exception at p, of the class at C, its fields ds -/
def ExcV (F : Hp) (p : Addr × Obj) (C : Addr) (ds : FD) : Prop := p.2.cls = .ref C ∧ (∃ vs, p.2.data = .fields vs) ∧ ExcD F p.2.dict ds
theorem ExcV.same {F F' : Hp} (k : Same F F') {p : Addr × Obj} {C : Addr} {ds : FD} (h : ExcV F p C ds) : ExcV F' p C ds := ⟨h.1, h.2.1, h.2.2.same k⟩
/-- at x an instance of the class at C, its fields ds -/
def InsD (F : Hp) (x C : Addr) (ds : FD) : Prop := ∃ dx fs, F x = some (.ins C dx fs) ∧ fs.map (·.1) = ds.map (·.1) ∧ RqAll F (fs.map (·.2)) (ds.map (·.2))
theorem InsD.same {F F' : Hp} (k : Same F F') {x C : Addr} {ds : FD} (h : InsD F x C ds) : InsD F' x C ds := let ⟨dx, fs, e, m, r⟩ := h; ⟨dx, fs, k _ _ e, m, r.same k⟩
inductive Sl where
  | d (x : PyData)
  | own (xs : List PyData)
  | raw (v : V)
  | exc (p : Addr × Obj) (C : Addr) (ds : List (Str × PyData))
  | obj (C : Addr) (ds : List (Str × PyData))
  | slf (x C : Addr) (ds : List (Str × PyData))
abbrev Ev := List (Option Sl)
def RelS (F : Hp) (v : V) : Sl → Prop
  | .d x => Rq F v x
  | .raw u => v = u
  | .own _ => False
  | .exc p C ds => v = .ref p.1 ∧ ExcV F p C ds
  | .obj C ds => ∃ x, v = .ref x ∧ InsD F x C ds
  | .slf _ _ _ => False
inductive RelSs (F : Hp) : List V → List Sl → Prop
  | nil : RelSs F [] []
  | cons {v : V} {vs : List V} {d : Sl} {ds : List Sl} : RelS F v d → RelSs F vs ds → RelSs F (v :: vs) (d :: ds)
theorem RelS.same {F F' : Hp} (k : Same F F') {v : V} : ∀ {s : Sl}, RelS F v s → RelS F' v s
  | .d _, h => Rq.same k h
  | .raw _, h => h
  | .own _, h => h
  | .exc _ _ _, h => ⟨h.1, h.2.same k⟩
  | .obj _ _, ⟨x, e, h⟩ => ⟨x, e, h.same k⟩
  | .slf _ _ _, h => h
theorem RelSs.same {F F' : Hp} (k : Same F F') : ∀ {vs : List V} {ss : List Sl}, RelSs F vs ss → RelSs F' vs ss
  | _, _, .nil => .nil
  | _, _, .cons a b => .cons (a.same k) (b.same k)
theorem RelSs.len {F : Hp} : ∀ {vs : List V} {ss : List Sl}, RelSs F vs ss → vs.length = ss.length
  | _, _, .nil => rfl
  | _, _, .cons _ b => by rw [List.length_cons, List.length_cons, b.len]
/-- nothing stands at q, or a table of code objects -/
def Nw (H : Hp) (q : Addr) : Prop := ∀ o, H q = some o → ∃ ps, o = .tbl ps
theorem Nw.of {H : Hp} {q : Addr} (h : H q = none) : Nw H q := fun o e => by rw [h] at e; cases e
def SlotR (H0 F H : Hp) (ov : Option V) : Option Sl → Prop
  | none => True
  | some (.own xs) => ∃ q ys, ov = some (.ref q) ∧ F q = none ∧ Nw H0 q ∧ H q = some (.lst ys) ∧ RqAll F ys xs
  | some (.d x) => ∃ v, ov = some v ∧ Rq F v x
  | some (.raw u) => ov = some u
  | some (.exc p C ds) => ov = some (.ref p.1) ∧ ExcV F p C ds
  | some (.obj C ds) => ∃ x, ov = some (.ref x) ∧ InsD F x C ds
  | some (.slf x C ds) => ∃ dx fs, ov = some (.ref x) ∧ F x = none ∧ Nw H0 x ∧ H x = some (.ins C dx fs) ∧ fs.map (·.1) = ds.map (·.1) ∧ RqAll F (fs.map (·.2)) (ds.map (·.2))
/-- things of one's own: lists, the instance that is being made -/
def Ob (o : HO) : Prop := (∃ ys, o = .lst ys) ∨ ∃ C dx fs, o = .ins C dx fs
theorem Ob.l {ys : List V} : Ob (.lst ys) := .inl ⟨ys, rfl⟩
theorem Ob.i {C dx : Addr} {fs : List (Str × V)} : Ob (.ins C dx fs) := .inr ⟨C, dx, fs, rfl⟩
theorem Ob.nt {o : HO} (h : Ob o) : ∀ ps, o ≠ .tbl ps := fun ps z => by rcases h with ⟨_, e⟩ | ⟨_, _, _, e⟩ <;> rw [e] at z <;> cases z
theorem Ob.nd {o : HO} (h : Ob o) : ∀ kv, o ≠ .dK kv := fun ps z => by rcases h with ⟨_, e⟩ | ⟨_, _, _, e⟩ <;> rw [e] at z <;> cases z
structure Cc where
  p : Addr
  l : Addr
  T : List (Addr × Str)
def Cc.out (c : Cc) (b : Addr) : Prop := b = c.p ∨ ∃ q, (b, q) ∈ c.T
structure Bas (c : Cc) (H0 F0 F H : Hp) : Prop where
  sub : Same F H
  fx : ∀ b, c.out b → F b = none
  pen : ∃ ns a d k f, PenAt H c.p c.l ns a d k f ∧ F c.l = some (.lst (ns.map V.int))
  tab : LamX.Tabs c.T H
  fr : ∀ b o, ¬ c.out b → (∀ ps, o ≠ .tbl ps) → H0 b = some o → H b = some o
  fF : Same F0 F
  fN : ∀ b, F b ≠ none → F0 b ≠ none ∨ Nw H0 b
  fT : ∀ b ps, F b ≠ some (.tbl ps)
  ou : ∀ b, c.out b → H0 b ≠ none
structure Rel (c : Cc) (H0 F0 : Hp) (env : Ev) (F : Hp) (σ : St) (H : Hp) : Prop where
  b : Bas c H0 F0 F H
  len : σ.length = env.length
  sl : ∀ (i : Nat) (ov : Option V) (s : Option Sl), σ[i]? = some ov → env[i]? = some s → SlotR H0 F H ov s
  sep : ∀ (i j : Nat) (q : Addr) (xs ys : List PyData), env[i]? = some (some (.own xs)) → env[j]? = some (some (.own ys)) → σ[i]? = some (some (.ref q)) → σ[j]? = some (some (.ref q)) → i = j
theorem same_refl (H : Hp) : Same H H := fun _ _ h => h
theorem same_trans {H H1 H2 : Hp} (a : Same H H1) (b : Same H1 H2) : Same H H2 := fun x o h => b x o (a x o h)
section
variable {c : Cc} {H0 F0 F H : Hp} {env : Ev} {σ : St} {q b : Addr} {o : HO}
theorem Bas.outH (B : Bas c H0 F0 F H) (h : c.out b) : (∃ kv, H b = some (.dK kv)) ∨ ∃ ps, H b = some (.tbl ps) := by
  rcases h with rfl | ⟨q, hq⟩
  · obtain ⟨ns, a, d, k, f, P, _⟩ := B.pen
    exact .inl ⟨_, P.1⟩
  · obtain ⟨ps, e, _⟩ := B.tab _ hq
    exact .inr ⟨ps, e⟩
theorem Bas.nout (B : Bas c H0 F0 F H) (h : H q = none) : ¬ c.out q := fun z => by
  rcases B.outH z with ⟨_, e⟩ | ⟨_, e⟩ <;> rw [h] at e <;> cases e
theorem Bas.noutL (B : Bas c H0 F0 F H) {xs : List V} (h : H q = some (.lst xs)) : ¬ c.out q := fun z => by
  rcases B.outH z with ⟨_, e⟩ | ⟨_, e⟩ <;> rw [h] at e <;> cases e
theorem Bas.noutO (B : Bas c H0 F0 F H) (ho : Ob o) (h : H q = some o) : ¬ c.out q := fun z => by
  rcases B.outH z with ⟨kv, e⟩ | ⟨ps, e⟩
  · rw [h] at e; exact ho.nd kv (Option.some.inj e)
  · rw [h] at e; exact ho.nt ps (Option.some.inj e)
theorem Bas.h0 (B : Bas c H0 F0 F H) (h : H q = none) : Nw H0 q := fun o e => by
  by_cases n : ∃ ps, o = .tbl ps
  · exact n
  · rw [B.fr q o (B.nout h) (fun ps z => n ⟨ps, z⟩) e] at h; cases h
theorem Bas.fnone (B : Bas c H0 F0 F H) (h : H q = none) : F q = none := by
  cases e : F q with
  | none => rfl
  | some o => rw [B.sub q o e] at h; cases h
/-- an object laid, seen by all -/
theorem Bas.alloc (B : Bas c H0 F0 F H) (h : H q = none) (ho : ∀ ps, o ≠ .tbl ps := by intro _ z; cases z) : Bas c H0 F0 (upd F q o) (upd H q o) := by
  have hb : ∀ {b u}, H b = some u → b ≠ q := fun e z => by rw [z, h] at e; cases e
  refine ⟨fun b u e => ?_, fun b hb' => ?_, ?_, B.tab.ext fun b u e => by rw [upd_ne (hb e)]; exact e, fun b u n m e => ?_, fun b u e => ?_, fun b n => ?_, fun b ps e => ?_, B.ou⟩
  · by_cases z : b = q
    · subst z; rw [upd_same] at e ⊢; exact e
    · rw [upd_ne z] at e ⊢; exact B.sub b u e
  · rw [upd_ne fun z => B.nout h (by rw [← z]; exact hb')]; exact B.fx b hb'
  · obtain ⟨ns, a, d, k, f, ⟨e1, e2, r⟩, e3⟩ := B.pen
    exact ⟨ns, a, d, k, f, ⟨by rw [upd_ne (hb e1)]; exact e1, by rw [upd_ne (hb e2)]; exact e2, r⟩, by rw [upd_ne (hb e2)]; exact e3⟩
  · rw [upd_ne (hb (B.fr b u n m e))]; exact B.fr b u n m e
  · have := B.fF b u e
    rw [upd_ne (hb (B.sub _ _ this))]; exact this
  · by_cases z : b = q
    · subst z; exact .inr (B.h0 h)
    · rw [upd_ne z] at n; exact B.fN b n
  · by_cases z : b = q
    · subst z; rw [upd_same] at e; exact ho _ (Option.some.inj e)
    · rw [upd_ne z] at e; exact B.fT b ps e
/-- an object laid, one's own -/
theorem Bas.new (B : Bas c H0 F0 F H) (h : H q = none) : Bas c H0 F0 F (upd H q o) := by
  have hb : ∀ {b u}, H b = some u → b ≠ q := fun e z => by rw [z, h] at e; cases e
  refine ⟨fun b u e => ?_, B.fx, ?_, B.tab.ext fun b u e => by rw [upd_ne (hb e)]; exact e, fun b u n m e => ?_, B.fF, B.fN, B.fT, B.ou⟩
  · rw [upd_ne (hb (B.sub b u e))]; exact B.sub b u e
  · obtain ⟨ns, a, d, k, f, ⟨e1, e2, r⟩, e3⟩ := B.pen
    exact ⟨ns, a, d, k, f, ⟨by rw [upd_ne (hb e1)]; exact e1, by rw [upd_ne (hb e2)]; exact e2, r⟩, e3⟩
  · rw [upd_ne (hb (B.fr b u n m e))]; exact B.fr b u n m e
/-- one's own list written -/
theorem Bas.wr (B : Bas c H0 F0 F H) {ys zs : List V} (h : H q = some (.lst ys)) (hF : F q = none) (h0 : Nw H0 q) : Bas c H0 F0 F (upd H q (.lst zs)) := by
  have no := B.noutL h
  have hF' : ∀ {b u}, F b = some u → b ≠ q := fun e z => by rw [z, hF] at e; cases e
  refine ⟨fun b u e => ?_, B.fx, ?_, fun pq hp => ?_, fun b u n m e => ?_, B.fF, B.fN, B.fT, B.ou⟩
  · rw [upd_ne (hF' e)]; exact B.sub b u e
  · obtain ⟨ns, a, d, k, f, ⟨e1, e2, r⟩, e3⟩ := B.pen
    refine ⟨ns, a, d, k, f, ⟨?_, by rw [upd_ne (hF' e3)]; exact e2, r⟩, e3⟩
    rw [upd_ne fun z => no (by rw [← z]; exact .inl rfl)]; exact e1
  · obtain ⟨ps, e, tr, hc⟩ := B.tab pq hp
    refine ⟨ps, by rw [upd_ne fun z => no (by rw [← z]; exact .inr ⟨_, hp⟩)]; exact e, tr, fun pos cv hcv => ?_⟩
    obtain ⟨c', e1, e2⟩ := hc pos cv hcv
    refine ⟨c', e1, ?_⟩
    rw [upd_ne fun z => ?_]
    · exact e2
    · subst z
      rw [h] at e2
      cases e2
  · rw [upd_ne fun z => by subst z; obtain ⟨ps, z⟩ := h0 u e; exact m ps z]; exact B.fr b u n m e
/-- one's own object shown to all -/
theorem Bas.freeze (B : Bas c H0 F0 F H) {ys : List V} (h : H q = some (.lst ys)) (hF : F q = none) (h0 : Nw H0 q) : Bas c H0 F0 (upd F q (.lst ys)) H := by
  have no := B.noutL h
  have hF' : ∀ {b u}, F b = some u → b ≠ q := fun e z => by rw [z, hF] at e; cases e
  refine ⟨fun b u e => ?_, fun b hb => ?_, ?_, B.tab, B.fr, fun b u e => ?_, fun b n => ?_, fun b ps e => ?_, B.ou⟩
  · by_cases z : b = q
    · subst z; rw [upd_same] at e; cases e; exact h
    · rw [upd_ne z] at e; exact B.sub b u e
  · rw [upd_ne fun z => no (by rw [← z]; exact hb)]; exact B.fx b hb
  · obtain ⟨ns, a, d, k, f, e1, e3⟩ := B.pen
    exact ⟨ns, a, d, k, f, e1, by rw [upd_ne (hF' e3)]; exact e3⟩
  · have := B.fF b u e
    rw [upd_ne (hF' this)]; exact this
  · by_cases z : b = q
    · subst z; exact .inr h0
    · rw [upd_ne z] at n; exact B.fN b n
  · by_cases z : b = q
    · subst z; rw [upd_same] at e; cases e
    · rw [upd_ne z] at e; exact B.fT b ps e
theorem Bas.here (B : Bas c H0 F0 F H) : Bas c H F F H :=
  ⟨B.sub, B.fx, B.pen, B.tab, fun _ _ _ _ e => e, same_refl F, fun b n => .inl n, B.fT, fun b h => by rcases B.outH h with ⟨_, e⟩ | ⟨_, e⟩ <;> rw [e] <;> simp⟩
theorem same_upd (h : F q = none) : Same F (upd F q o) := fun b u e => by rw [upd_ne fun z => by rw [z, h] at e; cases e]; exact e
/-- a step from H to H' seen from the entry -/
theorem Bas.after {F' H' : Hp} (B : Bas c H0 F0 F H) (A : Bas c H F F' H') : Bas c H0 F0 F' H' := by
  refine ⟨A.sub, A.fx, A.pen, A.tab, fun b o n m e => A.fr b o n m (B.fr b o n m e), same_trans B.fF A.fF, fun b n => ?_, A.fT, B.ou⟩
  rcases A.fN b n with z | z
  · exact B.fN b z
  · refine .inr fun o e => ?_
    by_cases m : ∃ ps, o = .tbl ps
    · exact m
    · exact absurd (z o (B.fr b o (fun hb => n (A.fx b hb)) (fun ps h => m ⟨ps, h⟩) e)) m
/-- a lambda was made -/
theorem Bas.extN {H' : Hp} (B : Bas c H0 F0 F H) (e : LamX.ExtN H H') (t : LamX.Tabs c.T H') : Bas c H0 F0 F H' := by
  refine ⟨fun b o h => e b o (B.sub b o h) fun ps z => B.fT b ps (h.trans (congrArg some z)), B.fx, ?_, t, fun b o n m h => e b o (B.fr b o n m h) m, B.fF, B.fN, B.fT, B.ou⟩
  obtain ⟨ns, a, d, k, f, ⟨e1, e2, r⟩, e3⟩ := B.pen
  exact ⟨ns, a, d, k, f, ⟨e _ _ e1 (fun ps z => by cases z), e _ _ e2 (fun ps z => by cases z), r⟩, e3⟩
theorem SlotR.same {F' H' : Hp} (k : Same F F') (ko : ∀ q o, Ob o → F q = none → Nw H0 q → H q = some o → F' q = none ∧ H' q = some o) {ov : Option V} : ∀ {s : Option Sl}, SlotR H0 F H ov s → SlotR H0 F' H' ov s
  | none, _ => True.intro
  | some (.d _), ⟨v, e, r⟩ => ⟨v, e, r.same k⟩
  | some (.raw _), h => h
  | some (.exc _ _ _), h => ⟨h.1, h.2.same k⟩
  | some (.obj _ _), ⟨x, e, h⟩ => ⟨x, e, h.same k⟩
  | some (.own _), ⟨q, ys, e, e1, e2, e3, r⟩ => ⟨q, ys, e, (ko q _ .l e1 e2 e3).1, e2, (ko q _ .l e1 e2 e3).2, r.same k⟩
  | some (.slf x _ _), ⟨dx, fs, e, e1, e2, e3, m, r⟩ => ⟨dx, fs, e, (ko x _ .i e1 e2 e3).1, e2, (ko x _ .i e1 e2 e3).2, m, r.same k⟩
theorem Rel.move {F' H' : Hp} (R : Rel c H0 F0 env F σ H) (B : Bas c H0 F0 F' H') (k : Same F F') (ko : ∀ q o, Ob o → F q = none → Nw H0 q → H q = some o → F' q = none ∧ H' q = some o) : Rel c H0 F0 env F' σ H' :=
  ⟨B, R.len, fun i ov s e1 e2 => (R.sl i ov s e1 e2).same k ko, R.sep⟩
theorem Rel.alloc (R : Rel c H0 F0 env F σ H) (h : H q = none) (o : HO) (ho : ∀ ps, o ≠ .tbl ps := by intro _ z; cases z) : Rel c H0 F0 env (upd F q o) σ (upd H q o) :=
  R.move (R.b.alloc h ho) (same_upd (R.b.fnone h)) fun b _ _ e1 _ e3 => by
    have : b ≠ q := fun z => by rw [z, h] at e3; cases e3
    rw [upd_ne this, upd_ne this]; exact ⟨e1, e3⟩
theorem Rel.new (R : Rel c H0 F0 env F σ H) (h : H q = none) (o : HO) : Rel c H0 F0 env F σ (upd H q o) :=
  R.move (R.b.new h) (same_refl F) fun b _ _ e1 _ e3 => by
    have : b ≠ q := fun z => by rw [z, h] at e3; cases e3
    rw [upd_ne this]; exact ⟨e1, e3⟩
theorem Rel.extN {H' : Hp} (R : Rel c H0 F0 env F σ H) (e : LamX.ExtN H H') (t : LamX.Tabs c.T H') : Rel c H0 F0 env F σ H' :=
  R.move (R.b.extN e t) (same_refl F) fun b _ ho e1 _ e3 => ⟨e1, e b _ e3 ho.nt⟩
theorem Rel.after {F' H' : Hp} (R : Rel c H0 F0 env F σ H) (A : Bas c H F F' H') : Rel c H0 F0 env F' σ H' :=
  R.move (R.b.after A) A.fF fun b _ ho e1 _ e3 => by
    refine ⟨?_, A.fr b _ (R.b.noutO ho e3) ho.nt e3⟩
    cases e : F' b with
    | none => rfl
    | some o =>
      rcases A.fN b (by rw [e]; simp) with z | z
      · exact absurd e1 z
      · obtain ⟨ps, z⟩ := z _ e3; exact absurd z (ho.nt ps)
theorem Rel.set (R : Rel c H0 F0 env F σ H) {v : V} {s : Sl} (i : Nat) (r : RelS F v s) : Rel c H0 F0 (env.set i (some s)) F (σ.set i (some v)) H := by
  have nown : ∀ xs, s ≠ .own xs := fun xs z => by subst z; exact r
  have nslf : ∀ x C ds, s ≠ .slf x C ds := fun x C ds z => by subst z; exact r
  refine ⟨R.b, by rw [List.length_set, List.length_set]; exact R.len, fun j ov s' e1 e2 => ?_, fun j k q xs ys e1 e2 e3 e4 => ?_⟩
  · by_cases hij : i = j
    · subst hij
      have h1 : i < σ.length := by
        have := (List.getElem?_eq_some_iff.mp e1).1
        simpa using this
      have h2 : i < env.length := by rw [← R.len]; exact h1
      rw [List.getElem?_set_self h1] at e1
      rw [List.getElem?_set_self h2] at e2
      cases e1
      cases e2
      cases s with
      | d x => exact ⟨v, rfl, r⟩
      | raw u => exact congrArg some r
      | exc p C ds => exact ⟨congrArg some r.1, r.2⟩
      | obj C ds => exact ⟨r.choose, congrArg some r.choose_spec.1, r.choose_spec.2⟩
      | slf x C ds => exact absurd rfl (nslf x C ds)
      | own xs => exact absurd rfl (nown xs)
    · rw [List.getElem?_set_ne hij] at e1 e2
      exact R.sl j ov s' e1 e2
  · have ne1 : i ≠ j := fun z => by
      subst z
      have h2 : i < env.length := by
        have := (List.getElem?_eq_some_iff.mp e1).1
        simpa using this
      rw [List.getElem?_set_self h2] at e1
      exact nown xs (Option.some.inj (Option.some.inj e1))
    have ne2 : i ≠ k := fun z => by
      subst z
      have h2 : i < env.length := by
        have := (List.getElem?_eq_some_iff.mp e2).1
        simpa using this
      rw [List.getElem?_set_self h2] at e2
      exact nown ys (Option.some.inj (Option.some.inj e2))
    rw [List.getElem?_set_ne ne1] at e1 e3
    rw [List.getElem?_set_ne ne2] at e2 e4
    exact R.sep j k q xs ys e1 e2 e3 e4
/-- one forgets what stands in a slot -/
theorem Rel.any (R : Rel c H0 F0 env F σ H) (i : Nat) (ov : Option V) : Rel c H0 F0 (env.set i none) F (σ.set i ov) H := by
  refine ⟨R.b, by rw [List.length_set, List.length_set]; exact R.len, fun j ov s' e1 e2 => ?_, fun j k q xs ys e1 e2 e3 e4 => ?_⟩
  · by_cases hij : i = j
    · subst hij
      have h2 : i < env.length := by
        have := (List.getElem?_eq_some_iff.mp e2).1
        simpa using this
      rw [List.getElem?_set_self h2] at e2
      cases e2
      exact True.intro
    · rw [List.getElem?_set_ne hij] at e1 e2
      exact R.sl j ov s' e1 e2
  · have ne1 : i ≠ j := fun z => by
      subst z
      have h2 : i < env.length := by
        have := (List.getElem?_eq_some_iff.mp e1).1
        simpa using this
      rw [List.getElem?_set_self h2] at e1
      cases e1
    have ne2 : i ≠ k := fun z => by
      subst z
      have h2 : i < env.length := by
        have := (List.getElem?_eq_some_iff.mp e2).1
        simpa using this
      rw [List.getElem?_set_self h2] at e2
      cases e2
    rw [List.getElem?_set_ne ne1] at e1 e3
    rw [List.getElem?_set_ne ne2] at e2 e4
    exact R.sep j k q xs ys e1 e2 e3 e4
end
end Px
namespace Px
open PySem PySem.Spec PyProof.Rows L2 Lx
abbrev XP := Ev → Addr → FD → Prop
abbrev PTE := Ev → (Sl → Prop) → XP → Prop
abbrev PTT := Ev → (Bool → Prop) → XP → Prop
abbrev PTA := Ev → (List Sl → Prop) → XP → Prop
structure PD where
  nx : Ev → Prop
  rt : Sl → Prop
  bk : Ev → Prop
  ct : Ev → Prop
  ex : XP
abbrev PTS := PD → Ev → Prop
section
variable (c : Cc) (H0 F0 : Hp) (W : WX)
def LinkX (E : XP) : Prop := ∀ (env' : Ev) (F' : Hp) (σ' : St) (H' : Hp) (C : Addr) (d : Option Addr) (ds : FD), Rel c H0 F0 env' F' σ' H' → ExcD F' d ds → E env' C ds → W (.ref C) d σ' H'
def Fin (env : Ev) (F : Hp) (σ : St) (R : Sl → Prop) (Q : VK) : Prop := ∀ (v : V) (s : Sl) (F' H' : Hp), Rel c H0 F0 env F' σ H' → Same F F' → RelS F' v s → R s → Q v H'
def FinT (env : Ev) (F : Hp) (σ : St) (R : Bool → Prop) (Q : Bool → Hp → Prop) : Prop := ∀ (b : Bool) (F' H' : Hp), Rel c H0 F0 env F' σ H' → Same F F' → R b → Q b H'
def FinA (env : Ev) (F : Hp) (σ : St) (R : List Sl → Prop) (Q : List V → Hp → Prop) : Prop := ∀ (vs : List V) (ss : List Sl) (F' H' : Hp), Rel c H0 F0 env F' σ H' → Same F F' → RelSs F' vs ss → R ss → Q vs H'
end
section
variable (c : Cc) (W : WX)
def Rd (t : TE) (pt : PTE) : Prop := ∀ (H0 F0 : Hp) (env : Ev) (F : Hp) (σ : St) (H : Hp) (R : Sl → Prop) (E : XP) (Q : VK), Rel c H0 F0 env F σ H → LinkX c H0 F0 W E → pt env R E → Fin c H0 F0 env F σ R Q → t σ H Q
def RdT (t : TT) (pt : PTT) : Prop := ∀ (H0 F0 : Hp) (env : Ev) (F : Hp) (σ : St) (H : Hp) (R : Bool → Prop) (E : XP) (Q : Bool → Hp → Prop), Rel c H0 F0 env F σ H → LinkX c H0 F0 W E → pt env R E → FinT c H0 F0 env F σ R Q → t σ H Q
def RdA (t : TA) (pt : PTA) : Prop := ∀ (H0 F0 : Hp) (env : Ev) (F : Hp) (σ : St) (H : Hp) (R : List Sl → Prop) (E : XP) (Q : List V → Hp → Prop), Rel c H0 F0 env F σ H → LinkX c H0 F0 W E → pt env R E → FinA c H0 F0 env F σ R Q → t σ H Q
structure Lk (H0 F0 F : Hp) (D : Ends) (P : PD) : Prop where
  nx : ∀ (env' : Ev) (F' : Hp) (σ' : St) (H' : Hp), Rel c H0 F0 env' F' σ' H' → Same F F' → P.nx env' → D.nx σ' H'
  rt : ∀ (v : V) (s : Sl) (F' H' : Hp), Bas c H0 F0 F' H' → RelS F' v s → P.rt s → D.rt v H'
  bk : ∀ (env' : Ev) (F' : Hp) (σ' : St) (H' : Hp), Rel c H0 F0 env' F' σ' H' → Same F F' → P.bk env' → D.bk σ' H'
  ct : ∀ (env' : Ev) (F' : Hp) (σ' : St) (H' : Hp), Rel c H0 F0 env' F' σ' H' → Same F F' → P.ct env' → D.ct σ' H'
  ex : LinkX c H0 F0 W P.ex
def RdS (t : TS) (pt : PTS) : Prop := ∀ (H0 F0 : Hp) (env : Ev) (F : Hp) (σ : St) (H : Hp) (D : Ends) (P : PD), Rel c H0 F0 env F σ H → Lk c W H0 F0 F D P → pt P env → t D σ H
end
def PuE (X : Cx) (c : Cc) (W : WX) (e : Expr) (pt : PTE) : Prop := ∃ t, PE X e t ∧ Rd c W t pt
def PuT (X : Cx) (c : Cc) (W : WX) (e : Expr) (pt : PTT) : Prop := ∃ t, PT X e t ∧ RdT c W t pt
def PuW (X : Cx) (c : Cc) (W : WX) (e : Expr) (pt : PTT) : Prop := ∃ t, PW X e t ∧ RdT c W t pt
def PuA (X : Cx) (c : Cc) (W : WX) (es : List Expr) (pt : PTA) : Prop := ∃ t, PA X es t ∧ RdA c W t pt
def PuS (X : Cx) (c : Cc) (W : WX) (st : Stmt) (pt : PTS) : Prop := ∃ t, PS X st t ∧ RdS c W t pt
def PuSs (X : Cx) (c : Cc) (W : WX) (st : List Stmt) (pt : PTS) : Prop := ∃ t, PSs X st t ∧ RdS c W t pt

/-! ### the pure readings -/
def nth : Ev → Nat → Option Sl
  | [], _ => none
  | a :: _, 0 => a
  | _ :: l, n + 1 => nth l n
def pVar (i : Nat) : PTE := fun env R _ => match nth env i with
  | some (.d x) => R (.d x)
  | some (.raw v) => R (.raw v)
  | some (.exc p C ds) => R (.exc p C ds)
  | some (.obj C ds) => R (.obj C ds)
  | _ => False
def pC (s : Sl) : PTE := fun _ R _ => R s
abbrev POp := Sl → Sl → (Sl → Prop) → Prop
def pOp (r : POp) (a b : PTE) : PTE := fun env R E => a env (fun x => b env (fun y => r x y R) E) E
def pUn (r : Sl → (Sl → Prop) → Prop) (a : PTE) : PTE := fun env R E => a env (fun x => r x R) E
def oI (C : Int → Int → Prop) (g : Int → Int → PyData) : POp := fun x y R => match x, y with
  | .d (.int i), .d (.int j) => C i j ∧ R (.d (g i j))
  | _, _ => False
def oI0 (g : Int → Int → PyData) : POp := fun x y R => match x, y with
  | .d (.int i), .d (.int j) => R (.d (g i j))
  | _, _ => False
def uI (g : Int → PyData) : Sl → (Sl → Prop) → Prop := fun x R => match x with
  | .d (.int i) => R (.d (g i))
  | _ => False
/-- data that == takes -/
def okE (d : PyData) : Bool := SeqAt.shaped d && !d.hasDict
def oEq : POp := fun x y R => match x, y with
  | .d a, .d b => okE a = true ∧ okE b = true ∧ R (.d (.bool (PyData.eqv a b)))
  | _, _ => False
def oNe : POp := fun x y R => match x, y with
  | .d a, .d b => okE a = true ∧ okE b = true ∧ R (.d (.bool (!PyData.eqv a b)))
  | _, _ => False
def isNone : PyData → Bool
  | .none => true
  | _ => false
def isBool (b : Bool) : PyData → Bool
  | .bool a => a == b
  | _ => false
def oIs : POp := fun x y R => match x, y with
  | .d a, .d .none => R (.d (.bool (isNone a)))
  | .d a, .d (.bool b) => R (.d (.bool (isBool b a)))
  | _, _ => False
def oNis : POp := fun x y R => match x, y with
  | .d a, .d .none => R (.d (.bool (!isNone a)))
  | .d a, .d (.bool b) => R (.d (.bool (!isBool b a)))
  | _, _ => False
def pNil : PTA := fun _ R _ => R []
def pCons (a : PTE) (as : PTA) : PTA := fun env R E => a env (fun x => as env (fun xs => R (x :: xs)) E) E
/-- all of them data -/
def allD : List Sl → (List PyData → Prop) → Prop
  | [], R => R []
  | .d x :: l, R => allD l fun xs => R (x :: xs)
  | _ :: _, _ => False
def pTup (a : PTA) : PTE := fun env R E => a env (fun ss => allD ss fun ds => ds.length ≤ 1000 ∧ R (.d (.tuple ds))) E
def pLst (a : PTA) : PTE := fun env R E => a env (fun ss => allD ss fun ds => ds.length ≤ 1000 ∧ R (.d (.list ds))) E
def pDisp0 : PTE := fun _ R _ => R (.d (.dict []))
def bOf : Sl → (Bool → Prop) → Prop
  | .d (.bool b), R => R b
  | _, _ => False
def ptB (a : PTE) : PTT := fun env R E => a env (fun x => bOf x R) E
def ptAnd (a b : PTT) : PTT := fun env R E => a env (fun x => (x = true → b env R E) ∧ (x = false → R false)) E
def ptOr (a b : PTT) : PTT := fun env R E => a env (fun x => (x = true → R true) ∧ (x = false → b env R E)) E
def ptNot (a : PTT) : PTT := fun env R E => a env (fun x => R (!x)) E
def pIf (t : PTT) (a b : PTE) : PTE := fun env R E => t env (fun x => (x = true → a env R E) ∧ (x = false → b env R E)) E
def pAndV (a b : PTE) : PTE := fun env R E => a env (fun x => bOf x fun x => (x = true → b env R E) ∧ (x = false → R (.d (.bool false)))) E
def pOrV (a b : PTE) : PTE := fun env R E => a env (fun x => bOf x fun x => (x = true → R (.d (.bool true))) ∧ (x = false → b env R E)) E
def pNotV (a : PTE) : PTE := fun env R E => a env (fun x => bOf x fun x => R (.d (.bool (!x)))) E
abbrev PSp := List Sl → (Sl → Prop) → (Addr → FD → Prop) → Prop
def pCall (sp : PSp) (a : PTA) : PTE := fun env R E => a env (fun ss => sp ss R (E env)) E
abbrev PB := List Sl → (Sl → Prop) → Prop
def pB (r : PB) (a : PTA) : PTE := fun env R E => a env (fun ss => r ss R) E
def bInt : PB := fun ss R => match ss with
  | [.d (.int i)] => R (.d (.int i))
  | [.d (.bool b)] => R (.d (.int (if b = true then 1 else 0)))
  | _ => False
def bAbs : PB := fun ss R => match ss with
  | [.d (.int i)] => R (.d (.int (i.natAbs : Nat)))
  | _ => False
def bGcd : PB := fun ss R => match ss with
  | [.d (.int i), .d (.int j)] => R (.d (.int (Nat.gcd i.natAbs j.natAbs : Nat)))
  | _ => False
def bLen : PB := fun ss R => match ss with
  | [.d (.tuple ds)] => R (.d (.int (ds.length : Nat)))
  | [.d (.list ds)] => R (.d (.int (ds.length : Nat)))
  | _ => False
def bList : PB := fun ss R => match ss with
  | [.d (.tuple ds)] => R (.d (.list ds))
  | [.d (.list ds)] => R (.d (.list ds))
  | _ => False
def bTuple : PB := fun ss R => match ss with
  | [.d (.tuple ds)] => R (.d (.tuple ds))
  | [.d (.list ds)] => R (.d (.tuple ds))
  | _ => False
mutual
/-- a list stands in it -/
def hasL : PyData → Bool
  | .list _ => true
  | .tuple xs => hasLs xs
  | .dict kvs => hasLk kvs
  | _ => false
def hasLs : List PyData → Bool
  | [] => false
  | x :: xs => hasL x || hasLs xs
def hasLk : List (PyData × PyData) → Bool
  | [] => false
  | (_, v) :: r => hasL v || hasLk r
end
/-- data that repr takes -/
structure OkR (d : PyData) : Prop where
  sh : d.showable = true
  dp : d.depth ≤ 64
  nd : d.hasDict = false ∨ hasL d = false
  ln : d.shown.length ≤ sizeLine
def bRepr : PB := fun ss R => match ss with
  | [.d x] => OkR x ∧ R (.d (.str x.shown))
  | _ => False
def tyN : PyData → String
  | .none => "NoneType"
  | .bool _ => "bool"
  | .int _ => "int"
  | .str _ => "str"
  | .list _ => "list"
  | .tuple _ => "tuple"
  | .dict _ => "dict"
def isTy (t : String) (d : PyData) : Bool := tyN d == t || (t == "int" && tyN d == "bool")
def bIsi (t : String) : PB := fun ss R => match ss with
  | [.d x, _] => R (.d (.bool (isTy t x)))
  | _ => False
def bIsi2 (t u : String) : PB := fun ss R => match ss with
  | [.d x, _] => R (.d (.bool (isTy t x || isTy u x)))
  | _ => False
def oIx : POp := fun x y R => match x, y with
  | .d (.tuple ds), .d (.int i) => ∃ d, atI ds i = some d ∧ R (.d d)
  | .d (.list ds), .d (.int i) => ∃ d, atI ds i = some d ∧ R (.d d)
  | _, _ => False
def oCat : POp := fun x y R => match x, y with
  | .d (.tuple ds), .d (.tuple es) => ds.length + es.length ≤ 1000000 ∧ R (.d (.tuple (ds ++ es)))
  | .d (.list ds), .d (.list es) => ds.length + es.length ≤ 1000000 ∧ R (.d (.list (ds ++ es)))
  | _, _ => False

/-! ### statements -/
def psNext : PTS := fun P env => P.nx env
def psSeq (a b : PTS) : PTS := fun P env => a { P with nx := b P } env
def psSet (i : Nat) (a : PTE) : PTS := fun P env => a env (fun s => P.nx (env.set i (some s))) P.ex
def psPar (i j : Nat) (a : PTA) : PTS := fun P env => a env (fun ss => match ss with
  | [x, y] => P.nx ((env.set i (some x)).set j (some y))
  | _ => False) P.ex
def psIf (t : PTT) (a b : PTS) : PTS := fun P env => t env (fun x => (x = true → a P env) ∧ (x = false → b P env)) P.ex
def psRet (a : PTE) : PTS := fun P env => a env P.rt P.ex
def psDrop (a : PTE) : PTS := fun P env => a env (fun _ => P.nx env) P.ex
def psCont : PTS := fun P env => P.ct env
end Px
namespace Px
open PySem PySem.Spec PyProof.Rows L2 Lx
/-! ### the rules of expressions -/
theorem nth_eq : ∀ (env : Ev) (i : Nat) {s : Sl}, nth env i = some s → env[i]? = some (some s)
  | [], i, s, h => by simp [nth] at h
  | a :: l, 0, s, h => by
    have h' : a = some s := h
    rw [h']; rfl
  | a :: l, i + 1, s, h => by
    have := nth_eq l i (s := s) h
    simpa using this
mutual
theorem Rq.dp {K : PySem.W.Frag} {F H : Hp} (k : Same F H) : ∀ {v : V} {d : PyData}, Rq F v d → d.hasDict = false → Dp K H v d
  | _, _, .non, _ => .non
  | _, _, .bl b, _ => .bl b
  | _, _, .int i, _ => .int i
  | _, _, .str x, _ => .str x
  | _, _, .lst e r, n => .lst (sqL (k _ _ e)) (RqAll.dp k r (by simpa [PyData.hasDict] using n))
  | _, _, .tup e r, n => .tup (sqT (k _ _ e)) (RqAll.dp k r (by simpa [PyData.hasDict] using n))
  | _, _, .dct e q r, n => by simp [PyData.hasDict] at n
theorem RqAll.dp {K : PySem.W.Frag} {F H : Hp} (k : Same F H) : ∀ {vs : List V} {ds : List PyData}, RqAll F vs ds → PyData.hasDictAll ds = false → DpAll K H vs ds
  | _, _, .nil, _ => .nil
  | _, _, .cons (d := d) (ds := ds) a b, n => by
    have n' : d.hasDict = false ∧ PyData.hasDictAll ds = false := by simpa [PyData.hasDictAll] using n
    exact .cons (Rq.dp k a n'.1) (RqAll.dp k b n'.2)
end
section
variable {X : Cx} {c : Cc} {W : WX} {H0 F0 F H : Hp} {env : Ev} {σ : St}
theorem Rel.get (R : Rel c H0 F0 env F σ H) {i : Nat} {s : Option Sl} (h : env[i]? = some s) : ∃ ov, σ[i]? = some ov ∧ SlotR H0 F H ov s := by
  have hi : i < σ.length := by
    rw [R.len]
    exact (List.getElem?_eq_some_iff.mp h).1
  exact ⟨_, List.getElem?_eq_getElem hi, R.sl i _ _ (List.getElem?_eq_getElem hi) h⟩
theorem rd_var (i : Nat) : Rd c W (tVar i) (pVar i) := by
  intro H0 F0 env F σ H R E Q J L h fin
  unfold pVar at h
  cases e : nth env i with
  | none => rw [e] at h; exact h.elim
  | some s =>
    rw [e] at h
    obtain ⟨ov, e1, r⟩ := J.get (nth_eq _ _ e)
    cases s with
    | own xs => exact h.elim
    | d x =>
      obtain ⟨v, e2, r⟩ := r
      subst e2
      exact ⟨v, e1, fin v (.d x) F H J (same_refl F) r h⟩
    | raw u =>
      have e2 : ov = some u := r
      subst e2
      exact ⟨u, e1, fin u (.raw u) F H J (same_refl F) rfl h⟩
    | exc p C ds =>
      obtain ⟨e2, r⟩ := r
      subst e2
      exact ⟨.ref p.1, e1, fin _ (.exc p C ds) F H J (same_refl F) ⟨rfl, r⟩ h⟩
    | obj C ds =>
      obtain ⟨x, e2, r⟩ := r
      subst e2
      exact ⟨.ref x, e1, fin _ (.obj C ds) F H J (same_refl F) ⟨x, rfl, r⟩ h⟩
    | slf x C ds => exact h.elim
theorem pu_var (i : Nat) {x : Str} {pos : Pos} (hN : X.N[i]? = some x := by rfl) (hv : Vis X.env.scope x := by first | exact Or.inl rfl | exact Or.inr (Or.inl rfl) | exact Or.inr (Or.inr rfl)) (hd : (x == ("__debug__" : Str)) = false := by decide)
    (hcd : (x == ("__classdict__" : Str)) = false := by decide) : PuE X c W (.Name x pos) (pVar i) := ⟨_, pv i hN hv hd hcd, rd_var i⟩
theorem rd_c {v : V} {s : Sl} (h : ∀ F, RelS F v s) : Rd c W (tC v) (pC s) := fun H0 F0 env F σ H R E Q J L hp fin => fin v s F H J (same_refl F) (h F) hp
theorem pu_non {j pos} : PuE X c W (.Constant .none j pos) (pC (.d .none)) := ⟨_, pe_non, rd_c fun _ => Rq.non⟩
theorem pu_bl {b j pos} : PuE X c W (.Constant (.bool b) j pos) (pC (.d (.bool b))) := ⟨_, pe_bl, rd_c fun _ => Rq.bl b⟩
theorem pu_int {i j pos} : PuE X c W (.Constant (.int i) j pos) (pC (.d (.int i))) := ⟨_, pe_int, rd_c fun _ => Rq.int i⟩
theorem pu_str {x j pos} : PuE X c W (.Constant (.str x) j pos) (pC (.d (.str x))) := ⟨_, pe_str, rd_c fun _ => Rq.str x⟩
/-- a module's name, its value v, s the data -/
theorem pu_glob {x : Str} {v : V} {s : Sl} {u : Value} {pos : Pos} (hm : X.mg x = some u) (r : RelV v u) (h : ∀ F, RelS F v s) (hg : Gl X x := by rfl) (hd : (x == ("__debug__" : Str)) = false := by decide) : PuE X c W (.Name x pos) (pC s) := ⟨_, pe_glob hg hm r hd, rd_c h⟩
/-- a two-place reading on data -/
def ROp (c : Cc) (r : R2) (pr : POp) : Prop := ∀ (H0 F0 : Hp) (env : Ev) (F : Hp) (σ : St) (H : Hp) (x y : V) (sx sy : Sl) (R : Sl → Prop) (Q : VK), Rel c H0 F0 env F σ H → RelS F x sx → RelS F y sy → pr sx sy R → Fin c H0 F0 env F σ R Q → r x y H Q
theorem rd_op {r : R2} {pr : POp} {ta tb : TE} {pa pb : PTE} (hr : ROp c r pr) (ha : Rd c W ta pa) (hb : Rd c W tb pb) : Rd c W (tOp r ta tb) (pOp pr pa pb) := by
  intro H0 F0 env F σ H R E Q J L h fin
  refine ha _ _ _ _ _ _ _ _ _ J L h fun x sx F1 H1 J1 k1 rx h1 => ?_
  refine hb _ _ _ _ _ _ _ _ _ J1 L h1 fun y sy F2 H2 J2 k2 ry h2 => ?_
  exact hr _ _ _ _ _ _ _ _ _ _ _ _ J2 (rx.same k2) ry h2 fun v s F3 H3 J3 k3 rv q => fin v s F3 H3 J3 (same_trans k1 (same_trans k2 k3)) rv q
theorem pu_op {op : Operator} {r : R2} {pr : POp} {a b : Expr} {pos : Pos} {pa pb : PTE} (ho : OpR X (binaryOp op) r) (hr : ROp c r pr) (ha : PuE X c W a pa) (hb : PuE X c W b pb) : PuE X c W (.BinOp a op b pos) (pOp pr pa pb) := by
  obtain ⟨ta, ha, ra⟩ := ha
  obtain ⟨tb, hb, rb⟩ := hb
  exact ⟨_, pe_op ho ha hb, rd_op hr ra rb⟩
theorem pu_cmp {op : CmpOp} {r : R2} {pr : POp} {a b : Expr} {pos : Pos} {pa pb : PTE} (ho : OpR X (compareOp op) r) (hr : ROp c r pr) (ha : PuE X c W a pa) (hb : PuE X c W b pb) (hm : behindInMarks op b = false := by first | exact nomark _ | rfl) : PuE X c W (.Compare a [op] [b] pos) (pOp pr pa pb) := by
  obtain ⟨ta, ha, ra⟩ := ha
  obtain ⟨tb, hb, rb⟩ := hb
  exact ⟨_, pe_cmpR ho ha hb hm, rd_op hr ra rb⟩
theorem bOf_d {s : Sl} {R : Bool → Prop} (h : bOf s R) : ∃ b, s = .d (.bool b) ∧ R b := by
  cases s with
  | d x => cases x <;> first | exact ⟨_, rfl, h⟩ | exact h.elim
  | own x => exact h.elim
  | raw v => exact h.elim
  | exc p C ds => exact h.elim
  | obj C ds => exact h.elim
  | slf x C ds => exact h.elim
theorem rq_bl {F : Hp} {v : V} {b : Bool} (h : Rq F v (.bool b)) : v = .bl b := by cases h; rfl
theorem rq_int {F : Hp} {v : V} {i : Int} (h : Rq F v (.int i)) : v = .int i := by cases h; rfl
theorem rq_str {F : Hp} {v : V} {x : Str} (h : Rq F v (.str x)) : v = .str x := by cases h; rfl
theorem rq_non {F : Hp} {v : V} (h : Rq F v .none) : v = .non := by cases h; rfl
theorem rd_test {t : TE} {pt : PTE} (h : Rd c W t pt) : RdT c W (tTest t) (ptB pt) := by
  intro H0 F0 env F σ H R E Q J L hp fin
  refine h _ _ _ _ _ _ _ _ _ J L hp fun v s F1 H1 J1 k1 r h1 => ?_
  obtain ⟨b, rfl, h2⟩ := bOf_d h1
  exact ⟨b, rq_bl r, fin b F1 H1 J1 k1 h2⟩
theorem pt_cmp' {op : CmpOp} {r : R2} {pr : POp} {a b : Expr} {pos : Pos} {pa pb : PTE} (ho : OpR X (compareOp op) r) (hr : ROp c r pr) (ha : PuE X c W a pa) (hb : PuE X c W b pb) (hm : behindInMarks op b = false := by first | exact nomark _ | rfl) : PuT X c W (.Compare a [op] [b] pos) (ptB (pOp pr pa pb)) := by
  obtain ⟨ta, ha, ra⟩ := ha
  obtain ⟨tb, hb, rb⟩ := hb
  exact ⟨_, pt_cmpR ho ha hb hm, rd_test (rd_op hr ra rb)⟩
theorem pt_val' {e : Expr} {pt : PTE} (h : PuE X c W e pt) (he : ∀ whole, isTrue e X.env whole = (do let v ← whole; standAt e.pos; holding [v] (truthy v)) := by intro _; rfl) : PuT X c W e (ptB pt) := by
  obtain ⟨t, h, r⟩ := h
  exact ⟨_, pt_val h he, rd_test r⟩
theorem pt_not' {a : Expr} {pos : Pos} {pa : PTT} (ha : PuT X c W a pa) : PuT X c W (.UnaryOp .Not a pos) (ptNot pa) := by
  obtain ⟨t, h, r⟩ := ha
  exact ⟨_, pt_not h, fun H0 F0 env F σ H R E Q J L hp fin => r _ _ _ _ _ _ _ _ _ J L hp fun b F1 H1 J1 k1 h1 => fin _ F1 H1 J1 k1 h1⟩
theorem pw_and' {a b : Expr} {rest : List Expr} {pos : Pos} {pa pb : PTT} (ha : PuT X c W a pa) (hb : PuW X c W (.BoolOp .And (b :: rest) pos) pb) : PuW X c W (.BoolOp .And (a :: b :: rest) pos) (ptAnd pa pb) := by
  obtain ⟨ta, ha, ra⟩ := ha
  obtain ⟨tb, hb, rb⟩ := hb
  refine ⟨_, pw_and ha hb, fun H0 F0 env F σ H R E Q J L hp fin => ra _ _ _ _ _ _ _ _ _ J L hp fun x F1 H1 J1 k1 h1 => ?_⟩
  cases x with
  | true =>
    show tb σ H1 Q
    exact rb _ _ _ _ _ _ _ _ _ J1 L (h1.1 rfl) fun y F2 H2 J2 k2 h2 => fin y F2 H2 J2 (same_trans k1 k2) h2
  | false =>
    show Q false H1
    exact fin false F1 H1 J1 k1 (h1.2 rfl)
theorem pw_or' {a b : Expr} {rest : List Expr} {pos : Pos} {pa pb : PTT} (ha : PuT X c W a pa) (hb : PuW X c W (.BoolOp .Or (b :: rest) pos) pb) : PuW X c W (.BoolOp .Or (a :: b :: rest) pos) (ptOr pa pb) := by
  obtain ⟨ta, ha, ra⟩ := ha
  obtain ⟨tb, hb, rb⟩ := hb
  refine ⟨_, pw_or ha hb, fun H0 F0 env F σ H R E Q J L hp fin => ra _ _ _ _ _ _ _ _ _ J L hp fun x F1 H1 J1 k1 h1 => ?_⟩
  cases x with
  | false =>
    show tb σ H1 Q
    exact rb _ _ _ _ _ _ _ _ _ J1 L (h1.2 rfl) fun y F2 H2 J2 k2 h2 => fin y F2 H2 J2 (same_trans k1 k2) h2
  | true =>
    show Q true H1
    exact fin true F1 H1 J1 k1 (h1.1 rfl)
theorem pw_and1' {a : Expr} {pos : Pos} {pa : PTT} (ha : PuT X c W a pa) : PuW X c W (.BoolOp .And [a] pos) pa := by
  obtain ⟨ta, ha, ra⟩ := ha
  exact ⟨_, pw_and1 ha, ra⟩
theorem pw_or1' {a : Expr} {pos : Pos} {pa : PTT} (ha : PuT X c W a pa) : PuW X c W (.BoolOp .Or [a] pos) pa := by
  obtain ⟨ta, ha, ra⟩ := ha
  exact ⟨_, pw_or1 ha, ra⟩
theorem PuW.pt {e : Expr} {pa : PTT} (h : PuW X c W e pa) : PuT X c W e pa := by
  obtain ⟨t, h, r⟩ := h
  exact ⟨t, PW.pt h, r⟩
theorem pu_if {t a b : Expr} {pos : Pos} {pt : PTT} {pa pb : PTE} (hc : PuT X c W t pt) (ha : PuE X c W a pa) (hb : PuE X c W b pb) : PuE X c W (.IfExp t a b pos) (pIf pt pa pb) := by
  obtain ⟨tc, hc, rc⟩ := hc
  obtain ⟨ta, ha, ra⟩ := ha
  obtain ⟨tb, hb, rb⟩ := hb
  refine ⟨_, pe_ifExp hc ha hb, fun H0 F0 env F σ H R E Q J L hp fin => rc _ _ _ _ _ _ _ _ _ J L hp fun x F1 H1 J1 k1 h1 => ?_⟩
  cases x with
  | true =>
    show ta σ H1 Q
    exact ra _ _ _ _ _ _ _ _ _ J1 L (h1.1 rfl) fun y s F2 H2 J2 k2 r2 h2 => fin y s F2 H2 J2 (same_trans k1 k2) r2 h2
  | false =>
    show tb σ H1 Q
    exact rb _ _ _ _ _ _ _ _ _ J1 L (h1.2 rfl) fun y s F2 H2 J2 k2 r2 h2 => fin y s F2 H2 J2 (same_trans k1 k2) r2 h2
theorem pu_one {op} {a : Expr} {pos : Pos} {pa : PTE} (h : PuE X c W a pa) : PuE X c W (.BoolOp op [a] pos) pa := by
  obtain ⟨t, h, r⟩ := h
  exact ⟨t, pe_one h, r⟩
theorem pu_and {a b : Expr} {rest : List Expr} {pos : Pos} {pa pb : PTE} (ha : PuE X c W a pa) (hb : PuE X c W (.BoolOp .And (b :: rest) pos) pb) : PuE X c W (.BoolOp .And (a :: b :: rest) pos) (pAndV pa pb) := by
  obtain ⟨ta, ha, ra⟩ := ha
  obtain ⟨tb, hb, rb⟩ := hb
  refine ⟨_, pe_and ha hb, fun H0 F0 env F σ H R E Q J L hp fin => ra _ _ _ _ _ _ _ _ _ J L hp fun v s F1 H1 J1 k1 r1 h1 => ?_⟩
  obtain ⟨x, rfl, h1⟩ := bOf_d h1
  refine ⟨x, rq_bl r1, ?_⟩
  cases x with
  | true =>
    show tb σ H1 Q
    exact rb _ _ _ _ _ _ _ _ _ J1 L (h1.1 rfl) fun y s F2 H2 J2 k2 r2 h2 => fin y s F2 H2 J2 (same_trans k1 k2) r2 h2
  | false =>
    show Q (.bl false) H1
    exact fin _ (.d (.bool false)) F1 H1 J1 k1 (Rq.bl false) (h1.2 rfl)
theorem pu_or {a b : Expr} {rest : List Expr} {pos : Pos} {pa pb : PTE} (ha : PuE X c W a pa) (hb : PuE X c W (.BoolOp .Or (b :: rest) pos) pb) : PuE X c W (.BoolOp .Or (a :: b :: rest) pos) (pOrV pa pb) := by
  obtain ⟨ta, ha, ra⟩ := ha
  obtain ⟨tb, hb, rb⟩ := hb
  refine ⟨_, pe_or ha hb, fun H0 F0 env F σ H R E Q J L hp fin => ra _ _ _ _ _ _ _ _ _ J L hp fun v s F1 H1 J1 k1 r1 h1 => ?_⟩
  obtain ⟨x, rfl, h1⟩ := bOf_d h1
  refine ⟨x, rq_bl r1, ?_⟩
  cases x with
  | false =>
    show tb σ H1 Q
    exact rb _ _ _ _ _ _ _ _ _ J1 L (h1.2 rfl) fun y s F2 H2 J2 k2 r2 h2 => fin y s F2 H2 J2 (same_trans k1 k2) r2 h2
  | true =>
    show Q (.bl true) H1
    exact fin _ (.d (.bool true)) F1 H1 J1 k1 (Rq.bl true) (h1.1 rfl)
theorem pu_not {a : Expr} {pos : Pos} {pa : PTE} (ha : PuE X c W a pa) : PuE X c W (.UnaryOp .Not a pos) (pNotV pa) := by
  obtain ⟨ta, ha, ra⟩ := ha
  refine ⟨_, pe_not ha, fun H0 F0 env F σ H R E Q J L hp fin => ra _ _ _ _ _ _ _ _ _ J L hp fun v s F1 H1 J1 k1 r1 h1 => ?_⟩
  obtain ⟨x, rfl, h1⟩ := bOf_d h1
  exact ⟨x, rq_bl r1, fin _ (.d (.bool (!x))) F1 H1 J1 k1 (Rq.bl _) h1⟩
theorem pa_nil' : PuA X c W [] pNil := ⟨_, pa_nil, fun H0 F0 env F σ H R E Q J L hp fin => fin [] [] F H J (same_refl F) .nil hp⟩
theorem pa_cons' {a : Expr} {as : List Expr} {pa : PTE} {ps : PTA} (ha : PuE X c W a pa) (hs : PuA X c W as ps) (he : starEach (a :: as) X.env = (false, eval a X.env) :: starEach as X.env := by rfl) : PuA X c W (a :: as) (pCons pa ps) := by
  obtain ⟨ta, ha, ra⟩ := ha
  obtain ⟨ts, hs, rs⟩ := hs
  refine ⟨_, pa_cons ha hs he, fun H0 F0 env F σ H R E Q J L hp fin => ra _ _ _ _ _ _ _ _ _ J L hp fun v s F1 H1 J1 k1 r1 h1 => ?_⟩
  exact rs _ _ _ _ _ _ _ _ _ J1 L h1 fun vs ss F2 H2 J2 k2 r2 h2 => fin _ _ F2 H2 J2 (same_trans k1 k2) (.cons (r1.same k2) r2) h2
theorem allD_d {F : Hp} : ∀ {vs : List V} {ss : List Sl} {R : List PyData → Prop}, RelSs F vs ss → allD ss R → ∃ ds, RqAll F vs ds ∧ R ds
  | _, _, R, .nil, h => ⟨[], .nil, h⟩
  | _, _, R, .cons (d := s) a b, h => by
    cases s with
    | d x =>
      obtain ⟨ds, r, q⟩ := allD_d b (R := fun xs => R (x :: xs)) h
      exact ⟨x :: ds, .cons a r, q⟩
    | own x => exact h.elim
    | raw x => exact h.elim
    | exc p C ds => exact h.elim
    | obj C ds => exact h.elim
    | slf x C ds => exact h.elim
theorem pu_tup {es : List Expr} {k : Nat} {pos : Pos} {pa : PTA} (ha : PuA X c W es pa) : PuE X c W (.Tuple es k pos) (pTup pa) := by
  obtain ⟨ta, ha, ra⟩ := ha
  refine ⟨_, pe_tup ha, fun H0 F0 env F σ H R E Q J L hp fin => ra _ _ _ _ _ _ _ _ _ J L hp fun vs ss F1 H1 J1 k1 r1 h1 => ?_⟩
  obtain ⟨ds, r2, hl, q⟩ := allD_d r1 h1
  refine ⟨by rw [r2.len]; exact Nat.le_trans hl (by decide), fun p hp => ?_⟩
  have k2 : Same F1 (upd F1 p (.tup vs)) := same_upd (J1.b.fnone hp)
  exact fin (.ref p) (.d (.tuple ds)) _ _ (J1.alloc hp _) (same_trans k1 k2) (Rq.tup upd_same (r2.same k2)) q
theorem pu_lst {es : List Expr} {pos : Pos} {pa : PTA} (ha : PuA X c W es pa) : PuE X c W (.List es pos) (pLst pa) := by
  obtain ⟨ta, ha, ra⟩ := ha
  refine ⟨_, pe_lst ha, fun H0 F0 env F σ H R E Q J L hp fin => ra _ _ _ _ _ _ _ _ _ J L hp fun vs ss F1 H1 J1 k1 r1 h1 => ?_⟩
  obtain ⟨ds, r2, hl, q⟩ := allD_d r1 h1
  refine ⟨by rw [r2.len]; exact Nat.le_trans hl (by decide), fun p hp => ?_⟩
  have k2 : Same F1 (upd F1 p (.lst vs)) := same_upd (J1.b.fnone hp)
  exact fin (.ref p) (.d (.list ds)) _ _ (J1.alloc hp _) (same_trans k1 k2) (Rq.lst upd_same (r2.same k2)) q
theorem pu_disp0 {pos : Pos} : PuE X c W (.Dict [] [] pos) pDisp0 := by
  refine ⟨_, pe_dnewK, fun H0 F0 env F σ H R E Q J L hp fin => ?_⟩
  intro p hn
  exact fin (.ref p) (.d (.dict [])) _ _ (J.alloc hn (.dK [])) (same_upd (J.b.fnone hn)) (Rq.dct (kvs := []) upd_same rfl .nil) hp
end
end Px
namespace Px
open PySem PySem.Spec PyProof.Rows L2 Lx
/-! ### operations on data -/
/-- below 2 ^ n in size -/
def Bn (n : Nat) (i : Int) : Prop := i.natAbs < 2 ^ n
def CMulP (i j : Int) : Prop := ∃ a b : Nat, Bn a i ∧ Bn b j ∧ a + b ≤ 100000000
def CDivZ (i j : Int) : Prop := j ≠ 0 ∧ ∃ b, Bn b j ∧ b ≤ 9000
section
variable {X : Cx} {c : Cc} {W : WX}
theorem op_mulP : OpR X (binaryOp .Mult) (rI CMulP fun i j => .int (i * j)) := opI fun _ _ _ _ _ _ _ hc q => by
  obtain ⟨a, b, h1, h2, h3⟩ := hc
  exact mul_int q (mulx_ok h1 h2 (by omega)).ok
theorem log2_le {n b : Nat} (h : n < 2 ^ b) (hb : b ≤ 9000) : n.log2 < 9000 := by
  by_cases z : n = 0
  · rw [z]; decide
  · exact Nat.lt_of_lt_of_le ((Nat.log2_lt z).mpr h) hb
theorem op_fdivZ : OpR X (binaryOp .FloorDiv) (rI CDivZ fun i j => .int (i.fdiv j)) := opI fun i j _ _ _ _ _ hc q => by
  obtain ⟨h0, b, h1, h2⟩ := hc
  exact floordiv_int h0 q (.inl (PyProof.noPylong_of_log2 (log2_le h1 h2)))
theorem ro_I {C : Int → Int → Prop} {g : Int → Int → V} {g' : Int → Int → PyData} (h : ∀ F i j, Rq F (g i j) (g' i j)) : ROp c (rI C g) (oI C g') := by
  intro H0 F0 env F σ H x y sx sy R Q J rx ry hp fin
  cases sx with
  | d a =>
    cases sy with
    | d b =>
      cases a <;> try exact hp.elim
      cases b <;> try exact hp.elim
      obtain ⟨hc, hp⟩ := hp
      cases rx
      cases ry
      exact ⟨_, _, rfl, rfl, hc, fin _ (.d _) F H J (same_refl F) (h F _ _) hp⟩
    | _ => cases a <;> exact hp.elim
  | _ => exact hp.elim
theorem ro_I0 {g : Int → Int → V} {g' : Int → Int → PyData} (h : ∀ F i j, Rq F (g i j) (g' i j)) : ROp c (rI0 g) (oI0 g') := by
  intro H0 F0 env F σ H x y sx sy R Q J rx ry hp fin
  cases sx with
  | d a =>
    cases sy with
    | d b =>
      cases a <;> try exact hp.elim
      cases b <;> try exact hp.elim
      cases rx
      cases ry
      exact ⟨_, _, rfl, rfl, fin _ (.d _) F H J (same_refl F) (h F _ _) hp⟩
    | _ => cases a <;> exact hp.elim
  | _ => exact hp.elim
theorem rq_i {F : Hp} (g : Int → Int → Int) : ∀ i j, Rq F (.int (g i j)) (.int (g i j)) := fun i j => Rq.int _
abbrev oSub := oI0 fun i j => .int (i - j)
abbrev oMul := oI CMulP fun i j => .int (i * j)
abbrev oDiv := oI CDivZ fun i j => .int (i.fdiv j)
abbrev oMod := oI (fun _ j => j ≠ 0) fun i j => .int (i.fmod j)
abbrev oPow := oI CPow fun i j => .int (i ^ j.toNat)
abbrev oLt := oI0 fun i j => .bool (decide (i < j))
abbrev oLe := oI0 fun i j => .bool (decide (i ≤ j))
abbrev oGt := oI0 fun i j => .bool (decide (j < i))
abbrev oGe := oI0 fun i j => .bool (decide (j ≤ i))
theorem ro_sub : ROp c (rI0 fun i j => .int (i - j)) oSub := ro_I0 fun _ _ _ => Rq.int _
theorem ro_mul : ROp c (rI CMulP fun i j => .int (i * j)) oMul := ro_I fun _ _ _ => Rq.int _
theorem ro_div : ROp c (rI CDivZ fun i j => .int (i.fdiv j)) oDiv := ro_I fun _ _ _ => Rq.int _
theorem ro_mod : ROp c (rI (fun _ j => j ≠ 0) fun i j => .int (i.fmod j)) oMod := ro_I fun _ _ _ => Rq.int _
theorem ro_pow : ROp c (rI CPow fun i j => .int (i ^ j.toNat)) oPow := ro_I fun _ _ _ => Rq.int _
theorem ro_lt : ROp c (rI0 fun i j => .bl (decide (i < j))) oLt := ro_I0 fun _ _ _ => Rq.bl _
theorem ro_le : ROp c (rI0 fun i j => .bl (decide (i ≤ j))) oLe := ro_I0 fun _ _ _ => Rq.bl _
theorem ro_gt : ROp c (rI0 fun i j => .bl (decide (j < i))) oGt := ro_I0 fun _ _ _ => Rq.bl _
theorem ro_ge : ROp c (rI0 fun i j => .bl (decide (j ≤ i))) oGe := ro_I0 fun _ _ _ => Rq.bl _
/-- + of ints, of tuples, of lists -/
def oAdd : POp := fun x y R => match x, y with
  | .d (.int i), .d (.int j) => R (.d (.int (i + j)))
  | .d (.tuple ds), .d (.tuple es) => ds.length + es.length ≤ 1000000 ∧ R (.d (.tuple (ds ++ es)))
  | .d (.list ds), .d (.list es) => ds.length + es.length ≤ 1000000 ∧ R (.d (.list (ds ++ es)))
  | _, _ => False
def rAddU (K : PySem.W.Frag) : R2 := fun x y H Q => rI0 (fun i j => .int (i + j)) x y H Q ∨ (rCatA K x y H Q ∨ rCat x y H Q)
theorem op_addU : OpR X (binaryOp .Add) (rAddU X.K) := op_add.or (op_catA.or op_cat)
theorem sz_le {n : Nat} (h : n ≤ 1000000) : n ≤ sizeLine := Nat.le_trans h (by decide)
theorem ro_add {K : PySem.W.Frag} : ROp c (rAddU K) oAdd := by
  intro H0 F0 env F σ H x y sx sy R Q J rx ry hp fin
  cases sx with
  | d a =>
    cases sy with
    | d b =>
      cases a <;> cases b <;> try exact hp.elim
      · cases rx
        cases ry
        exact .inl ⟨_, _, rfl, rfl, fin _ (.d _) F H J (same_refl F) (Rq.int _) hp⟩
      · obtain ⟨hl, hp⟩ := hp
        cases rx with
        | @lst a xs ds ea ra =>
          cases ry with
          | @lst b ys es eb rb =>
            refine .inr (.inr ⟨_, _, _, _, rfl, rfl, J.b.sub _ _ ea, J.b.sub _ _ eb, by rw [ra.len, rb.len]; exact sz_le hl, fun p hn => ?_⟩)
            have k2 : Same F (upd F p (.lst (xs ++ ys))) := same_upd (J.b.fnone hn)
            exact fin (.ref p) (.d _) _ _ (J.alloc hn _) k2 (Rq.lst upd_same ((ra.app rb).same k2)) hp
      · obtain ⟨hl, hp⟩ := hp
        cases rx with
        | @tup a xs ds ea ra =>
          cases ry with
          | @tup b ys es eb rb =>
            refine .inr (.inl ⟨_, _, _, _, rfl, rfl, sqT (J.b.sub _ _ ea), sqT (J.b.sub _ _ eb), by rw [ra.len, rb.len]; exact sz_le hl, fun z => ?_, fun z1 z2 => ?_, fun z1 z2 p hn => ?_⟩)
            · subst z
              cases ra
              exact fin _ (.d _) F H J (same_refl F) (Rq.tup eb rb) hp
            · subst z2
              cases rb
              rw [List.append_nil] at hp
              exact fin _ (.d _) F H J (same_refl F) (Rq.tup ea ra) hp
            · have k2 : Same F (upd F p (.tup (xs ++ ys))) := same_upd (J.b.fnone hn)
              exact fin (.ref p) (.d _) _ _ (J.alloc hn _) k2 (Rq.tup upd_same ((ra.app rb).same k2)) hp
    | _ => cases a <;> exact hp.elim
  | _ => exact hp.elim
theorem okE_of {d : PyData} (h : okE d = true) : SeqAt.shaped d = true ∧ d.hasDict = false := by
  unfold okE at h
  simpa using h
theorem ro_eq {K : PySem.W.Frag} : ROp c (rEqD K) oEq := by
  intro H0 F0 env F σ H x y sx sy R Q J rx ry hp fin
  cases sx with
  | d a =>
    cases sy with
    | d b =>
      obtain ⟨h1, h2, hp⟩ := hp
      exact ⟨a, b, rx.dp J.b.sub (okE_of h1).2, ry.dp J.b.sub (okE_of h2).2, (okE_of h1).1, (okE_of h2).1, fin _ (.d _) F H J (same_refl F) (Rq.bl _) hp⟩
    | _ => exact hp.elim
  | _ => exact hp.elim
theorem ro_ne {K : PySem.W.Frag} : ROp c (rNeD K) oNe := by
  intro H0 F0 env F σ H x y sx sy R Q J rx ry hp fin
  cases sx with
  | d a =>
    cases sy with
    | d b =>
      obtain ⟨h1, h2, hp⟩ := hp
      exact ⟨a, b, rx.dp J.b.sub (okE_of h1).2, ry.dp J.b.sub (okE_of h2).2, (okE_of h1).1, (okE_of h2).1, fin _ (.d _) F H J (same_refl F) (Rq.bl _) hp⟩
    | _ => exact hp.elim
  | _ => exact hp.elim
/-- x is y, y None or a bool -/
def rIsC (neg : Bool) : R2 := fun x y H Q => (y = .non ∧ Q (.bl (xor neg (decide (x = .non)))) H) ∨ ∃ b, y = .bl b ∧ (x ≠ .bl b → ∀ u, RelV x u → u ≠ .bool b ∧ plainIs u (.bool b) = true) ∧ Q (.bl (xor neg (decide (x = .bl b)))) H
theorem op_isC : OpR X (compareOp .Is) (rIsC false) := by
  intro pins s σ H x y v u Q I rx ry h
  rcases h with ⟨rfl, q⟩ | ⟨b, rfl, hne, q⟩
  · exact op_isN pins s σ H x .non v u Q I rx ry ⟨rfl, by simpa using q⟩
  · cases (show u = Value.bool b from ry)
    by_cases e : x = .bl b
    · subst e
      cases (show v = Value.bool b from rx)
      exact wpAny_is_self rfl ⟨.bl true, H, I, rfl, by simpa using q⟩
    · exact wpAny_is_other (hne e v rx).2 (hne e v rx).1 ⟨.bl false, H, I, rfl, by simpa [e] using q⟩
theorem op_nisC : OpR X (compareOp .IsNot) (rIsC true) := by
  intro pins s σ H x y v u Q I rx ry h
  rcases h with ⟨rfl, q⟩ | ⟨b, rfl, hne, q⟩
  · exact op_notN pins s σ H x .non v u Q I rx ry ⟨rfl, by simpa using q⟩
  · cases (show u = Value.bool b from ry)
    by_cases e : x = .bl b
    · subst e
      cases (show v = Value.bool b from rx)
      exact wpAny_isNot_self rfl ⟨.bl false, H, I, rfl, by simpa using q⟩
    · exact wpAny_isNot_other (hne e v rx).2 (hne e v rx).1 ⟨.bl true, H, I, rfl, by simpa [e] using q⟩
theorem rq_isNone {F : Hp} {v : V} {d : PyData} (h : Rq F v d) : isNone d = decide (v = .non) := by cases h <;> simp [isNone]
theorem rq_isBool {F : Hp} {v : V} {d : PyData} {b : Bool} (h : Rq F v d) : isBool b d = decide (v = .bl b) := by
  cases h <;> simp [isBool]
  case bl a => cases a <;> cases b <;> rfl
theorem rq_nb {F : Hp} {v : V} {d : PyData} {b : Bool} (h : Rq F v d) (e : v ≠ .bl b) : ∀ u, RelV v u → u ≠ .bool b ∧ plainIs u (.bool b) = true := by
  intro u r
  cases h with
  | non => cases r; exact ⟨(fun z => nomatch z), rfl⟩
  | bl a =>
    cases (show u = Value.bool a from r)
    exact ⟨fun z => e (congrArg V.bl (Value.bool.inj z)), rfl⟩
  | int i => obtain ⟨t, r⟩ := r; cases r; exact ⟨(fun z => nomatch z), rfl⟩
  | str x => obtain ⟨t, r⟩ := r; cases r; exact ⟨(fun z => nomatch z), rfl⟩
  | lst _ _ => cases r; exact ⟨(fun z => nomatch z), rfl⟩
  | tup _ _ => cases r; exact ⟨(fun z => nomatch z), rfl⟩
  | dct _ _ _ => cases r; exact ⟨(fun z => nomatch z), rfl⟩
theorem rs_bl {F : Hp} {a b : Bool} (h : a = b) : RelS F (.bl a) (.d (.bool b)) := by subst h; exact Rq.bl a
theorem ro_is : ROp c (rIsC false) oIs := by
  intro H0 F0 env F σ H x y sx sy R Q J rx ry hp fin
  cases sx with
  | d a =>
    cases sy with
    | d b =>
      cases b <;> try exact hp.elim
      · cases ry
        refine .inl ⟨rfl, fin _ _ F H J (same_refl F) ?_ hp⟩
        rw [rq_isNone rx]
        exact rs_bl (by simp)
      · cases ry
        refine .inr ⟨_, rfl, rq_nb rx, fin _ _ F H J (same_refl F) ?_ hp⟩
        rw [rq_isBool rx]
        exact rs_bl (by simp)
    | _ => exact hp.elim
  | _ => exact hp.elim
theorem ro_nis : ROp c (rIsC true) oNis := by
  intro H0 F0 env F σ H x y sx sy R Q J rx ry hp fin
  cases sx with
  | d a =>
    cases sy with
    | d b =>
      cases b <;> try exact hp.elim
      · cases ry
        refine .inl ⟨rfl, fin _ _ F H J (same_refl F) ?_ hp⟩
        rw [rq_isNone rx]
        exact rs_bl (by simp)
      · cases ry
        refine .inr ⟨_, rfl, rq_nb rx, fin _ _ F H J (same_refl F) ?_ hp⟩
        rw [rq_isBool rx]
        exact rs_bl (by simp)
    | _ => exact hp.elim
  | _ => exact hp.elim
theorem atI_rel {F : Hp} {xs : List V} {ds : List PyData} {i : Int} {d : PyData} (r : RqAll F xs ds) (h : atI ds i = some d) : ∃ v, atI xs i = some v ∧ Rq F v d := by
  unfold atI at h ⊢
  rw [r.len]
  cases e : ixN ds.length i with
  | none => rw [e] at h; cases h
  | some j =>
    rw [e] at h
    exact r.get h
theorem ro_ix {K : PySem.W.Frag} : ROp c (rIx K) oIx := by
  intro H0 F0 env F σ H x y sx sy R Q J rx ry hp fin
  cases sx with
  | d a =>
    cases sy with
    | d b =>
      cases a <;> cases b <;> try exact hp.elim
      · obtain ⟨d, e, hp⟩ := hp
        cases ry
        cases rx with
        | lst ea ra =>
          obtain ⟨v, e2, rv⟩ := atI_rel ra e
          exact .inl ⟨_, _, _, v, rfl, rfl, sqL (J.b.sub _ _ ea), e2, fin v (.d d) F H J (same_refl F) rv hp⟩
      · obtain ⟨d, e, hp⟩ := hp
        cases ry
        cases rx with
        | tup ea ra =>
          obtain ⟨v, e2, rv⟩ := atI_rel ra e
          exact .inr (.inl ⟨_, _, _, v, rfl, rfl, sqT (J.b.sub _ _ ea), e2, fin v (.d d) F H J (same_refl F) rv hp⟩)
    | _ => cases a <;> exact hp.elim
  | _ => exact hp.elim
theorem pu_ix {a b : Expr} {pos : Pos} {pa pb : PTE} (ha : PuE X c W a pa) (hb : PuE X c W b pb) (hs : PlainIx b := by exact fun _ _ => rfl) : PuE X c W (.Subscript a b pos) (pOp oIx pa pb) := by
  obtain ⟨ta, ha, ra⟩ := ha
  obtain ⟨tb, hb, rb⟩ := hb
  exact ⟨_, pe_ix ix_seq ha hb hs, rd_op ro_ix ra rb⟩
theorem pu_neg {a : Expr} {pos : Pos} {pa : PTE} (ha : PuE X c W a pa) : PuE X c W (.UnaryOp .USub a pos) (pUn (uI fun i => .int (-i)) pa) := by
  obtain ⟨ta, ha, ra⟩ := ha
  refine ⟨_, pe_un un_neg ha, fun H0 F0 env F σ H R E Q J L hp fin => ra _ _ _ _ _ _ _ _ _ J L hp fun v s F1 H1 J1 k1 r1 h1 => ?_⟩
  cases s with
  | d x =>
    cases x <;> try exact h1.elim
    cases r1
    exact ⟨_, rfl, fin _ (.d (.int _)) F1 H1 J1 k1 (Rq.int _) h1⟩
  | _ => exact h1.elim
end
end Px
namespace Px
open PySem PySem.Spec PyProof.Rows L2 Lx
/-! ### built-ins on data -/
section
variable {X : Cx} {pins : List (Addr × Obj)} {σ : St} {H F : Hp} {s : Shared}
mutual
theorem Rq.reads (I : Inv X pins σ H s) (k : Same F H) : ∀ {v : V} {d : PyData}, Rq F v d → ∀ {u : Value}, RelV v u → ∃ as, Reads s.heap u d as
  | _, _, .non, _, r => by cases r; exact ⟨_, .none⟩
  | _, _, .bl b, _, r => by cases r; exact ⟨_, .bool b⟩
  | _, _, .int i, _, r => by obtain ⟨t, rfl⟩ := r; exact ⟨_, .int i t⟩
  | _, _, .str x, _, r => by obtain ⟨t, rfl⟩ := r; exact ⟨_, .str x t⟩
  | _, _, @Rq.lst _ a xs ds e h, _, r => by
    cases r
    obtain ⟨its, rv, ⟨o, c, ho, hc, _, hd⟩, _⟩ := I.list (.inl (.inl (k _ _ e)))
    obtain ⟨as, q1⟩ := RqAll.reads I k h rv
    exact ⟨_, .list ho hc hd q1⟩
  | _, _, @Rq.tup _ a xs ds e h, _, r => by
    cases r
    obtain ⟨its, rv, ⟨o, ho, hc, c, hd⟩, _⟩ := I.tuple (.inl (.inl (k _ _ e)))
    obtain ⟨as, q1⟩ := RqAll.reads I k h rv
    exact ⟨_, .tuple ho hc hd q1⟩
  | _, _, @Rq.dct _ a kvs ds e hk h, _, r => by
    cases r
    obtain ⟨_, hs, vs, kv, o, es, ep, ho, hx, hd, _, hp, _⟩ := (show ObjOk X.prog X.w H s.heap a (.dK kvs) from I.hok a _ (k _ _ e))
    obtain ⟨as, q1⟩ := RqAll.reads I k h (kv_vals kv)
    have e1 : ReadsAll s.heap (es.toList.map (·.key)) (ds.map (·.1)) [] := by
      rw [hk, ← kv_keys kv]
      exact keys_read hp
    have e2 : ReadsAll s.heap (es.toList.map (·.val)) (ds.map (·.2)) as := by
      rw [vals_of_pairs hp]
      exact q1
    exact ⟨_, .dict ho hx.1 hd e1 e2⟩
theorem RqAll.reads (I : Inv X pins σ H s) (k : Same F H) : ∀ {vs : List V} {ds : List PyData}, RqAll F vs ds → ∀ {us : List Value}, Vals vs us → ∃ as, ReadsAll s.heap us ds as
  | _, _, .nil, _, r => by cases r; exact ⟨_, .nil⟩
  | _, _, .cons h1 h2, _, r => by
    cases r with
    | cons r1 r2 =>
      obtain ⟨as, q1⟩ := Rq.reads I k h1 r1
      obtain ⟨bs, q2⟩ := RqAll.reads I k h2 r2
      exact ⟨_, .cons q1 q2⟩
end
theorem hasLk_vals : ∀ (l : List (PyData × PyData)), hasLk l = hasLs (l.map (·.2))
  | [] => by simp [hasLk, hasLs]
  | (k, v) :: r => by simp [hasLk, hasLs, hasLk_vals r]
mutual
theorem Rq.readsN (I : Inv X pins σ H s) (k : Same F H) : ∀ {v : V} {d : PyData}, Rq F v d → hasL d = false → ∀ {u : Value}, RelV v u → ∃ as, Reads s.heap u d as ∧ sysModules ∉ as
  | _, _, .non, _, _, r => by cases r; exact ⟨_, .none, by simp⟩
  | _, _, .bl b, _, _, r => by cases r; exact ⟨_, .bool b, by simp⟩
  | _, _, .int i, _, _, r => by obtain ⟨t, rfl⟩ := r; exact ⟨_, .int i t, by simp⟩
  | _, _, .str x, _, _, r => by obtain ⟨t, rfl⟩ := r; exact ⟨_, .str x t, by simp⟩
  | _, _, .lst e h, n, _, r => by simp [hasL] at n
  | _, _, @Rq.tup _ a xs ds e h, n, _, r => by
    cases r
    obtain ⟨its, rv, ⟨o, ho, hc, c, hd⟩, _⟩ := I.tuple (.inl (.inl (k _ _ e)))
    obtain ⟨as, q1, q2⟩ := RqAll.readsN I k h (by simpa [hasL] using n) rv
    exact ⟨_, .tuple ho hc hd q1, q2⟩
  | _, _, @Rq.dct _ a kvs ds e hk h, n, _, r => by
    cases r
    obtain ⟨_, hs, vs, kv, o, es, ep, ho, hx, hd, _, hp, _⟩ := (show ObjOk X.prog X.w H s.heap a (.dK kvs) from I.hok a _ (k _ _ e))
    obtain ⟨as, q1, q2⟩ := RqAll.readsN I k h (by rw [← hasLk_vals]; simpa [hasL] using n) (kv_vals kv)
    have e1 : ReadsAll s.heap (es.toList.map (·.key)) (ds.map (·.1)) [] := by
      rw [hk, ← kv_keys kv]
      exact keys_read hp
    have e2 : ReadsAll s.heap (es.toList.map (·.val)) (ds.map (·.2)) as := by
      rw [vals_of_pairs hp]
      exact q1
    refine ⟨_, .dict ho hx.1 hd e1 e2, fun z => ?_⟩
    rcases List.mem_cons.mp z with y | y
    · rw [← y] at hs
      simp at hs
    · exact q2 (by simpa using y)
theorem RqAll.readsN (I : Inv X pins σ H s) (k : Same F H) : ∀ {vs : List V} {ds : List PyData}, RqAll F vs ds → hasLs ds = false → ∀ {us : List Value}, Vals vs us → ∃ as, ReadsAll s.heap us ds as ∧ sysModules ∉ as
  | _, _, .nil, _, _, r => by cases r; exact ⟨_, .nil, by simp⟩
  | _, _, .cons (d := d) (ds := ds) h1 h2, n, _, r => by
    have n' : hasL d = false ∧ hasLs ds = false := by simpa [hasLs] using n
    cases r with
    | cons r1 r2 =>
      obtain ⟨as, q1, n1⟩ := Rq.readsN I k h1 n'.1 r1
      obtain ⟨bs, q2, n2⟩ := RqAll.readsN I k h2 n'.2 r2
      exact ⟨_, .cons q1 q2, fun z => (List.mem_append.mp z).elim n1 n2⟩
end
theorem reads_top (I : Inv X pins σ H s) (k : Same F H) {v : V} {d : PyData} (h : Rq F v d) {u : Value} (r : RelV v u) (nd : d.hasDict = false ∨ hasL d = false) : ∃ as, Reads s.heap u d as ∧ (d.hasDict = true → sysModules ∉ as) := by
  rcases nd with nd | nd
  · obtain ⟨as, q⟩ := h.reads I k r
    exact ⟨as, q, fun z => by rw [nd] at z; cases z⟩
  · obtain ⟨as, q, n⟩ := h.readsN I k nd r
    exact ⟨as, q, fun _ => n⟩
end
/-- repr(x), x data in F -/
def rReprQ : List V → Hp → VK → Prop := fun xs H Q => ∃ (F : Hp) (v : V) (d : PyData), Same F H ∧ xs = [v] ∧ Rq F v d ∧ OkR d ∧ Q (.str d.shown) H
theorem call_reprQ {X : Cx} (hg : X.A.guards = some []) (hu : X.A.units + 65 < cLine) : CallR X (.builtin "repr") rReprQ := by
  intro pins s σ H xs us Q I r h
  obtain ⟨F, v, d, k, rfl, hr, ⟨hs, hd, nd, hz⟩, q⟩ := h
  cases r with
  | cons r1 rr =>
    cases rr
    rename_i u
    have fin : ∀ {t : Tok} {s' : Shared}, Inv X pins σ H s' → EP X pins σ Q (.str d.shown t) s' := fun {t s'} J => ⟨.str d.shown, H, J, ⟨t, rfl⟩, q⟩
    obtain ⟨as, rd, nm⟩ := reads_top I k hr r1 nd
    cases hr with
    | non =>
      cases r1
      exact PySem.P.repr_of_none (by simpa [PyData.shown] using fin (I.tok _))
    | bl b =>
      cases r1
      exact PySem.P.repr_of_bool (by simpa [PyData.shown] using fin (I.tok _))
    | int i =>
      obtain ⟨t, rfl⟩ := r1
      refine PySem.P.repr_of_int (by simpa [PyData.showable] using hs) (by simpa [PyData.shown] using fin (I.tok _))
    | str x =>
      obtain ⟨t, rfl⟩ := r1
      refine PySem.P.repr_of_str (by simpa [PyData.shown] using fin (I.tok _)) (by simpa [PyData.shown] using hz)
    | lst e hh =>
      cases r1
      exact repr_of_reads' rd hs nm hg (by omega) (fun _ _ e => e) (fun h' u tk hk => fin (I.kept hk)) hz
    | tup e hh =>
      cases r1
      exact repr_of_reads' rd hs nm hg (by omega) (fun _ _ e => e) (fun h' u tk hk => fin (I.kept hk)) hz
    | dct e hk hh =>
      cases r1
      exact repr_of_reads' rd hs nm hg (by omega) (fun _ _ e => e) (fun h' u tk hk => fin (I.kept hk)) hz
section
variable {X : Cx} {c : Cc} {W : WX}
def RB (c : Cc) (r : List V → Hp → VK → Prop) (pr : PB) : Prop := ∀ (H0 F0 : Hp) (env : Ev) (F : Hp) (σ : St) (H : Hp) (vs : List V) (ss : List Sl) (R : Sl → Prop) (Q : VK), Rel c H0 F0 env F σ H → RelSs F vs ss → pr ss R → Fin c H0 F0 env F σ R Q → r vs H Q
theorem rd_B {r : List V → Hp → VK → Prop} {pr : PB} {ta : TA} {pa : PTA} (hr : RB c r pr) (ha : RdA c W ta pa) : Rd c W (tCB r ta) (pB pr pa) := by
  intro H0 F0 env F σ H R E Q J L hp fin
  refine ha _ _ _ _ _ _ _ _ _ J L hp fun vs ss F1 H1 J1 k1 r1 h1 => ?_
  exact hr _ _ _ _ _ _ _ _ _ _ J1 r1 h1 fun v s F2 H2 J2 k2 r2 q => fin v s F2 H2 J2 (same_trans k1 k2) r2 q
theorem pu_callB {id : String} {r : List V → Hp → VK → Prop} {pr : PB} {x : Str} {p pos : Pos} {e : Expr} {es : List Expr} {pa : PTA} (hc : CallR X (.builtin id) r) (hr : RB c r pr) (hm : X.mg x = none) (hv : bootBuiltins x = some (.builtin id)) (ha : PuA X c W (e :: es) pa) (hg : Gl X x := by rfl) (hn : x ≠ "__name__" := by decide) (hdb : (x == ("__debug__" : Str)) = false := by decide)
    (he : starEach (e :: es) X.env = (false, eval e X.env) :: starEach es X.env := by rfl) (hpl : (backTo pos (starEach es X.env)).any (·.1) = false := by rfl) : PuE X c W (.Call (.Name x p) (e :: es) [] pos) (pB pr pa) := by
  obtain ⟨ta, ha, ra⟩ := ha
  exact ⟨_, pe_callB hc hg hm hv ha hn hdb he hpl, rd_B hr ra⟩
theorem pu_callTy {id : String} {r : List V → Hp → VK → Prop} {pr : PB} {x : Str} {p pos : Pos} {e : Expr} {es : List Expr} {pa : PTA} (hc : CallR X (.type id) r) (hr : RB c r pr) (hm : X.mg x = none) (hv : bootBuiltins x = some (.type id)) (ha : PuA X c W (e :: es) pa) (hg : Gl X x := by rfl) (hn : x ≠ "__name__" := by decide) (hdb : (x == ("__debug__" : Str)) = false := by decide)
    (he : starEach (e :: es) X.env = (false, eval e X.env) :: starEach es X.env := by rfl) (hpl : (backTo pos (starEach es X.env)).any (·.1) = false := by rfl) : PuE X c W (.Call (.Name x p) (e :: es) [] pos) (pB pr pa) := by
  obtain ⟨ta, ha, ra⟩ := ha
  exact ⟨_, pe_callTy hc hg hm hv ha hn hdb he hpl, rd_B hr ra⟩
theorem pu_callF {id : String} {r : List V → Hp → VK → Prop} {pr : PB} {x : Str} {p pos : Pos} {e : Expr} {es : List Expr} {pa : PTA} (hc : CallR X (.builtin id) r) (hr : RB c r pr) (hm : X.mg x = some (.builtin id)) (ha : PuA X c W (e :: es) pa) (hg : Gl X x := by rfl) (hdb : (x == ("__debug__" : Str)) = false := by decide)
    (he : starEach (e :: es) X.env = (false, eval e X.env) :: starEach es X.env := by rfl) (hpl : (backTo pos (starEach es X.env)).any (·.1) = false := by rfl) : PuE X c W (.Call (.Name x p) (e :: es) [] pos) (pB pr pa) := by
  obtain ⟨ta, ha, ra⟩ := ha
  exact ⟨_, pe_callBfun hc hg hm ha hdb he hpl, rd_B hr ra⟩
theorem rs1 {F : Hp} {vs : List V} {s : Sl} (r : RelSs F vs [s]) : ∃ v, vs = [v] ∧ RelS F v s := by
  cases r with
  | cons a b => cases b; exact ⟨_, rfl, a⟩
theorem rs2 {F : Hp} {vs : List V} {s t : Sl} (r : RelSs F vs [s, t]) : ∃ v w, vs = [v, w] ∧ RelS F v s ∧ RelS F w t := by
  cases r with
  | cons a b =>
    obtain ⟨w, rfl, r2⟩ := rs1 b
    exact ⟨_, _, rfl, a, r2⟩
/-- the shape that a built-in asks -/
theorem bInt_d {ss : List Sl} {R : Sl → Prop} (h : bInt ss R) : (∃ i, ss = [.d (.int i)] ∧ R (.d (.int i))) ∨ ∃ b, ss = [.d (.bool b)] ∧ R (.d (.int (if b = true then 1 else 0))) := by
  unfold bInt at h
  split at h
  · exact .inl ⟨_, rfl, h⟩
  · exact .inr ⟨_, rfl, h⟩
  · exact h.elim
theorem rb_int : RB c rInt bInt := by
  intro H0 F0 env F σ H vs ss R Q J r h fin
  rcases bInt_d h with ⟨i, rfl, q⟩ | ⟨b, rfl, q⟩
  · obtain ⟨v, rfl, rv⟩ := rs1 r
    cases rv
    exact .inl ⟨i, rfl, fin _ (.d _) F H J (same_refl F) (Rq.int i) q⟩
  · obtain ⟨v, rfl, rv⟩ := rs1 r
    cases rv
    exact .inr ⟨b, rfl, fin _ (.d _) F H J (same_refl F) (Rq.int _) q⟩
def rAbs : List V → Hp → VK → Prop := fun xs H Q => ∃ i, xs = [.int i] ∧ Q (.int (if i < 0 then -i else i)) H
theorem c_abs : CallR X (.builtin "abs") rAbs := call_abs
theorem rb_abs : RB c rAbs bAbs := by
  intro H0 F0 env F σ H vs ss R Q J r h fin
  unfold bAbs at h
  split at h
  · rename_i i
    obtain ⟨v, rfl, rv⟩ := rs1 r
    cases rv
    refine ⟨i, rfl, fin _ (.d _) F H J (same_refl F) (?_ : Rq F _ _) h⟩
    rw [show (if i < 0 then -i else i) = ((i.natAbs : Nat) : Int) by split <;> omega]
    exact Rq.int _
  · exact h.elim
theorem rb_gcd : RB c rGcd bGcd := by
  intro H0 F0 env F σ H vs ss R Q J r h fin
  unfold bGcd at h
  split at h
  · rename_i i j
    obtain ⟨v, w, rfl, rv, rw⟩ := rs2 r
    cases rv
    cases rw
    exact ⟨i, j, rfl, fin _ (.d _) F H J (same_refl F) (Rq.int _) h⟩
  · exact h.elim
theorem rb_len {K : PySem.W.Frag} : RB c (rLenK K) bLen := by
  intro H0 F0 env F σ H vs ss R Q J r h fin
  unfold bLen at h
  split at h
  · obtain ⟨v, rfl, rv⟩ := rs1 r
    cases rv with
    | tup e rr => exact ⟨_, _, rfl, .inr (sqT (J.b.sub _ _ e)), fin _ (.d _) F H J (same_refl F) (Rq.int _) (by rw [rr.len]; exact h)⟩
  · obtain ⟨v, rfl, rv⟩ := rs1 r
    cases rv with
    | lst e rr => exact ⟨_, _, rfl, .inl (sqL (J.b.sub _ _ e)), fin _ (.d _) F H J (same_refl F) (Rq.int _) (by rw [rr.len]; exact h)⟩
  · exact h.elim
theorem rb_list {K : PySem.W.Frag} : RB c (rListK K) bList := by
  intro H0 F0 env F σ H vs ss R Q J r h fin
  unfold bList at h
  split at h
  · obtain ⟨v, rfl, rv⟩ := rs1 r
    cases rv with
    | @tup a xs ds e rr =>
      refine ⟨_, _, rfl, .inr (sqT (J.b.sub _ _ e)), fun p hn => ?_⟩
      have k2 : Same F (upd F p (.lst xs)) := same_upd (J.b.fnone hn)
      exact fin (.ref p) (.d _) _ _ (J.alloc hn _) k2 (Rq.lst upd_same (rr.same k2)) h
  · obtain ⟨v, rfl, rv⟩ := rs1 r
    cases rv with
    | @lst a xs ds e rr =>
      refine ⟨_, _, rfl, .inl (sqL (J.b.sub _ _ e)), fun p hn => ?_⟩
      have k2 : Same F (upd F p (.lst xs)) := same_upd (J.b.fnone hn)
      exact fin (.ref p) (.d _) _ _ (J.alloc hn _) k2 (Rq.lst upd_same (rr.same k2)) h
  · exact h.elim
def rTupK (K : PySem.W.Frag) : List V → Hp → VK → Prop := fun xs H Q => ∃ p ys, xs = [.ref p] ∧ ((SqL K H p ys ∧ ∀ l, H l = none → Q (.ref l) (upd H l (.tup ys))) ∨ (SqT K H p ys ∧ Q (.ref p) H))
theorem c_tuple : CallR X (.type "tuple") (rTupK X.K) := call_tuple_of
theorem rb_tuple {K : PySem.W.Frag} : RB c (rTupK K) bTuple := by
  intro H0 F0 env F σ H vs ss R Q J r h fin
  unfold bTuple at h
  split at h
  · obtain ⟨v, rfl, rv⟩ := rs1 r
    cases rv with
    | @tup a xs ds e rr => exact ⟨_, _, rfl, .inr ⟨sqT (J.b.sub _ _ e), fin (.ref a) (.d _) F H J (same_refl F) (Rq.tup e rr) h⟩⟩
  · obtain ⟨v, rfl, rv⟩ := rs1 r
    cases rv with
    | @lst a xs ds e rr =>
      refine ⟨_, _, rfl, .inl ⟨sqL (J.b.sub _ _ e), fun p hn => ?_⟩⟩
      have k2 : Same F (upd F p (.tup xs)) := same_upd (J.b.fnone hn)
      exact fin (.ref p) (.d _) _ _ (J.alloc hn _) k2 (Rq.tup upd_same (rr.same k2)) h
  · exact h.elim
theorem rb_repr : RB c rReprQ bRepr := by
  intro H0 F0 env F σ H vs ss R Q J r h fin
  unfold bRepr at h
  split at h
  · obtain ⟨v, rfl, rv⟩ := rs1 r
    exact ⟨F, v, _, J.b.sub, rfl, rv, h.1, fin _ (.d _) F H J (same_refl F) (Rq.str _) h.2⟩
  · exact h.elim
/-- all(l), l of bools -/
def boolsOf : List PyData → Option (List Bool)
  | [] => some []
  | .bool b :: l => (boolsOf l).map (b :: ·)
  | _ :: _ => none
def bAll : PB := fun ss R => match ss with
  | [.d (.list ds)] => ∃ bs, boolsOf ds = some bs ∧ R (.d (.bool (bs.all id)))
  | _ => False
theorem boolsOf_v {F : Hp} : ∀ {vs : List V} {ds : List PyData} {bs : List Bool}, RqAll F vs ds → boolsOf ds = some bs → vs = bs.map V.bl
  | _, _, bs, .nil, h => by cases h; rfl
  | _, _, bs, .cons a b, h => by
    cases a <;> simp [boolsOf] at h
    obtain ⟨l, h1, h2⟩ := h
    subst h2
    rw [boolsOf_v b h1]
    rfl
theorem rb_all {K : PySem.W.Frag} : RB c (rAll K) bAll := by
  intro H0 F0 env F σ H vs ss R Q J r h fin
  unfold bAll at h
  split at h
  · obtain ⟨v, rfl, rv⟩ := rs1 r
    obtain ⟨bs, e1, q⟩ := h
    cases rv with
    | @lst a xs ds e rr =>
      have ee := boolsOf_v rr e1
      subst ee
      exact ⟨a, bs, rfl, sqL (J.b.sub _ _ e), fin _ (.d _) F H J (same_refl F) (Rq.bl _) q⟩
  · exact h.elim

/-! ### isinstance -/
theorem rq_ty {F H : Hp} {K : PySem.W.Frag} (k : Same F H) {v : V} {d : PyData} (h : Rq F v d) : TyX K H v (.type (tyN d)) := by
  cases h with
  | non => exact .base .non
  | bl b => exact .base (.bl b)
  | int i => exact .base (.int i)
  | str x => exact .base (.str x)
  | lst e _ => exact .base (.lst (k _ _ e))
  | tup e _ => exact .base (.tup (k _ _ e))
  | dct e _ _ => exact .base (.dK (k _ _ e))
def tyNames : List String := ["NoneType", "bool", "int", "str", "list", "tuple", "dict"]
theorem tyN_mem (d : PyData) : tyN d ∈ tyNames := by cases d <;> simp [tyN, tyNames]
/-- the answers of isinstance for the class t -/
def IsiTab (t : String) : Prop := ∀ n ∈ tyNames, kitB n t = some (n == t || (t == "int" && n == "bool"))
theorem isi_int : IsiTab "int" := by unfold IsiTab; decide +kernel
theorem isi_bool : IsiTab "bool" := by unfold IsiTab; decide +kernel
theorem isi_str : IsiTab "str" := by unfold IsiTab; decide +kernel
theorem isi_tuple : IsiTab "tuple" := by unfold IsiTab; decide +kernel
theorem isi_list : IsiTab "list" := by unfold IsiTab; decide +kernel
theorem isi_dict : IsiTab "dict" := by unfold IsiTab; decide +kernel
theorem IsiTab.at {t : String} (h : IsiTab t) {K : PySem.W.Frag} (d : PyData) : PySem.W.kitOne K (.type (tyN d)) (.type t) = some (isTy t d) := kit_ty (h _ (tyN_mem d))
def uIsi (t : String) : Sl → (Sl → Prop) → Prop := fun x R => match x with
  | .d x => R (.d (.bool (isTy t x)))
  | _ => False
def uIsi2 (t u : String) : Sl → (Sl → Prop) → Prop := fun x R => match x with
  | .d x => R (.d (.bool (isTy t x || isTy u x)))
  | _ => False
theorem pu_isi {t : String} {e : Expr} {p q pos : Pos} {x : Str} {pa : PTE} (hT : IsiTab t) (hm : X.mg "isinstance" = none) (hm2 : X.mg x = none) (hv : bootBuiltins x = some (.type t)) (ha : PuE X c W e pa) (hg : Gl X "isinstance" := by rfl) (hg2 : Gl X x := by rfl) (hn : x ≠ "__name__" := by decide) (hdb : (x == ("__debug__" : Str)) = false := by decide)
    (h1 : starEach [e, .Name x q] X.env = (false, eval e X.env) :: starEach [.Name x q] X.env := by rfl) (h2 : starEach [Expr.Name x q] X.env = (false, eval (.Name x q) X.env) :: starEach [] X.env := by rfl) (hpl : (backTo pos (starEach [Expr.Name x q] X.env)).any (·.1) = false := by rfl) :
    PuE X c W (.Call (.Name "isinstance" p) [e, .Name x q] [] pos) (pUn (uIsi t) pa) := by
  obtain ⟨ta, ha, ra⟩ := ha
  refine ⟨_, pe_callB call_isi hg hm (by decide +kernel) (pa_cons ha (pa_cons (pe_bltn (v := .ty t) hg2 hm2 hv rfl hn hdb) pa_nil h2) h1) (by decide) (by decide) h1 hpl, fun H0 F0 env F σ H R E Q J L hp fin => ?_⟩
  refine ra _ _ _ _ _ _ _ _ _ J L hp fun v s F1 H1 J1 k1 r1 q1 => ?_
  cases s with
  | d x => exact ⟨v, .ty t, _, _, _, rfl, .ty t, rq_ty J1.b.sub r1, hT.at x, fin _ (.d _) F1 H1 J1 k1 (Rq.bl _) q1⟩
  | _ => exact q1.elim
theorem pu_isi2 {t u : String} {e : Expr} {p q q2 q3 pos : Pos} {k : Nat} {x y : Str} {pa : PTE} (hT : IsiTab t) (hU : IsiTab u) (hm : X.mg "isinstance" = none) (hm2 : X.mg x = none) (hv : bootBuiltins x = some (.type t)) (hm3 : X.mg y = none) (hv3 : bootBuiltins y = some (.type u)) (ha : PuE X c W e pa)
    (hg : Gl X "isinstance" := by rfl) (hg2 : Gl X x := by rfl) (hg3 : Gl X y := by rfl) (hn : x ≠ "__name__" := by decide) (hn3 : y ≠ "__name__" := by decide) (hdb : (x == ("__debug__" : Str)) = false := by decide) (hdb3 : (y == ("__debug__" : Str)) = false := by decide)
    (h1 : starEach [e, .Tuple [.Name x q, .Name y q2] k q3] X.env = (false, eval e X.env) :: starEach [.Tuple [.Name x q, .Name y q2] k q3] X.env := by rfl) (hpl : (backTo pos (starEach [Expr.Tuple [.Name x q, .Name y q2] k q3] X.env)).any (·.1) = false := by rfl)
    (h2 : starEach [Expr.Tuple [.Name x q, .Name y q2] k q3] X.env = (false, eval (Expr.Tuple [.Name x q, .Name y q2] k q3) X.env) :: starEach [] X.env := by rfl) (h3 : starEach [Expr.Name x q, .Name y q2] X.env = (false, eval (.Name x q) X.env) :: starEach [.Name y q2] X.env := by rfl)
    (h4 : starEach [Expr.Name y q2] X.env = (false, eval (.Name y q2) X.env) :: starEach [] X.env := by rfl) :
    PuE X c W (.Call (.Name "isinstance" p) [e, .Tuple [.Name x q, .Name y q2] k q3] [] pos) (pUn (uIsi2 t u) pa) := by
  obtain ⟨ta, ha, ra⟩ := ha
  refine ⟨_, pe_callB call_isiT hg hm (by decide +kernel) (pa_cons ha (pa_cons (pe_tup (pa_cons (pe_bltn (v := .ty t) hg2 hm2 hv rfl hn hdb) (pa_cons (pe_bltn (v := .ty u) hg3 hm3 hv3 rfl hn3 hdb3) pa_nil h4) h3)) pa_nil h2) h1) (by decide) (by decide) h1 hpl, fun H0 F0 env F σ H R E Q J L hp fin => ?_⟩
  refine ra _ _ _ _ _ _ _ _ _ J L hp fun v s F1 H1 J1 k1 r1 q1 => ?_
  cases s with
  | d x =>
    refine ⟨by show 2 ≤ sizeLine; decide, fun p hn => ?_⟩
    have k2 : Same F1 (upd F1 p (.tup [.ty t, .ty u])) := same_upd (J1.b.fnone hn)
    refine ⟨v, p, [.ty t, .ty u], .type (tyN x), [.type t, .type u], _, rfl, upd_same, .cons (.ty t) (.cons (.ty u) .nil), rq_ty (J1.alloc hn _).b.sub (r1.same k2), ?_, fin _ (.d (.bool (isTy t x || isTy u x))) _ _ (J1.alloc hn _) (same_trans k1 k2) (Rq.bl _) q1⟩
    refine kitAny_cons (hT.at x) (fun e1 => ?_) (fun e1 => by rw [e1]; rfl)
    rw [e1]
    refine kitAny_cons (hU.at x) (fun e2 => ?_) (fun e2 => by rw [e2]; rfl)
    rw [e2]
    exact kitAny_nil
  | _ => exact q1.elim
end
end Px
namespace Px
open PySem PySem.Spec PyProof.Rows L2 Lx
/-! ### defs and their calls -/
def lift (c : Cc) (n : Nat) (sp : PSp) : Sp := fun vs H Q E => ∃ (F : Hp) (ss : List Sl) (R : Sl → Prop) (EX : Addr → FD → Prop), Bas c H F F H ∧ RelSs F vs ss ∧ ss.length = n ∧ sp ss R EX ∧
  (∀ (v : V) (s : Sl) (F' H' : Hp), Bas c H F F' H' → RelS F' v s → R s → Q v H') ∧ (∀ (C : Addr) (d : Option Addr) (ds : FD) (F' H' : Hp), Bas c H F F' H' → ExcD F' d ds → EX C ds → E (.ref C) d H')
def startP (N : List Str) (ss : List Sl) : Ev := ss.map some ++ List.replicate (N.length - ss.length) none
def pdOf (R : Sl → Prop) (EX : Addr → FD → Prop) : PD := ⟨fun _ => R (.d .none), R, fun _ => False, fun _ => False, fun _ => EX⟩
def WF (E : XK) : WX := fun cls d _ H' => E cls d H'
theorem RelSs.noown {F : Hp} : ∀ {vs : List V} {ss : List Sl}, RelSs F vs ss → ∀ (i : Nat) (xs : List PyData), ss[i]? ≠ some (.own xs)
  | _, _, .nil, i, xs => by simp
  | _, _, .cons a b, 0, xs => fun h => by
    simp at h
    subst h
    exact a
  | _, _, .cons a b, i + 1, xs => fun h => b.noown i xs (by simpa using h)
theorem RelSs.get {F : Hp} : ∀ {vs : List V} {ss : List Sl} {i : Nat} {s : Sl}, RelSs F vs ss → ss[i]? = some s → ∃ v, vs[i]? = some v ∧ RelS F v s
  | _, _, i, s, .nil, h => by simp at h
  | _, _, 0, s, .cons a b, h => by
    simp at h
    subst h
    exact ⟨_, rfl, a⟩
  | _, _, i + 1, s, .cons a b, h => by
    obtain ⟨v, e, r⟩ := b.get (i := i) (s := s) (by simpa using h)
    exact ⟨v, by simpa using e, r⟩
section
variable {P : Program} {w : World} {K : PySem.W.Frag} {mg : Str → Option Value} {base : Heap} {x : Str} {st : Stmt} {N ps : List Str} {k : Nat} {sp : PSp} {c : Cc}
theorem rel_start {H F : Hp} {vs : List V} {ss : List Sl} (B : Bas c H F F H) (r : RelSs F vs ss) (N : List Str) : Rel c H F (startP N ss) F (L2.start N vs) H := by
  have own : ∀ (i : Nat) (xs : List PyData), (startP N ss)[i]? ≠ some (some (.own xs)) := fun i xs h => by
    unfold startP at h
    by_cases hi : i < ss.length
    · rw [List.getElem?_append_left (by simpa using hi), List.getElem?_map] at h
      cases e : ss[i]? with
      | none => rw [e] at h; cases h
      | some s =>
        rw [e] at h
        have h' : s = .own xs := Option.some.inj (Option.some.inj h)
        exact r.noown i xs (by rw [e, h'])
    · rw [List.getElem?_append_right (by simpa using Nat.le_of_not_lt hi)] at h
      have := List.mem_of_getElem? h
      rw [List.mem_replicate] at this
      cases this.2
  refine ⟨B, ?_, fun i ov s e1 e2 => ?_, fun i j q xs ys e1 _ _ _ => absurd e1 (own i xs)⟩
  · unfold L2.start startP
    simp [r.len]
  · cases s with
    | none => exact True.intro
    | some s =>
      unfold startP at e2
      by_cases hi : i < ss.length
      · rw [List.getElem?_append_left (by simpa using hi), List.getElem?_map] at e2
        cases e : ss[i]? with
        | none => rw [e] at e2; cases e2
        | some s' =>
          rw [e] at e2
          have h' : s' = s := Option.some.inj (Option.some.inj e2)
          subst h'
          obtain ⟨v, e3, rv⟩ := r.get e
          unfold L2.start at e1
          rw [List.getElem?_append_left (by rw [List.length_map, r.len]; exact hi), List.getElem?_map, e3] at e1
          cases e1
          cases s' with
          | d x => exact ⟨v, rfl, rv⟩
          | raw u => exact congrArg some rv
          | exc p C ds => exact ⟨congrArg some rv.1, rv.2⟩
          | obj C ds => exact ⟨rv.choose, congrArg some rv.choose_spec.1, rv.choose_spec.2⟩
          | slf x C ds => exact rv.elim
          | own xs => exact rv.elim
      · rw [List.getElem?_append_right (by simpa using Nat.le_of_not_lt hi)] at e2
        have := List.mem_of_getElem? e2
        rw [List.mem_replicate] at this
        cases this.2
/-- a def by its pure reading -/
theorem keepP (F : Has K mg x st) (b : BindsBy x st ps) (S : FnScope N ps (defScope st))
    (hbody : ∀ (f : Addr) (cdv : Value) (A : Around) (outer : List Env) (s : Shared) (H : Hp) (E : XK), Room k (A.deeper (envOfC x (defScope st) s.heap.objs.size f cdv)) →
      (A.deeper (envOfC x (defScope st) s.heap.objs.size f cdv)).guards = some [] →
      ∃ pt, PuSs (cxOf (L2.CX P w) P w K mg base N x (defScope st) f cdv A outer s H E) c (WF E) (defBody st) pt ∧ ∀ ss R EX, ss.length = ps.length → sp ss R EX → pt (pdOf R EX) (startP N ss)) :
    Keeps P w K mg base (L2.CX P w) (k + 1) x ps (lift c ps.length sp) := by
  refine keepX F b S (fun vs H Q E h => ?_) fun f cdv A outer s H vs Q E hr hg h => ?_
  · obtain ⟨F, ss, R, EX, _, rs, hl, _⟩ := h
    rw [rs.len, hl]
  · obtain ⟨F, ss, R, EX, B, rs, hl, hp, hq, he⟩ := h
    obtain ⟨pt, ⟨t, ht, hrd⟩, hpure⟩ := hbody f cdv A outer s H E hr hg
    refine ⟨t, ht, hrd H F (startP N ss) F (L2.start N vs) H _ (pdOf R EX) (rel_start B rs N) ⟨?_, ?_, ?_, ?_, ?_⟩ (hpure ss R EX hl hp)⟩
    · exact fun env' F' σ' H' J _ q => hq .non (.d .none) F' H' J.b Rq.non q
    · exact fun v s F' H' B' rv q => hq v s F' H' B' rv q
    · exact fun env' F' σ' H' J _ q => q.elim
    · exact fun env' F' σ' H' J _ q => q.elim
    · exact fun env' F' σ' H' C d ds J x q => he C d ds F' H' J.b x q
end
section
variable {X : Cx} {c : Cc} {W : WX}
def pCalln (n : Nat) (sp : PSp) (a : PTA) : PTE := fun env R E => a env (fun ss => ss.length = n ∧ sp ss R (E env)) E
theorem rd_call {n : Nat} {sp : PSp} {ta : TA} {pa : PTA} (ha : RdA c W ta pa) : Rd c W (tCallS (lift c n sp) (WE W) ta) (pCalln n sp pa) := by
  intro H0 F0 env F σ H R E Q J L hp fin
  refine ha _ _ _ _ _ _ _ _ _ J L hp fun vs ss F1 H1 J1 k1 r1 h1 => ?_
  refine ⟨F1, ss, R, E env, J1.b.here, r1, h1.1, h1.2, fun v s F' H' B rv q => ?_, fun C d ds F' H' B x q => ?_⟩
  · exact fin v s F' H' (J1.after B) (same_trans k1 B.fF) rv q
  · exact L env F' σ H' C d ds (J1.after B) x q
theorem pu_call {j k : Nat} {ps : List Str} {sp : PSp} {x : Str} {q pos : Pos} {e : Expr} {es : List Expr} {pa : PTA} (D : Keeps X.prog X.w X.K X.mg X.base (L2.CX X.prog X.w) j x ps (lift c ps.length sp)) (hr : Room k X.A) (hg : X.A.guards = some []) (tk : Takes X W) (ha : PuA X c W (e :: es) pa)
    (hjk : j ≤ k := by decide) (hgl : Gl X x := by rfl) (hdb : (x == ("__debug__" : Str)) = false := by decide) (he : starEach (e :: es) X.env = (false, eval e X.env) :: starEach es X.env := by rfl)
    (hpl : (backTo pos (starEach es X.env)).any (·.1) = false := by rfl) : PuE X c W (.Call (.Name x q) (e :: es) [] pos) (pCalln ps.length sp pa) := by
  obtain ⟨ta, ha, ra⟩ := ha
  exact ⟨_, pcX D hr hg tk ha hjk hgl hdb he hpl, rd_call ra⟩

/-! ### statements -/
theorem pus_nil : PuSs X c W [] psNext := ⟨_, pss_nil, fun H0 F0 env F σ H D P J L h => L.nx env F σ H J (same_refl F) h⟩
theorem Lk.with {H0 F0 F F' : Hp} {D : Ends} {P : PD} (L : Lk c W H0 F0 F D P) (k : Same F F') : Lk c W H0 F0 F' D P :=
  ⟨fun e G s H' J s' q => L.nx e G s H' J (same_trans k s') q, L.rt, fun e G s H' J s' q => L.bk e G s H' J (same_trans k s') q, fun e G s H' J s' q => L.ct e G s H' J (same_trans k s') q, L.ex⟩
theorem pus_cons {st : Stmt} {rest : List Stmt} {a b : PTS} (h1 : PuS X c W st a) (h2 : PuSs X c W rest b) : PuSs X c W (st :: rest) (psSeq a b) := by
  obtain ⟨t, h1, r1⟩ := h1
  obtain ⟨u, h2, r2⟩ := h2
  refine ⟨_, pss_cons h1 h2, fun H0 F0 env F σ H D P J L h => ?_⟩
  show t { D with nx := u D } σ H
  refine r1 _ _ _ _ _ _ _ { P with nx := b P } J ⟨fun env' F' σ' H' J' k q => ?_, L.rt, L.bk, L.ct, L.ex⟩ h
  exact r2 _ _ _ _ _ _ _ P J' (L.with k) q
theorem pus_one {st : Stmt} {a : PTS} (h1 : PuS X c W st a) : PuSs X c W [st] a := by
  obtain ⟨t, h1, r1⟩ := h1
  exact ⟨_, pss_one h1, r1⟩
theorem pus_set {i : Nat} {x : Str} {e : Expr} {pos pos' : Pos} {pa : PTE} (hN : X.N.Nodup) (ha : PuE X c W e pa) (hi : X.N[i]? = some x := by rfl) (hx : Loc X.env.scope x := by first | exact .inl rfl | exact .inr rfl) (hs : swapsWith e (some (.Name x pos')) pos.line X.env = pure false := by rfl) (hf : X.fn x = true ∨ X.env.scope.names.lookup x = some .local := by first | exact .inl rfl | exact .inr rfl | assumption) :
    PuS X c W (.Assign [.Name x pos'] e pos) (psSet i pa) := by
  obtain ⟨ta, ha, ra⟩ := ha
  refine ⟨_, ps_set hN hi hx ha hs hf, fun H0 F0 env F σ H D P J L h => ?_⟩
  refine ra _ _ _ _ _ _ _ _ _ J L.ex h fun v s F1 H1 J1 k1 r1 h1 => ?_
  exact L.nx _ F1 _ H1 (J1.set i r1) k1 h1
theorem pus_par {i j : Nat} {x y : Str} {a b : Expr} {pa : PTA} {px py pt pos : Pos} {kt k2 pt2} (hc : X.calm = true) (hN : X.N.Nodup) (ha : PuA X c W [a, b] pa) (hi : X.N[i]? = some x := by rfl) (hj : X.N[j]? = some y := by rfl) (hij : i ≠ j := by decide)
    (hx : X.env.scope.names.lookup x = some .local := by rfl) (hy : X.env.scope.names.lookup y = some .local := by rfl)
    (hw : swappedStores [.Tuple [.Name x px, .Name y py] kt pt] (.Tuple [a, b] k2 pt2) X.env = pure (some [x, y]) := by rfl)
    (hs : swapsWithSole [.Tuple [.Name x px, .Name y py] kt pt] (.Tuple [a, b] k2 pt2) pos.line X.env = pure false := by rfl) :
    PuS X c W (.Assign [.Tuple [.Name x px, .Name y py] kt pt] (.Tuple [a, b] k2 pt2) pos) (psPar i j pa) := by
  obtain ⟨ta, ha, ra⟩ := ha
  refine ⟨_, ps_par hc hN hi hj hij hx hy ha hw hs, fun H0 F0 env F σ H D P J L h => ?_⟩
  refine ra _ _ _ _ _ _ _ _ _ J L.ex h fun vs ss F1 H1 J1 k1 r1 h1 => ?_
  split at h1
  · obtain ⟨v, w, rfl, rv, rw⟩ := rs2 r1
    exact ⟨v, w, rfl, L.nx _ F1 _ H1 ((J1.set i rv).set j rw) k1 h1⟩
  · exact h1.elim
theorem pus_if {t : Expr} {a b : List Stmt} {pos : Pos} {pt : PTT} {pa pb : PTS} (hc : PuT X c W t pt) (ha : PuSs X c W a pa) (hb : PuSs X c W b pb) : PuS X c W (.If t a b pos) (psIf pt pa pb) := by
  obtain ⟨tc, hc, rc⟩ := hc
  obtain ⟨ta, ha, ra⟩ := ha
  obtain ⟨tb, hb, rb⟩ := hb
  refine ⟨_, ps_if hc ha hb, fun H0 F0 env F σ H D P J L h => ?_⟩
  refine rc _ _ _ _ _ _ _ _ _ J L.ex h fun x F1 H1 J1 k1 h1 => ?_
  cases x with
  | true => exact ra _ _ _ _ _ _ _ P J1 (L.with k1) (h1.1 rfl)
  | false => exact rb _ _ _ _ _ _ _ P J1 (L.with k1) (h1.2 rfl)
theorem pus_ret {e : Expr} {pos : Pos} {pa : PTE} (ha : PuE X c W e pa) : PuS X c W (.Return (some e) pos) (psRet pa) := by
  obtain ⟨ta, ha, ra⟩ := ha
  refine ⟨_, ps_ret ha, fun H0 F0 env F σ H D P J L h => ?_⟩
  exact ra _ _ _ _ _ _ _ _ _ J L.ex h fun v s F1 H1 J1 k1 r1 h1 => L.rt v s F1 H1 J1.b r1 h1
theorem pus_expr {e : Expr} {pos : Pos} {pa : PTE} (ha : PuE X c W e pa) (hs : swapsWith e none pos.line X.env = pure false := by rfl) : PuS X c W (.Expr e pos) (psDrop pa) := by
  obtain ⟨ta, ha, ra⟩ := ha
  refine ⟨_, ps_expr ha hs, fun H0 F0 env F σ H D P J L h => ?_⟩
  exact ra _ _ _ _ _ _ _ _ _ J L.ex h fun v s F1 H1 J1 k1 r1 h1 => L.nx env F1 σ H1 J1 k1 h1
theorem pus_cont {pos : Pos} : PuS X c W (.Continue pos) psCont := ⟨_, ps_continue, fun H0 F0 env F σ H D P J L h => L.ct env F σ H J (same_refl F) h⟩

/-! ### targets -/
abbrev PTG := Sl → Ev → (Ev → Prop) → Prop
abbrev PTGs := List PyData → Ev → (Ev → Prop) → Prop
/-- the target's reading; is: the slots that it may write -/
def RdG (c : Cc) (g : TG) (pg : PTG) (is : List Nat) : Prop := ∀ (H0 F0 : Hp) (env : Ev) (F : Hp) (σ : St) (H : Hp) (v : V) (s : Sl) (N : Ev → Prop) (Q : St → Hp → Prop), Rel c H0 F0 env F σ H → RelS F v s → pg s env N →
  (∀ (env' : Ev) (σ' : St), Rel c H0 F0 env' F σ' H → σ'.length = σ.length → (∀ j, j ∉ is → σ'[j]? = σ[j]?) → N env' → Q σ' H) → g v σ H Q
def RdGs (c : Cc) (g : TGs) (pg : PTGs) (is : List Nat) : Prop := ∀ (H0 F0 : Hp) (env : Ev) (F : Hp) (σ : St) (H : Hp) (vs : List V) (ds : List PyData) (N : Ev → Prop) (Q : St → Hp → Prop), Rel c H0 F0 env F σ H → RqAll F vs ds → pg ds env N →
  (∀ (env' : Ev) (σ' : St), Rel c H0 F0 env' F σ' H → σ'.length = σ.length → (∀ j, j ∉ is → σ'[j]? = σ[j]?) → N env' → Q σ' H) → g vs σ H Q
def PuG (X : Cx) (c : Cc) (tg : Expr) (pg : PTG) (is : List Nat) : Prop := ∃ g, PG X tg g ∧ RdG c g pg is
def PuGs (X : Cx) (c : Cc) (tgs : List Expr) (pg : PTGs) (is : List Nat) : Prop := ∃ g, PGs X tgs g ∧ RdGs c g pg is
def pgName (i : Nat) : PTG := fun s env N => N (env.set i (some s))
def pgNil : PTGs := fun ds env N => ds = [] ∧ N env
def pgCons (g : PTG) (gs : PTGs) : PTGs := fun ds env N => match ds with
  | d :: l => g (.d d) env fun env' => gs l env' N
  | [] => False
def pgTup (n : Nat) (gs : PTGs) : PTG := fun s env N => match s with
  | .d (.tuple ds) => ds.length = n ∧ gs ds env N
  | _ => False
theorem pug_name {i : Nat} {x : Str} {pos : Pos} (hN : X.N.Nodup) (hi : X.N[i]? = some x := by rfl) (hx : Loc X.env.scope x := by first | exact .inl rfl | exact .inr rfl) (hf : X.fn x = true ∨ X.env.scope.names.lookup x = some .local := by first | exact .inl rfl | exact .inr rfl | assumption) : PuG X c (.Name x pos) (pgName i) [i] := by
  refine ⟨_, pg_name hN hi hx hf, fun H0 F0 env F σ H v s N Q J r h k => ?_⟩
  exact k _ _ (J.set i r) (by rw [List.length_set]) (fun j hj => List.getElem?_set_ne fun z => hj (by rw [z]; exact List.mem_singleton_self _)) h
theorem pugs_nil : PuGs X c [] pgNil [] := ⟨_, pgs_nil, fun H0 F0 env F σ H vs ds N Q J r h k => by
  obtain ⟨e, h⟩ := h
  subst e
  cases r
  exact ⟨rfl, k env σ J rfl (fun _ _ => rfl) h⟩⟩
theorem pugs_cons {e : Expr} {es : List Expr} {pg : PTG} {pgs : PTGs} {is js : List Nat} (h1 : PuG X c e pg is) (h2 : PuGs X c es pgs js) (hs : (assignEach (e :: es) X.env).map (·.2) = assign e X.env :: (assignEach es X.env).map (·.2) := by rfl) :
    PuGs X c (e :: es) (pgCons pg pgs) (is ++ js) := by
  obtain ⟨g, h1, r1⟩ := h1
  obtain ⟨gs, h2, r2⟩ := h2
  refine ⟨_, pgs_cons h1 h2 hs, fun H0 F0 env F σ H vs ds N Q J r h k => ?_⟩
  cases r with
  | nil => exact h.elim
  | cons a b =>
    refine ⟨_, _, rfl, r1 _ _ _ _ _ _ _ (.d _) _ _ J a h fun env1 σ1 J1 l1 o1 h1 => ?_⟩
    refine r2 _ _ _ _ _ _ _ _ _ _ J1 b h1 fun env2 σ2 J2 l2 o2 h2 => ?_
    refine k env2 σ2 J2 (l2.trans l1) (fun j hj => ?_) h2
    rw [List.mem_append, not_or] at hj
    rw [o2 j hj.2, o1 j hj.1]
theorem pug_tup {es : List Expr} {k : Nat} {pos : Pos} {pgs : PTGs} {is : List Nat} {n : Nat} (hc : X.calm = true) (h : PuGs X c es pgs is) (hn : (assignEach es X.env).length = n := by rfl) (hst : (assignEach es X.env).findIdx? (·.1) = none := by rfl) : PuG X c (.Tuple es k pos) (pgTup n pgs) is := by
  obtain ⟨g, h, r⟩ := h
  refine ⟨_, pg_tup hc h hn hst, fun H0 F0 env F σ H v s N Q J rv hp k => ?_⟩
  unfold pgTup at hp
  split at hp
  · cases rv with
    | tup e rr => exact ⟨_, _, rfl, sqT (J.b.sub _ _ e), by rw [rr.len]; exact hp.1, r _ _ _ _ _ _ _ _ _ _ J rr hp.2 k⟩
  · exact hp.elim
def psAsg (a : PTE) (g : PTG) : PTS := fun P env => a env (fun s => g s env P.nx) P.ex
theorem pus_asg {tg e : Expr} {pos : Pos} {pa : PTE} {pg : PTG} {is : List Nat} (ha : PuE X c W e pa) (hg : PuG X c tg pg is) (hs : swapsWithSole [tg] e pos.line X.env = pure false := by rfl) (hw : swappedStores [tg] e X.env = pure none := by rfl)
    (h1 : (assignEach [tg] X.env).map (·.2) = [assign tg X.env] := by rfl) : PuS X c W (.Assign [tg] e pos) (psAsg pa pg) := by
  obtain ⟨ta, ha, ra⟩ := ha
  obtain ⟨g, hg, rg⟩ := hg
  refine ⟨_, ps_asg ha hg hs hw h1, fun H0 F0 env F σ H D P J L h => ?_⟩
  refine ra _ _ _ _ _ _ _ _ _ J L.ex h fun v s F1 H1 J1 k1 r1 h1 => ?_
  exact rg _ _ _ _ _ _ _ _ _ _ J1 r1 h1 fun env' σ' J' _ _ q => L.nx env' F1 σ' H1 J' k1 q

/-! ### loops -/
abbrev PTI := Ev → (List PyData → Prop) → XP → Prop
/-- the iterator gives these items, whatever else comes to the heap -/
structure Walk (c : Cc) (J : It) (F : Hp) (ds : List PyData) : Prop where
  stop : ∀ (H0 F0 : Hp) (env : Ev) (F' : Hp) (σ : St) (H : Hp), Rel c H0 F0 env F' σ H → Same F F' → J.stop ds.length H
  go : ∀ (H0 F0 : Hp) (env : Ev) (F' : Hp) (σ : St) (H : Hp) (i : Nat) (d : PyData), Rel c H0 F0 env F' σ H → Same F F' → ds[i]? = some d → J.go i H ∧ ∀ (x : V) (H3 : Hp), J.yld i H x H3 → ∃ F3, Rel c H0 F0 env F3 σ H3 ∧ Same F' F3 ∧ Rq F3 x d
def RdI (c : Cc) (W : WX) (wi : TI) (pi : PTI) : Prop := ∀ (H0 F0 : Hp) (env : Ev) (F : Hp) (σ : St) (H : Hp) (R : List PyData → Prop) (E : XP) (Q : It → Hp → Prop), Rel c H0 F0 env F σ H → LinkX c H0 F0 W E → pi env R E →
  (∀ (J : It) (F' H' : Hp) (ds : List PyData), Rel c H0 F0 env F' σ H' → Same F F' → Walk c J F' ds → R ds → Q J H') → wi σ H Q
def PuI (X : Cx) (c : Cc) (W : WX) (tg iter : Expr) (pi : PTI) : Prop := ∃ wi, PI X tg iter wi ∧ RdI c W wi pi
def pForL (g : PTG) (body : PTS) : List PyData → PD → Ev → Prop
  | [], P, env => P.nx env
  | d :: l, P, env => g (.d d) env fun env' => body { P with nx := pForL g body l P, ct := pForL g body l P, bk := P.nx } env'
def psFor (it : PTI) (g : PTG) (body : PTS) : PTS := fun P env => it env (fun ds => pForL g body ds P env) P.ex
theorem pus_for {tg iter : Expr} {body : List Stmt} {pos : Pos} {pi : PTI} {pg : PTG} {is : List Nat} {pb : PTS} (hp : PassesOwn (model X.prog X.w) X.A X.env X.xe) (hc : X.calm = true) (hi : PuI X c W tg iter pi) (hg : PuG X c tg pg is) (hb : PuSs X c W body pb)
    (hs : ∀ x, foldedSetIterable iter X.env x = pure x := by intro _; rfl) : PuS X c W (.For tg iter body [] pos) (psFor pi pg pb) := by
  obtain ⟨wi, hi, ri⟩ := hi
  obtain ⟨g, hg, rg⟩ := hg
  obtain ⟨tb, hb, rb⟩ := hb
  refine ⟨_, ps_for hp hc hi hg hb hs, fun H0 F0 env F σ H D P J L h => ?_⟩
  refine ri _ _ _ _ _ _ _ _ _ J L.ex h fun I F1 H1 ds J1 k1 wk h1 => ?_
  refine ⟨fun i m σ H => i + m = ds.length ∧ ∃ env' F', Rel c H0 F0 env' F' σ H ∧ Same F1 F' ∧ pForL pg pb (ds.drop i) P env', ⟨ds.length, by omega, env, F1, J1, same_refl F1, by simpa using h1⟩, ?_⟩
  rintro i m σ2 H2 ⟨hm, env2, F2, J2, k2, h2⟩
  cases m with
  | zero =>
    have hi : i = ds.length := by omega
    subst hi
    rw [List.drop_length] at h2
    exact .inl ⟨wk.stop _ _ _ _ _ _ J2 k2, L.nx env2 F2 σ2 H2 J2 (same_trans k1 k2) h2⟩
  | succ m =>
    have hi : i < ds.length := by omega
    have ed : ds.drop i = ds[i] :: ds.drop (i + 1) := List.drop_eq_getElem_cons hi
    rw [ed] at h2
    obtain ⟨go, yl⟩ := wk.go _ _ _ _ _ _ i ds[i] J2 k2 (List.getElem?_eq_getElem hi)
    refine .inr ⟨go, fun σ' H' => ∃ env' F', Rel c H0 F0 env' F' σ' H' ∧ Same F1 F' ∧ pForL pg pb (ds.drop (i + 1)) P env', fun σ' H' ⟨e', G', a, b, d⟩ => ⟨m, by omega, by omega, e', G', a, b, d⟩, fun x H3 hy => ?_⟩
    obtain ⟨F3, J3, k3, r3⟩ := yl x H3 hy
    refine rg _ _ _ _ _ _ _ (.d ds[i]) _ _ J3 r3 h2 fun env4 σ4 J4 _ _ h4 => ?_
    refine rb _ _ _ _ _ _ _ { P with nx := pForL pg pb (ds.drop (i + 1)) P, ct := pForL pg pb (ds.drop (i + 1)) P, bk := P.nx } J4 ⟨?_, L.rt, ?_, ?_, L.ex⟩ h4
    · exact fun e G s h J' k' q => ⟨e, G, J', same_trans k2 (same_trans k3 k'), q⟩
    · exact fun e G s h J' k' q => L.nx e G s h J' (same_trans k1 (same_trans k2 (same_trans k3 k'))) q
    · exact fun e G s h J' k' q => ⟨e, G, J', same_trans k2 (same_trans k3 k'), q⟩
def psWhile (t : PTT) (body : PTS) : PTS := fun P env => ∃ I : Nat → Ev → Prop, (∃ m, I m env) ∧ ∀ m env, I m env → t env (fun b => (b = true → body { P with nx := fun e => ∃ m', m' < m ∧ I m' e, ct := fun e => ∃ m', m' < m ∧ I m' e, bk := P.nx } env) ∧ (b = false → P.nx env)) P.ex
theorem pus_while {t : Expr} {body : List Stmt} {pos : Pos} {pt : PTT} {pb : PTS} (hp : PassesOwn (model X.prog X.w) X.A X.env X.xe) (hc : PuT X c W t pt) (hb : PuSs X c W body pb) : PuS X c W (.While t body [] pos) (psWhile pt pb) := by
  obtain ⟨tc, hc, rc⟩ := hc
  obtain ⟨tb, hb, rb⟩ := hb
  refine ⟨_, ps_while hp hc hb, fun H0 F0 env F σ H D P J L h => ?_⟩
  obtain ⟨I, ⟨m0, i0⟩, step⟩ := h
  refine ⟨fun m σ H => ∃ env' F', Rel c H0 F0 env' F' σ H ∧ Same F F' ∧ I m env', ⟨m0, env, F, J, same_refl F, i0⟩, ?_⟩
  rintro m σ2 H2 ⟨env2, F2, J2, k2, i2⟩
  refine rc _ _ _ _ _ _ _ _ _ J2 L.ex (step m env2 i2) fun b F3 H3 J3 k3 h3 => ?_
  cases b with
  | true =>
    refine ⟨fun σ' H' => ∃ env' F', Rel c H0 F0 env' F' σ' H' ∧ Same F F' ∧ ∃ m', m' < m ∧ I m' env', fun σ' H' ⟨e', G', a, b, m', lt, i'⟩ => ⟨m', lt, e', G', a, b, i'⟩, ?_⟩
    refine rb _ _ _ _ _ _ _ { P with nx := fun e => ∃ m', m' < m ∧ I m' e, ct := fun e => ∃ m', m' < m ∧ I m' e, bk := P.nx } J3 ⟨?_, L.rt, ?_, ?_, L.ex⟩ (h3.1 rfl)
    · exact fun e G s h J' k' q => ⟨e, G, J', same_trans k2 (same_trans k3 k'), q⟩
    · exact fun e G s h J' k' q => L.nx e G s h J' (same_trans k2 (same_trans k3 k')) q
    · exact fun e G s h J' k' q => ⟨e, G, J', same_trans k2 (same_trans k3 k'), q⟩
  | false => exact L.nx env2 F3 σ2 H3 J3 (same_trans k2 k3) (h3.2 rfl)
end
end Px
namespace Px
open PySem PySem.Spec PyProof.Rows L2 Lx
/-! ### iterators -/
section
variable {X : Cx} {c : Cc} {W : WX}
def rangeD (lo : Int) (n : Nat) : List PyData := (List.range n).map fun i => .int (lo + (i : Nat))
theorem rangeD_len (lo : Int) (n : Nat) : (rangeD lo n).length = n := by simp [rangeD]
theorem rangeD_at {lo : Int} {n i : Nat} {d : PyData} (h : (rangeD lo n)[i]? = some d) : i < n ∧ d = .int (lo + (i : Nat)) := by
  have hi : i < n := by
    have := (List.getElem?_eq_some_iff.mp h).1
    rwa [rangeD_len] at this
  refine ⟨hi, ?_⟩
  unfold rangeD at h
  rw [List.getElem?_map, List.getElem?_range hi] at h
  exact (Option.some.inj h).symm
theorem walk_range {F : Hp} {lo : Int} {n : Nat} : Walk c (Itr lo n) F (rangeD lo n) where
  stop := fun H0 F0 env F' σ H J k => by
    show n ≤ (rangeD lo n).length
    rw [rangeD_len]
    exact Nat.le_refl _
  go := fun H0 F0 env F' σ H i d J k h => by
    obtain ⟨h1, h2⟩ := rangeD_at h
    refine ⟨h1, fun x H3 y => ?_⟩
    obtain ⟨y1, y2⟩ := y
    subst y1 y2 h2
    exact ⟨F', J, same_refl _, Rq.int _⟩
def iR1 (a : PTA) : PTI := fun env R E => a env (fun ss => match ss with
  | [.d (.int j)] => -(2 ^ 62) ≤ j ∧ j < 2 ^ 62 ∧ R (rangeD 0 j.toNat)
  | _ => False) E
def iR2 (a : PTA) : PTI := fun env R E => a env (fun ss => match ss with
  | [.d (.int i), .d (.int j)] => (-(2 ^ 62) ≤ i ∧ i < 2 ^ 62 ∧ -(2 ^ 62) ≤ j ∧ j < 2 ^ 62) ∧ R (rangeD i (j - i).toNat)
  | _ => False) E
theorem pui_range1 {tg a : Expr} {p pos : Pos} {pa : PTA} (hm : X.mg "range" = none) (ha : PuA X c W [a] pa) (hg : Gl X "range" := by rfl) (hs : starEach [a] X.env = [(false, eval a X.env)] := by rfl) : PuI X c W tg (.Call (.Name "range" p) [a] [] pos) (iR1 pa) := by
  obtain ⟨ta, ha, ra⟩ := ha
  refine ⟨_, pi_range1 hg hm ha hs, fun H0 F0 env F σ H R E Q J L hp fin => ra _ _ _ _ _ _ _ _ _ J L hp fun vs ss F1 H1 J1 k1 r1 h1 => ?_⟩
  split at h1
  · obtain ⟨v, rfl, rv⟩ := rs1 r1
    cases rv
    exact ⟨_, rfl, h1.1, h1.2.1, fin _ F1 H1 _ J1 k1 walk_range h1.2.2⟩
  · exact h1.elim
theorem pui_range2 {tg a b : Expr} {p pos : Pos} {pa : PTA} (hm : X.mg "range" = none) (ha : PuA X c W [a, b] pa) (hg : Gl X "range" := by rfl) (hs : starEach [a, b] X.env = [(false, eval a X.env), (false, eval b X.env)] := by rfl) (hs2 : starEach [b] X.env = [(false, eval b X.env)] := by rfl) :
    PuI X c W tg (.Call (.Name "range" p) [a, b] [] pos) (iR2 pa) := by
  obtain ⟨ta, ha, ra⟩ := ha
  refine ⟨_, pi_range2 hg hm ha hs hs2, fun H0 F0 env F σ H R E Q J L hp fin => ra _ _ _ _ _ _ _ _ _ J L hp fun vs ss F1 H1 J1 k1 r1 h1 => ?_⟩
  split at h1
  · obtain ⟨v, w, rfl, rv, rw⟩ := rs2 r1
    cases rv
    cases rw
    exact ⟨_, _, rfl, h1.1, fin _ F1 H1 _ J1 k1 walk_range h1.2⟩
  · exact h1.elim
/-- a list or a tuple -/
def iSeq (K : PySem.W.Frag) (tl : TE) : TI := fun σ H R => tl σ H fun x H1 => ∃ a, x = .ref a ∧ (((∃ xs, SqL K H1 a xs) ∧ R (Itl K a) H1) ∨ ((∃ xs, SqT K H1 a xs) ∧ R (Itt K a) H1))
theorem pi_seq {tg l : Expr} {tl : TE} (hl : PE X l tl) : PI X tg l (iSeq X.K tl) := by
  refine ⟨fun pins s σ H R I h => ?_⟩
  refine thn (hl.run pins s σ H _ I h) fun v s1 ⟨x, H1, I1, r1, q1⟩ => ?_
  obtain ⟨a, e, q1⟩ := q1
  subst e
  cases r1
  rcases q1 with ⟨⟨xs, hq⟩, q⟩ | ⟨⟨xs, hq⟩, q⟩
  · obtain ⟨its, rv, p, hz⟩ := I1.list hq
    refine wpAny_pyIter_list p.isList ?_
    refine ⟨s1.heap.objs.size, [s1.heap.objs.size], _, _, H1, rfl, I1.kept (t' := s1.toks) fun b o e => Heap.get?_push_of_some _ e, turn_list a _, ⟨_, Heap.get?_push_size _ rfl, rfl, rfl⟩, fun b hb => ?_, q⟩
    have e : b = s1.heap.objs.size := by simpa using hb
    subst e
    exact I1.fpOk (Nat.le_refl _) (I1.hok.fresh (Nat.le_refl _))
  · obtain ⟨its, rv, p, hz⟩ := I1.tuple hq
    refine wpAny_pyIter_tuple (show s1.heap.IsTuple a its.toArray from p) ?_
    refine ⟨s1.heap.objs.size, [s1.heap.objs.size], _, _, H1, rfl, I1.kept (t' := s1.toks) fun b o e => Heap.get?_push_of_some _ e, turn_tuple a _, ⟨_, Heap.get?_push_size _ rfl, rfl, rfl⟩, fun b hb => ?_, q⟩
    have e : b = s1.heap.objs.size := by simpa using hb
    subst e
    exact I1.fpOk (Nat.le_refl _) (I1.hok.fresh (Nat.le_refl _))
theorem walk_l {K : PySem.W.Frag} {F : Hp} {a : Addr} {xs : List V} {ds : List PyData} (e : F a = some (.lst xs)) (r : RqAll F xs ds) : Walk c (Itl K a) F ds where
  stop := fun H0 F0 env F' σ H J k => ⟨xs, sqL (J.b.sub _ _ (k _ _ e)), by rw [r.len]; exact Nat.le_refl _⟩
  go := fun H0 F0 env F' σ H i d J k h => by
    obtain ⟨v, e1, rv⟩ := r.get h
    have q : SqL K H a xs := sqL (J.b.sub _ _ (k _ _ e))
    refine ⟨⟨xs, v, q, e1⟩, fun x H3 y => ?_⟩
    obtain ⟨y1, y2⟩ := y
    subst y1
    have := y2 xs q
    rw [e1] at this
    cases this
    exact ⟨F', J, same_refl _, rv.same k⟩
theorem walk_t {K : PySem.W.Frag} {F : Hp} {a : Addr} {xs : List V} {ds : List PyData} (e : F a = some (.tup xs)) (r : RqAll F xs ds) : Walk c (Itt K a) F ds where
  stop := fun H0 F0 env F' σ H J k => ⟨xs, sqT (J.b.sub _ _ (k _ _ e)), by rw [r.len]; exact Nat.le_refl _⟩
  go := fun H0 F0 env F' σ H i d J k h => by
    obtain ⟨v, e1, rv⟩ := r.get h
    have q : SqT K H a xs := sqT (J.b.sub _ _ (k _ _ e))
    refine ⟨⟨xs, v, q, e1⟩, fun x H3 y => ?_⟩
    obtain ⟨y1, y2⟩ := y
    subst y1
    have := y2 xs q
    rw [e1] at this
    cases this
    exact ⟨F', J, same_refl _, rv.same k⟩
def iS (a : PTE) : PTI := fun env R E => a env (fun s => match s with
  | .d (.list ds) => R ds
  | .d (.tuple ds) => R ds
  | _ => False) E
theorem pui_seq {tg l : Expr} {pa : PTE} (ha : PuE X c W l pa) : PuI X c W tg l (iS pa) := by
  obtain ⟨ta, ha, ra⟩ := ha
  refine ⟨_, pi_seq ha, fun H0 F0 env F σ H R E Q J L hp fin => ra _ _ _ _ _ _ _ _ _ J L hp fun v s F1 H1 J1 k1 r1 h1 => ?_⟩
  split at h1
  · cases r1 with
    | lst e rr => exact ⟨_, rfl, .inl ⟨⟨_, sqL (J1.b.sub _ _ e)⟩, fin _ F1 H1 _ J1 k1 (walk_l e rr) h1⟩⟩
  · cases r1 with
    | tup e rr => exact ⟨_, rfl, .inr ⟨⟨_, sqT (J1.b.sub _ _ e)⟩, fin _ F1 H1 _ J1 k1 (walk_t e rr) h1⟩⟩
  · exact h1.elim
def zipD (xs ys : List PyData) : List PyData := List.zipWith (fun x y => .tuple [x, y]) xs ys
theorem zipD_at {xs ys : List PyData} {i : Nat} {d : PyData} (h : (zipD xs ys)[i]? = some d) : ∃ x y, xs[i]? = some x ∧ ys[i]? = some y ∧ d = .tuple [x, y] := by
  unfold zipD at h
  rw [List.getElem?_zipWith] at h
  cases e1 : xs[i]? with
  | none => rw [e1] at h; cases h
  | some x =>
    cases e2 : ys[i]? with
    | none => rw [e1, e2] at h; cases h
    | some y =>
      rw [e1, e2] at h
      exact ⟨x, y, rfl, rfl, (Option.some.inj h).symm⟩
theorem zipD_end {xs ys : List PyData} : xs.length ≤ (zipD xs ys).length ∨ ys.length ≤ (zipD xs ys).length := by
  unfold zipD
  rw [List.length_zipWith]
  omega
theorem walk_zl {K : PySem.W.Frag} {F : Hp} {a b : Addr} {xs ys : List V} {ds es : List PyData} (ea : F a = some (.lst xs)) (ra : RqAll F xs ds) (eb : F b = some (.lst ys)) (rb : RqAll F ys es) : Walk c (Itz K a b) F (zipD ds es) where
  stop := fun H0 F0 env F' σ H J k => ⟨xs, ys, sqL (J.b.sub _ _ (k _ _ ea)), sqL (J.b.sub _ _ (k _ _ eb)), by rw [ra.len, rb.len]; exact zipD_end⟩
  go := fun H0 F0 env F' σ H i d J k h => by
    obtain ⟨x, y, h1, h2, rfl⟩ := zipD_at h
    obtain ⟨v, e1, rv⟩ := ra.get h1
    obtain ⟨w, e2, rw⟩ := rb.get h2
    have qa : SqL K H a xs := sqL (J.b.sub _ _ (k _ _ ea))
    have qb : SqL K H b ys := sqL (J.b.sub _ _ (k _ _ eb))
    refine ⟨⟨xs, ys, v, w, qa, qb, e1, e2⟩, fun z H3 hy => ?_⟩
    obtain ⟨T, v', w', rfl, hT, rfl, f1, f2⟩ := hy
    have g1 := f1 xs qa
    have g2 := f2 ys qb
    rw [e1] at g1
    rw [e2] at g2
    cases g1
    cases g2
    have k2 : Same F' (upd F' T (.tup [v, w])) := same_upd (J.b.fnone hT)
    exact ⟨_, J.alloc hT _, k2, Rq.tup upd_same (.cons ((rv.same k).same k2) (.cons ((rw.same k).same k2) .nil))⟩
theorem walk_zt {K : PySem.W.Frag} {F : Hp} {a b : Addr} {xs ys : List V} {ds es : List PyData} (ea : F a = some (.tup xs)) (ra : RqAll F xs ds) (eb : F b = some (.tup ys)) (rb : RqAll F ys es) : Walk c (RZ.ItzT K a b) F (zipD ds es) where
  stop := fun H0 F0 env F' σ H J k => ⟨xs, ys, sqT (J.b.sub _ _ (k _ _ ea)), sqT (J.b.sub _ _ (k _ _ eb)), by rw [ra.len, rb.len]; exact zipD_end⟩
  go := fun H0 F0 env F' σ H i d J k h => by
    obtain ⟨x, y, h1, h2, rfl⟩ := zipD_at h
    obtain ⟨v, e1, rv⟩ := ra.get h1
    obtain ⟨w, e2, rw⟩ := rb.get h2
    have qa : SqT K H a xs := sqT (J.b.sub _ _ (k _ _ ea))
    have qb : SqT K H b ys := sqT (J.b.sub _ _ (k _ _ eb))
    refine ⟨⟨xs, ys, v, w, qa, qb, e1, e2⟩, fun z H3 hy => ?_⟩
    obtain ⟨T, v', w', rfl, hT, rfl, f1, f2⟩ := hy
    have g1 := f1 xs qa
    have g2 := f2 ys qb
    rw [e1] at g1
    rw [e2] at g2
    cases g1
    cases g2
    have k2 : Same F' (upd F' T (.tup [v, w])) := same_upd (J.b.fnone hT)
    exact ⟨_, J.alloc hT _, k2, Rq.tup upd_same (.cons ((rv.same k).same k2) (.cons ((rw.same k).same k2) .nil))⟩
def iZip (a : PTA) : PTI := fun env R E => a env (fun ss => match ss with
  | [.d (.list ds), .d (.list es)] => R (zipD ds es)
  | [.d (.tuple ds), .d (.tuple es)] => R (zipD ds es)
  | _ => False) E
theorem pui_zip {e e2 : Expr} {pa : PTA} {p pos tpos : Pos} {elts : List Expr} {kk : Nat} (hm : X.mg "zip" = none) (ha : PuA X c W [e, e2] pa) (hg : Gl X "zip" := by rfl)
    (hs : starEach [e, e2] X.env = (false, eval e X.env) :: starEach [e2] X.env := by rfl) (hpl : (backTo pos (starEach [e2] X.env)).any (·.1) = false := by rfl) :
    PuI X c W (.Tuple elts kk tpos) (.Call (.Name "zip" p) [e, e2] [] pos) (iZip pa) := by
  obtain ⟨ta, ha, ra⟩ := ha
  refine ⟨_, RZ.pi_zipA hg hm ha hs hpl, fun H0 F0 env F σ H R E Q J L hp fin => ra _ _ _ _ _ _ _ _ _ J L hp fun vs ss F1 H1 J1 k1 r1 h1 => ?_⟩
  split at h1
  · obtain ⟨v, w, rfl, rv, rw⟩ := rs2 r1
    cases rv with
    | lst ea ra =>
      cases rw with
      | lst eb rb => exact ⟨_, _, _, _, rfl, .inl ⟨sqL (J1.b.sub _ _ ea), sqL (J1.b.sub _ _ eb), fin _ F1 H1 _ J1 k1 (walk_zl ea ra eb rb) h1⟩⟩
  · obtain ⟨v, w, rfl, rv, rw⟩ := rs2 r1
    cases rv with
    | tup ea ra =>
      cases rw with
      | tup eb rb => exact ⟨_, _, _, _, rfl, .inr ⟨sqT (J1.b.sub _ _ ea), sqT (J1.b.sub _ _ eb), fin _ F1 H1 _ J1 k1 (walk_zt ea ra eb rb) h1⟩⟩
  · exact h1.elim

/-! ### slices of tuples -/
def sIxD (n d : Nat) (o : Option Int) : Nat := HT.sIx n d o
def cutD (ds : List PyData) (lo hi : Option Int) : List PyData := (ds.drop (HT.sIx ds.length 0 lo)).take (HT.sIx ds.length ds.length hi - HT.sIx ds.length 0 lo)
theorem cut_rel {F : Hp} {xs : List V} {ds : List PyData} (r : RqAll F xs ds) (lo hi : Option Int) : RqAll F (cutV xs lo hi) (cutD ds lo hi) := by
  unfold cutV cutD
  rw [r.len]
  exact (r.drop _).take _
theorem cut_whole {ds : List PyData} {lo hi : Option Int} (h : HT.sIx ds.length 0 lo = 0 ∧ HT.sIx ds.length ds.length hi = ds.length) : cutD ds lo hi = ds := by
  unfold cutD
  rw [h.1, h.2]
  simp
abbrev PTO := Ev → (Option Int → Prop) → XP → Prop
def RdO (c : Cc) (W : WX) (t : TO) (po : PTO) : Prop := ∀ (H0 F0 : Hp) (env : Ev) (F : Hp) (σ : St) (H : Hp) (R : Option Int → Prop) (E : XP) (Q : Option Int → Hp → Prop), Rel c H0 F0 env F σ H → LinkX c H0 F0 W E → po env R E → (∀ (o : Option Int) (F' H' : Hp), Rel c H0 F0 env F' σ H' → Same F F' → R o → Q o H') → t σ H Q
def PuO (X : Cx) (c : Cc) (W : WX) (e : Option Expr) (po : PTO) : Prop := ∃ t, PO X e t ∧ RdO c W t po
def pNo : PTO := fun _ R _ => R none
def pSome (a : PTE) : PTO := fun env R E => a env (fun s => match s with
  | .d (.int i) => R (some i)
  | _ => False) E
theorem puo_none : PuO X c W none pNo := ⟨_, po_none, fun H0 F0 env F σ H R E Q J L hp fin => fin none F H J (same_refl F) hp⟩
theorem puo_some {e : Expr} {pa : PTE} (ha : PuE X c W e pa) : PuO X c W (some e) (pSome pa) := by
  obtain ⟨ta, ha, ra⟩ := ha
  refine ⟨_, po_some ha, fun H0 F0 env F σ H R E Q J L hp fin => ra _ _ _ _ _ _ _ _ _ J L hp fun v s F1 H1 J1 k1 r1 h1 => ?_⟩
  split at h1
  · cases r1
    exact ⟨_, rfl, fin _ F1 H1 J1 k1 h1⟩
  · exact h1.elim
def pSl (a : PTE) (lo hi : PTO) : PTE := fun env R E => a env (fun s => lo env (fun l => hi env (fun h => match s with
  | .d (.tuple ds) => R (.d (.tuple (cutD ds l h)))
  | _ => False) E) E) E
theorem pu_slice {e : Expr} {lo hi : Option Expr} {pos p2 : Pos} {pa : PTE} {pl ph : PTO} (ha : PuE X c W e pa) (hl : PuO X c W lo pl) (hh : PuO X c W hi ph) : PuE X c W (.Subscript e (.Slice lo hi none p2) pos) (pSl pa pl ph) := by
  obtain ⟨ta, ha, ra⟩ := ha
  obtain ⟨tl, hl, rl⟩ := hl
  obtain ⟨th, hh, rh⟩ := hh
  refine ⟨_, pe_slice sl_tupA ha hl hh, fun H0 F0 env F σ H R E Q J L hp fin => ra _ _ _ _ _ _ _ _ _ J L hp fun v s F1 H1 J1 k1 r1 h1 => ?_⟩
  refine rl _ _ _ _ _ _ _ _ _ J1 L h1 fun l F2 H2 J2 k2 h2 => ?_
  refine rh _ _ _ _ _ _ _ _ _ J2 L h2 fun h F3 H3 J3 k3 h3 => ?_
  have k13 := same_trans k1 (same_trans k2 k3)
  split at h3
  · have r3 := RelS.same (same_trans k2 k3) r1
    cases r3 with
    | @tup a xs ds ea rr =>
      refine ⟨a, xs, rfl, sqT (J3.b.sub _ _ ea), fun hw => ?_, fun hw p hn => ?_⟩
      · rw [rr.len] at hw
        refine fin _ (.d _) F3 H3 J3 k13 (Rq.tup ea rr) ?_
        rw [cut_whole hw] at h3
        exact h3
      · have k4 : Same F3 (upd F3 p (.tup (cutV xs l h))) := same_upd (J3.b.fnone hn)
        exact fin (.ref p) (.d _) _ _ (J3.alloc hn _) (same_trans k13 k4) (Rq.tup upd_same ((cut_rel rr l h).same k4)) h3
  · exact h3.elim
end
end Px
namespace Px
open PySem PySem.Spec PyProof.Rows L2 Lx
/-! ### comprehensions -/
/-- one reading for a whole family of contexts -/
theorem unifE {ι : Type} {X : ι → Cx} {c : Cc} {W : WX} {e : Expr} {pt : PTE} (h : ∀ i, PuE (X i) c W e pt) : ∃ t, (∀ i, PE (X i) e t) ∧ Rd c W t pt :=
  ⟨fun σ H Q => ∀ i, (h i).choose σ H Q, fun i => ⟨fun pins s σ H Q I q => (h i).choose_spec.1.run pins s σ H Q I (q i)⟩, fun H0 F0 env F σ H R E Q J L hp fin i => (h i).choose_spec.2 H0 F0 env F σ H R E Q J L hp fin⟩
theorem unifT {ι : Type} {X : ι → Cx} {c : Cc} {W : WX} {e : Expr} {pt : PTT} (h : ∀ i, PuT (X i) c W e pt) : ∃ t, (∀ i, PT (X i) e t) ∧ RdT c W t pt :=
  ⟨fun σ H Q => ∀ i, (h i).choose σ H Q, fun i => ⟨fun pins s σ H Q I q => (h i).choose_spec.1.run pins s σ H Q I (q i)⟩, fun H0 F0 env F σ H R E Q J L hp fin i => (h i).choose_spec.2 H0 F0 env F σ H R E Q J L hp fin⟩
theorem unifG {ι : Type} {X : ι → Cx} {c : Cc} {e : Expr} {pg : PTG} {is : List Nat} (h : ∀ i, PuG (X i) c e pg is) : ∃ g, (∀ i, PG (X i) e g) ∧ RdG c g pg is :=
  ⟨fun v σ H Q => ∀ i, (h i).choose v σ H Q, fun i => ⟨fun pins s σ H v u Q I r q => (h i).choose_spec.1.run pins s σ H v u Q I r (q i)⟩, fun H0 F0 env F σ H v s N Q J r hp k i => (h i).choose_spec.2 H0 F0 env F σ H v s N Q J r hp k⟩
def wipeE (env : Ev) : List Nat → Ev
  | [] => env
  | v :: vs => (wipeE env vs).set v none
def noOwn1 : Option Sl → Option Sl
  | some (.own _) => none
  | some (.slf _ _ _) => none
  | s => s
def noOwn (env : Ev) : Ev := env.map noOwn1
def WNo : WX := fun _ _ _ _ => False
def ENo : XP := fun _ _ _ => False
theorem link_no {c : Cc} {H0 F0 : Hp} {W : WX} : LinkX c H0 F0 W ENo := fun _ _ _ _ _ _ _ _ _ h => h.elim
section
variable {c : Cc} {H0 F0 F H : Hp} {env : Ev} {σ : St} {q : Addr}
/-- the state as a step's entry: one's own lists out of sight -/
theorem Rel.inner (R : Rel c H0 F0 env F σ H) : Rel c H F (noOwn env) F σ H := by
  have no : ∀ (i : Nat) (xs : List PyData), (noOwn env)[i]? ≠ some (some (.own xs)) := fun i xs h => by
    unfold noOwn at h
    rw [List.getElem?_map] at h
    cases e : env[i]? with
    | none => rw [e] at h; cases h
    | some s =>
      rw [e] at h
      have h' : noOwn1 s = some (.own xs) := Option.some.inj h
      cases s with
      | none => cases h'
      | some s => cases s <;> simp [noOwn1] at h'
  refine ⟨R.b.here, by unfold noOwn; rw [List.length_map]; exact R.len, fun i ov s e1 e2 => ?_, fun i j q xs ys e1 _ _ _ => absurd e1 (no i xs)⟩
  cases s with
  | none => exact True.intro
  | some s =>
    unfold noOwn at e2
    rw [List.getElem?_map] at e2
    cases e : env[i]? with
    | none => rw [e] at e2; cases e2
    | some s' =>
      rw [e] at e2
      have h' : noOwn1 s' = some s := Option.some.inj e2
      cases s' with
      | none => cases h'
      | some s' =>
        have r := R.sl i ov _ e1 e
        cases s' with
        | own xs => cases h'
        | d x => cases h'; exact r
        | raw v => cases h'; exact r
        | exc p C ds => cases h'; exact r
        | obj C ds => cases h'; exact r
        | slf x C ds => cases h'
theorem Rel.wipe (R : Rel c H0 F0 env F σ H) : ∀ vs : List Nat, Rel c H0 F0 (wipeE env vs) F (L2.wipe σ vs) H
  | [] => R
  | v :: vs => (R.wipe vs).any v none
/-- an object of one's own that no slot shows -/
theorem Rel.wrAt (R : Rel c H0 F0 env F σ H) {ys zs : List V} (h : H q = some (.lst ys)) (hF : F q = none) (h0 : Nw H0 q) (hD : ∀ (i : Nat) (xs : List PyData), env[i]? = some (some (.own xs)) → σ[i]? ≠ some (some (.ref q))) : Rel c H0 F0 env F σ (upd H q (.lst zs)) := by
  refine ⟨R.b.wr h hF h0, R.len, fun i ov s e1 e2 => ?_, R.sep⟩
  have r := R.sl i ov s e1 e2
  cases s with
  | none => exact True.intro
  | some s =>
    cases s with
    | d x => exact r
    | raw v => exact r
    | exc p C ds => exact r
    | obj C ds => exact r
    | slf x C ds =>
      obtain ⟨dx, fs, e, a1, a2, a3, a4⟩ := r
      have ne : x ≠ q := fun z => by rw [z, h] at a3; cases a3
      exact ⟨dx, fs, e, a1, a2, by rw [upd_ne ne]; exact a3, a4⟩
    | own xs =>
      obtain ⟨p, us, e, a1, a2, a3, a4⟩ := r
      have ne : p ≠ q := fun z => hD i xs e2 (by rw [e1, e, z])
      exact ⟨p, us, e, a1, a2, by rw [upd_ne ne]; exact a3, a4⟩
theorem Rel.freezeAt (R : Rel c H0 F0 env F σ H) {ys : List V} (h : H q = some (.lst ys)) (hF : F q = none) (h0 : Nw H0 q) (hD : ∀ (i : Nat) (xs : List PyData), env[i]? = some (some (.own xs)) → σ[i]? ≠ some (some (.ref q))) : Rel c H0 F0 env (upd F q (.lst ys)) σ H := by
  have k : Same F (upd F q (.lst ys)) := same_upd hF
  refine ⟨R.b.freeze h hF h0, R.len, fun i ov s e1 e2 => ?_, R.sep⟩
  have r := R.sl i ov s e1 e2
  cases s with
  | none => exact True.intro
  | some s =>
    cases s with
    | d x => obtain ⟨v, e, rv⟩ := r; exact ⟨v, e, rv.same k⟩
    | raw v => exact r
    | exc p C ds => exact ⟨r.1, r.2.same k⟩
    | obj C ds => exact ⟨r.choose, r.choose_spec.1, r.choose_spec.2.same k⟩
    | slf x C ds =>
      obtain ⟨dx, fs, e, a1, a2, a3, a4, a5⟩ := r
      have ne : x ≠ q := fun z => by rw [z, h] at a3; cases a3
      exact ⟨dx, fs, e, by rw [upd_ne ne]; exact a1, a2, a3, a4, a5.same k⟩
    | own xs =>
      obtain ⟨p, us, e, a1, a2, a3, a4⟩ := r
      have ne : p ≠ q := fun z => hD i xs e2 (by rw [e1, e, z])
      exact ⟨p, us, e, by rw [upd_ne ne]; exact a1, a2, a3, a4.same k⟩
theorem own_ne (R : Rel c H0 F0 env F σ H) (h : H q = none) : ∀ (i : Nat) (xs : List PyData), env[i]? = some (some (.own xs)) → σ[i]? ≠ some (some (.ref q)) := fun i xs e1 e2 => by
  obtain ⟨p, us, e, a1, a2, a3, a4⟩ := R.sl i _ _ e2 e1
  cases e
  rw [h] at a3
  cases a3
end
def pLcL (g : PTG) (tt : PTT) (pe : PTE) (envI : Ev) : List PyData → List PyData → (List PyData → Prop) → Prop
  | [], acc, K => K acc
  | d :: l, acc, K => g (.d d) envI fun env1 => tt env1 (fun b => (b = true → pe env1 (fun s => match s with
      | .d x => acc.length ≤ 1000000 ∧ pLcL g tt pe envI l (acc ++ [x]) K
      | _ => False) ENo) ∧ (b = false → pLcL g tt pe envI l acc K)) ENo
def pYes : PTT := fun _ R _ => R true
def pLc (it : PTI) (g : PTG) (tt : PTT) (pe : PTE) (vs : List Nat) : PTE := fun env R E => it env (fun ds => pLcL g tt pe (wipeE (noOwn env) vs) ds [] fun es => R (.d (.list es))) E
theorem wipe_eq {σ σ' : St} : ∀ {vs : List Nat}, σ'.length = σ.length → (∀ j, j ∉ vs → σ'[j]? = (L2.wipe σ vs)[j]?) → L2.wipe σ' vs = L2.wipe σ vs := by
  intro vs hl h
  apply List.ext_getElem?
  intro j
  by_cases hj : j ∈ vs
  · have z : ∀ (τ : St) (ws : List Nat), j ∈ ws → (L2.wipe τ ws)[j]? = if j < τ.length then some none else none := by
      intro τ ws
      induction ws with
      | nil => intro h; cases h
      | cons w ws ih =>
        intro hm
        unfold L2.wipe
        by_cases hw : w = j
        · subst hw
          by_cases hl : w < τ.length
          · rw [List.getElem?_set_self (by rw [L2.wipe_length]; exact hl), if_pos hl]
          · rw [if_neg hl, List.getElem?_eq_none]
            rw [List.length_set, L2.wipe_length]
            omega
        · rw [List.getElem?_set_ne hw]
          exact ih ((List.mem_cons.mp hm).resolve_left fun z => hw z.symm)
    rw [z σ' vs hj, z σ vs hj, hl]
  · rw [wipe_out hj, h j hj]
section
variable {X : Cx} {c : Cc} {W : WX}
theorem rd_lc {wi : TI} {pi : PTI} {g : TG} {pg : PTG} {is : List Nat} {tt : TT} {pt : PTT} {te : TE} {pe : PTE} {vs : List Nat} (ri : RdI c W wi pi) (rg : RdG c g pg is) (hsub : ∀ i ∈ is, i ∈ vs) (rt : RdT c WNo tt pt) (re : Rd c WNo te pe) : Rd c W (tLc wi g tt te vs) (pLc pi pg pt pe vs) := by
  intro H0 F0 env F σ H R E Q J L hp fin
  refine ri _ _ _ _ _ _ _ _ _ J L hp fun I F1 H1 ds J1 k1 wk h1 => ?_
  intro D hD
  have hown := own_ne J1 hD
  have J2 := J1.new hD (.lst [])
  have h0 : Nw H0 D := J1.b.h0 hD
  have fD : F1 D = none := J1.b.fnone hD
  refine ⟨fun i m H => i + m = ds.length ∧ ∃ (F' : Hp) (acc : List V) (ad : List PyData), Rel c H0 F0 env F' σ H ∧ Same F1 F' ∧ F' D = none ∧ H D = some (.lst acc) ∧ RqAll F' acc ad ∧ pLcL pg pt pe (wipeE (noOwn env) vs) (ds.drop i) ad fun es => R (.d (.list es)),
    ⟨ds.length, by omega, F1, [], [], J2, same_refl F1, fD, upd_same, .nil, by simpa using h1⟩, ?_⟩
  rintro i m H2 ⟨hm, F2, acc, ad, J3, k2, fD2, hD2, ra, h2⟩
  cases m with
  | zero =>
    have hi : i = ds.length := by omega
    subst hi
    rw [List.drop_length] at h2
    refine .inl ⟨wk.stop _ _ _ _ _ _ J3 k2, ?_⟩
    have k3 : Same F2 (upd F2 D (.lst acc)) := same_upd fD2
    exact fin (.ref D) (.d (.list ad)) _ H2 (J3.freezeAt hD2 fD2 h0 hown) (same_trans k1 (same_trans k2 k3)) (Rq.lst upd_same (ra.same k3)) h2
  | succ m =>
    have hi : i < ds.length := by omega
    have ed : ds.drop i = ds[i] :: ds.drop (i + 1) := List.drop_eq_getElem_cons hi
    rw [ed] at h2
    obtain ⟨go, yl⟩ := wk.go _ _ _ _ _ _ i ds[i] J3 k2 (List.getElem?_eq_getElem hi)
    refine .inr ⟨go, fun H' => ∃ (F' : Hp) (acc : List V) (ad : List PyData), Rel c H0 F0 env F' σ H' ∧ Same F1 F' ∧ F' D = none ∧ H' D = some (.lst acc) ∧ RqAll F' acc ad ∧ pLcL pg pt pe (wipeE (noOwn env) vs) (ds.drop (i + 1)) ad fun es => R (.d (.list es)),
      fun H' ⟨a1, a2, a3, a4⟩ => ⟨m, by omega, by omega, a1, a2, a3, a4⟩, fun x H3 hy => ?_⟩
    -- the item may be a new pair: seen from the heap ahead of it
    have JI := (J3.inner).wipe vs
    obtain ⟨F3, J4, k3, r3⟩ := (wk.go _ _ _ _ _ _ i ds[i] JI k2 (List.getElem?_eq_getElem hi)).2 x H3 hy
    refine rg _ _ _ _ _ _ _ (.d ds[i]) _ _ J4 r3 h2 fun env4 σ4 J5 l4 o4 h4 => ?_
    refine ⟨wipe_eq (by rw [l4, L2.wipe_length]) fun j hj => o4 j fun z => hj (hsub j z), ?_⟩
    refine rt _ _ _ _ _ _ _ _ _ J5 link_no h4 fun b F5 H5 J6 k5 h5 => ?_
    have nD : ∀ {G H' : Hp} {e : Ev} {τ : St}, Rel c H2 F2 e G τ H' → H' D = some (.lst acc) ∧ G D = none := fun {G H' e τ} J' => by
      refine ⟨J'.b.fr D _ (J3.b.noutL hD2) (fun ps z => by cases z) hD2, ?_⟩
      cases e' : G D with
      | none => rfl
      | some o =>
        rcases J'.b.fN D (by rw [e']; simp) with z | z
        · exact absurd fD2 z
        · obtain ⟨ps, z⟩ := z _ hD2; cases z
    cases b with
    | false =>
      show ∃ F', _
      have B := J6.b
      have k6 : Same F2 F5 := B.fF
      exact ⟨F5, acc, ad, J3.after B, same_trans k2 k6, (nD J6).2, (nD J6).1, ra.same k6, h5.2 rfl⟩
    | true =>
      show te σ4 H5 _
      refine re _ _ _ _ _ _ _ _ _ J6 link_no (h5.1 rfl) fun v s F7 H7 J7 k7 r7 h7 => ?_
      have B := J7.b
      have k6 : Same F2 F7 := B.fF
      split at h7
      · have J8 := (J3.after B).wrAt (zs := acc ++ [v]) (nD J7).1 (nD J7).2 h0 hown
        refine ⟨acc, (nD J7).1, ?_, F7, acc ++ [v], _, J8, same_trans k2 k6, (nD J7).2, upd_same, (ra.same k6).app (.cons r7 .nil), h7.2⟩
        rw [ra.len]
        exact Nat.lt_of_le_of_lt h7.1 (by decide)
      · exact h7.elim
structure CI where
  s : Shared
  H : Hp
  C : Addr
  cl : List (Str × Addr)
  fp : List Addr
def CI.blk (X : Cx) (scope : Scope) (i : CI) : Cx := X.blk i.s i.H scope (compEnvC scope i.cl i.C X.env) i.fp
theorem pu_lc {elt tg iter : Expr} {scope : Scope} {own : List (Str × Nat)} {pos : Pos} {pi : PTI} {pg : PTG} {is : List Nat} {pe : PTE} (hc : X.calm = true) (hN : X.N.Nodup) (hi : PuI X c W tg iter pi) (ok : BlkOk X.N X.env.scope scope own) (hg : ∀ i : CI, PuG (i.blk X scope) c tg pg is)
    (he : ∀ i : CI, PuE (i.blk X scope) c WNo elt pe) (hsub : ∀ i ∈ is, i ∈ own.map (·.2) := by decide) (hs : ∀ x, foldedSetIterable iter X.env x = pure x := by intro _; rfl) : PuE X c W (.ListComp elt [⟨tg, iter, [], 0⟩] scope pos) (pLc pi pg pYes pe (own.map (·.2))) := by
  obtain ⟨wi, hi, ri⟩ := hi
  obtain ⟨g, hg, rg⟩ := unifG hg
  obtain ⟨te, he, re⟩ := unifE he
  exact ⟨_, pe_lc hc hN hi ok (fun s H C cl fp => hg ⟨s, H, C, cl, fp⟩) (fun _ _ _ _ _ => pts_nil) (fun s H C cl fp => he ⟨s, H, C, cl, fp⟩) hs,
    rd_lc ri rg hsub (fun H0 F0 env F σ H R E Q J L hp fin => fin true F H J (same_refl F) hp) re⟩
theorem pu_lcI {elt tg iter cond : Expr} {scope : Scope} {own : List (Str × Nat)} {pos : Pos} {pi : PTI} {pg : PTG} {is : List Nat} {pt : PTT} {pe : PTE} (hc : X.calm = true) (hN : X.N.Nodup) (hi : PuI X c W tg iter pi) (ok : BlkOk X.N X.env.scope scope own) (hg : ∀ i : CI, PuG (i.blk X scope) c tg pg is)
    (ht : ∀ i : CI, PuT (i.blk X scope) c WNo cond pt) (he : ∀ i : CI, PuE (i.blk X scope) c WNo elt pe) (hsub : ∀ i ∈ is, i ∈ own.map (·.2) := by decide) (hs : ∀ x, foldedSetIterable iter X.env x = pure x := by intro _; rfl) : PuE X c W (.ListComp elt [⟨tg, iter, [cond], 0⟩] scope pos) (pLc pi pg pt pe (own.map (·.2))) := by
  obtain ⟨wi, hi, ri⟩ := hi
  obtain ⟨g, hg, rg⟩ := unifG hg
  obtain ⟨tt, ht, rt⟩ := unifT ht
  obtain ⟨te, he, re⟩ := unifE he
  exact ⟨_, pe_lc hc hN hi ok (fun s H C cl fp => hg ⟨s, H, C, cl, fp⟩) (fun s H C cl fp => pts_one (ht ⟨s, H, C, cl, fp⟩)) (fun s H C cl fp => he ⟨s, H, C, cl, fp⟩) hs, rd_lc ri rg hsub rt re⟩

/-! ### raising -/
theorem RqAll.reverse {F : Hp} : ∀ {vs : List V} {ds : List PyData}, RqAll F vs ds → RqAll F vs.reverse ds.reverse
  | _, _, .nil => .nil
  | _, _, .cons a b => by
    rw [List.reverse_cons, List.reverse_cons]
    exact b.reverse.app (.cons a .nil)
def psRaise (C : Addr) (fns : List Str) (a : PTA) : PTS := fun P env => a env (fun ss => ss.length = fns.length ∧ allD ss fun ds => P.ex env C (fns.zip ds).reverse) P.ex
theorem pus_raise {x : Str} {C : Addr} {fns : List Str} {e : Expr} {es : List Expr} {pa : PTA} {p pos pos2 : Pos} {k : Nat} (B : XcI X.K X.mg x C fns) (hr : Room k X.A) (tk : Takes X W) (ha : PuA X c W (e :: es) pa) (h3 : fns.length ≤ 3 := by decide) (hk : 2 ≤ k := by decide) (hc : X.calm = true := by rfl) (hg : Gl X x := by rfl) (hdb : (x == ("__debug__" : Str)) = false := by decide)
    (he : starEach (e :: es) X.env = (false, eval e X.env) :: starEach es X.env := by rfl) (hpl : (backTo pos (starEach es X.env)).any (·.1) = false := by rfl) :
    PuS X c W (.Raise (some (.Call (.Name x p) (e :: es) [] pos)) none pos2) (psRaise C fns pa) := by
  obtain ⟨ta, ha, ra⟩ := ha
  refine ⟨_, ps_rf B hr tk ha hk hc hg hdb he hpl, fun H0 F0 env F σ H D P J L h => ?_⟩
  refine rr_rf (ra _ _ _ _ _ _ _ _ _ J L.ex h fun vs ss F1 H1 J1 k1 r1 h1 => ?_)
  obtain ⟨hl, h2⟩ := h1
  obtain ⟨ds, rd, q⟩ := allD_d r1 h2
  have hvl : vs.length = fns.length := by rw [r1.len, hl]
  have hdl : ds.length = fns.length := by rw [← rd.len, hvl]
  refine leafI_of hvl h3 fun d hd => ?_
  have k2 : Same F1 (upd F1 d (.xd (fns.zip vs).reverse)) := same_upd (J1.b.fnone hd)
  refine L.ex env _ σ _ C (some d) (fns.zip ds).reverse (J1.alloc hd _) (.inr ⟨d, _, rfl, upd_same, ?_, ?_⟩) q
  · rw [List.map_reverse, List.map_reverse, List.map_fst_zip (by omega), List.map_fst_zip (by omega)]
  · rw [List.map_reverse, List.map_reverse, List.map_snd_zip (by omega), List.map_snd_zip (by omega)]
    exact (rd.same k2).reverse
end
end Px
namespace Px
open PySem PySem.Spec PyProof.Rows L2 Lx
def Kp (P : Program) (w : World) (K : PySem.W.Frag) (mg : Str → Option Value) (base : Heap) (c : Cc) (k : Nat) (x : Str) (ps : List Str) (sp : PSp) : Prop := Keeps P w K mg base (L2.CX P w) k x ps (lift c ps.length sp)
theorem hu64 {A : Around} {k : Nat} (hr : Room k A) : A.units + 64 < cLine := by have := hr.un; omega
theorem hu65 {A : Around} {k : Nat} (hr : Room k A) : A.units + 65 < cLine := by have := hr.un; omega
theorem takesF {P : Program} {w : World} {K : PySem.W.Frag} {mg : Str → Option Value} {base : Heap} {N : List Str} {x : Str} {sc : Scope} {f : Addr} {cdv : Value} {A : Around} {outer : List Env} {s : Shared} {H : Hp} {E : XK} :
    Takes (cxOf (L2.CX P w) P w K mg base N x sc f cdv A outer s H E) (WF E) := takes_of rfl rfl rfl rfl
theorem passF {P : Program} {w : World} {K : PySem.W.Frag} {mg : Str → Option Value} {base : Heap} {N : List Str} {x : Str} {sc : Scope} {f : Addr} {cdv : Value} {A : Around} {outer : List Env} {s : Shared} {H : Hp} {E : XK} :
    PassesOwn (model (cxOf (L2.CX P w) P w K mg base N x sc f cdv A outer s H E).prog (cxOf (L2.CX P w) P w K mg base N x sc f cdv A outer s H E).w) (cxOf (L2.CX P w) P w K mg base N x sc f cdv A outer s H E).A (cxOf (L2.CX P w) P w K mg base N x sc f cdv A outer s H E).env (cxOf (L2.CX P w) P w K mg base N x sc f cdv A outer s H E).xe := passes_of (K := fun e s'' => L2.CX P w outer H s E e s'') rfl
/-! ### defs that ask nothing of the guards (they may be called within a lambda) -/
structure KpO (P : Program) (w : World) (K : PySem.W.Frag) (mg : Str → Option Value) (base : Heap) (c : Cc) (k : Nat) (x : Str) (ps : List Str) (sp : PSp) : Prop where
  ex : ∃ f fd, FnOk P w K mg base (L2.CX P w) k f fd ps (lift c ps.length sp) ∧ mg x = some (.ref f) ∧ PySem.W.keepIn K (.ref f) = true ∧ Binds K fd ps []
section
variable {P : Program} {w : World} {K : PySem.W.Frag} {mg : Str → Option Value} {base : Heap} {x : Str} {st : Stmt} {N ps : List Str} {k : Nat} {sp : PSp} {c : Cc}
theorem KpO.g (D : KpO P w K mg base c k x ps sp) : Kp P w K mg base c k x ps sp := by
  obtain ⟨f, fd, F, r⟩ := D.ex
  exact ⟨f, fd, FnG.of F, r⟩
theorem keepO (F : Has K mg x st) (b : BindsBy x st ps) (S : FnScope N ps (defScope st))
    (hbody : ∀ (f : Addr) (cdv : Value) (A : Around) (outer : List Env) (s : Shared) (H : Hp) (E : XK), Room k (A.deeper (envOfC x (defScope st) s.heap.objs.size f cdv)) →
      ∃ pt, PuSs (cxOf (L2.CX P w) P w K mg base N x (defScope st) f cdv A outer s H E) c (WF E) (defBody st) pt ∧ ∀ ss R EX, ss.length = ps.length → sp ss R EX → pt (pdOf R EX) (startP N ss)) :
    KpO P w K mg base c (k + 1) x ps sp := by
  obtain ⟨f, fd, F, hm⟩ := F
  refine ⟨f, fd, F.okX S (fun vs H Q E h => ?_) (fun cdv A outer s H vs Q E hr h => ?_), hm, F.kp, F.binds b⟩
  · obtain ⟨F, ss, R, EX, _, rs, hl, _⟩ := h
    rw [rs.len, hl]
  · obtain ⟨G, ss, R, EX, B, rs, hl, hp, hq, he⟩ := h
    obtain ⟨pt, ⟨t, ht, hrd⟩, hpure⟩ := hbody f cdv A outer s H E hr
    refine ⟨t, ht, hrd H G (startP N ss) G (L2.start N vs) H _ (pdOf R EX) (rel_start B rs N) ⟨?_, ?_, ?_, ?_, ?_⟩ (hpure ss R EX hl hp)⟩
    · exact fun env' F' σ' H' J _ q => hq .non (.d .none) F' H' J.b Rq.non q
    · exact fun v s F' H' B' rv q => hq v s F' H' B' rv q
    · exact fun env' F' σ' H' J _ q => q.elim
    · exact fun env' F' σ' H' J _ q => q.elim
    · exact fun env' F' σ' H' C d ds J x q => he C d ds F' H' J.b x q
end
section
variable {X : Cx} {c : Cc} {W : WX}
theorem pu_callO {j k : Nat} {ps : List Str} {sp : PSp} {x : Str} {q pos : Pos} {e : Expr} {es : List Expr} {pa : PTA} (D : KpO X.prog X.w X.K X.mg X.base c j x ps sp) (hr : Room k X.A) (tk : Takes X W) (ha : PuA X c W (e :: es) pa)
    (hjk : j ≤ k := by decide) (hgl : Gl X x := by rfl) (hdb : (x == ("__debug__" : Str)) = false := by decide) (he : starEach (e :: es) X.env = (false, eval e X.env) :: starEach es X.env := by rfl)
    (hpl : (backTo pos (starEach es X.env)).any (·.1) = false := by rfl) : PuE X c W (.Call (.Name x q) (e :: es) [] pos) (pCalln ps.length sp pa) := by
  obtain ⟨ta, ha, ra⟩ := ha
  obtain ⟨f, fd, F, hm, hk, hb⟩ := D.ex
  exact ⟨_, pe_callS F (hr.mono hjk) hgl hm hk hb (fun σ => passAt tk σ) ha hdb he hpl, rd_call ra⟩
end
end Px
namespace Px
open PySem PySem.Spec PyProof.Rows L2 Lx
instance {n : Nat} {i : Int} : Decidable (Bn n i) := inferInstanceAs (Decidable (i.natAbs < 2 ^ n))
/-! ### loops by an invariant -/
theorem pForL_ind {g : PTG} {body : PTS} {ds : List PyData} {P : PD} {env : Ev} (I : Nat → Ev → Prop) (h0 : I 0 env)
    (hs : ∀ (i : Nat) (d : PyData) (env : Ev) (N : Ev → Prop), ds[i]? = some d → I i env → (∀ env', I (i + 1) env' → N env') → g (.d d) env fun env' => body { P with nx := N, ct := N, bk := P.nx } env')
    (he : ∀ env, I ds.length env → P.nx env) : pForL g body ds P env := by
  have go : ∀ (l : List PyData) (i : Nat) (env : Ev), i ≤ ds.length → ds.drop i = l → I i env → pForL g body l P env := by
    intro l
    induction l with
    | nil =>
      intro i env hle hd hi
      have hl : ds.length ≤ i := List.drop_eq_nil_iff.mp hd
      have e : i = ds.length := by omega
      subst e
      exact he env hi
    | cons d l ih =>
      intro i env hle hd hi
      have e : ds[i]? = some d := by
        have := congrArg (fun l => l[0]?) hd
        simpa using this
      have hd' : ds.drop (i + 1) = l := by
        have := congrArg List.tail hd
        simpa using this
      have hlt := (List.getElem?_eq_some_iff.mp e).1
      exact hs i d env _ e hi fun env' hi' => ih (i + 1) env' hlt hd' hi'
  exact go ds 0 env (Nat.zero_le _) rfl h0
theorem pLcL_ind {g : PTG} {tt : PTT} {pe : PTE} {envI : Ev} {ds : List PyData} {K : List PyData → Prop} (I : Nat → List PyData → Prop) (h0 : I 0 [])
    (hs : ∀ (i : Nat) (d : PyData) (acc : List PyData) (N : List PyData → Prop), ds[i]? = some d → I i acc → (∀ acc', I (i + 1) acc' → N acc') → g (.d d) envI fun env1 => tt env1 (fun b => (b = true → pe env1 (fun s => match s with
      | .d x => acc.length ≤ 1000000 ∧ N (acc ++ [x])
      | _ => False) ENo) ∧ (b = false → N acc)) ENo)
    (he : ∀ acc, I ds.length acc → K acc) : pLcL g tt pe envI ds [] K := by
  have go : ∀ (l : List PyData) (i : Nat) (acc : List PyData), i ≤ ds.length → ds.drop i = l → I i acc → pLcL g tt pe envI l acc K := by
    intro l
    induction l with
    | nil =>
      intro i acc hle hd hi
      have hl : ds.length ≤ i := List.drop_eq_nil_iff.mp hd
      have e : i = ds.length := by omega
      subst e
      exact he acc hi
    | cons d l ih =>
      intro i acc hle hd hi
      have e : ds[i]? = some d := by
        have := congrArg (fun l => l[0]?) hd
        simpa using this
      have hd' : ds.drop (i + 1) = l := by
        have := congrArg List.tail hd
        simpa using this
      have hlt := (List.getElem?_eq_some_iff.mp e).1
      exact hs i d acc _ e hi fun acc' hi' => ih (i + 1) acc' hlt hd' hi'
  exact go ds 0 [] (Nat.zero_le _) rfl h0
/-! ### l == [] -/
def rEqE (K : PySem.W.Frag) : R2 := fun x y H Q => ∃ a b xs, x = .ref a ∧ y = .ref b ∧ SqL K H a xs ∧ SqL K H b [] ∧ Q (.bl xs.isEmpty) H
theorem op_eqE {X : Cx} (hu : X.A.units + 64 < cLine) : OpR X (compareOp .Eq) (rEqE X.K) := by
  intro pins s σ H x y v u Q I rx ry h
  obtain ⟨a, b, xs, rfl, rfl, ha, hb, q⟩ := h
  cases xs with
  | nil => exact op_eqD hu pins s σ H _ _ v u Q I rx ry ⟨.list [], .list [], .lst ha .nil, .lst hb .nil, rfl, rfl, by simpa [PyData.eqv, PyData.eqvAll] using q⟩
  | cons z zs =>
    cases rx
    cases ry
    obtain ⟨us, r1, p1, _⟩ := I.list ha
    obtain ⟨ws, r2, p2, _⟩ := I.list hb
    have l1 := r1.length
    have l2 := r2.length
    have hn : us.toArray.size ≠ ws.toArray.size := by
      rw [List.size_toArray, List.size_toArray, ← l1, ← l2]
      simp
    have hR := SeqAt.RcAt.lists_lengths (A := X.A) p1.isList p2.isList (by simpa using hn) (by omega)
    exact hR _ _ _ _ ⟨.bl false, H, I, rfl, by simpa using q⟩
def oEqE : POp := fun x y R => match x, y with
  | .d (.list l), .d (.list []) => R (.d (.bool l.isEmpty))
  | _, _ => False
theorem ro_eqE {c : Cc} {K : PySem.W.Frag} : ROp c (rEqE K) oEqE := by
  intro H0 F0 env F σ H x y sx sy R Q J rx ry hp fin
  unfold oEqE at hp
  split at hp
  · cases rx with
    | lst ea ra =>
      cases ry with
      | lst eb rb =>
        cases rb
        exact ⟨_, _, _, rfl, rfl, sqL (J.b.sub _ _ ea), sqL (J.b.sub _ _ eb), fin _ (.d (.bool _)) F H J (same_refl F) (rs_bl (by cases ra <;> rfl)) hp⟩
  · exact hp.elim
/-! ### displays of constants, as a whole -/
section
variable {X : Cx} {c : Cc} {W : WX}
def pKd (ds : List PyData) : PTA := fun _ R _ => R (ds.map Sl.d)
theorem pa_nilK : PuA X c W [] (pKd []) := pa_nil'
theorem pa_consK {a : Expr} {as : List Expr} {d : PyData} {ds : List PyData} (ha : PuE X c W a (pC (.d d))) (hs : PuA X c W as (pKd ds)) (he : starEach (a :: as) X.env = (false, eval a X.env) :: starEach as X.env := by rfl) : PuA X c W (a :: as) (pKd (d :: ds)) := pa_cons' ha hs he
theorem allD_map : ∀ (ds : List PyData) (R : List PyData → Prop), R ds → allD (ds.map Sl.d) R
  | [], R, h => h
  | d :: ds, R, h => allD_map ds (fun xs => R (d :: xs)) h
theorem PuE.imp {e : Expr} {p q : PTE} (h : PuE X c W e p) (k : ∀ env R E, q env R E → p env R E) : PuE X c W e q := by
  obtain ⟨t, h, r⟩ := h
  exact ⟨t, h, fun H0 F0 env F σ H R E Q J L hp fin => r H0 F0 env F σ H R E Q J L (k _ _ _ hp) fin⟩
theorem pu_tupK {es : List Expr} {k : Nat} {pos : Pos} {ds : List PyData} (ha : PuA X c W es (pKd ds)) (hl : ds.length ≤ 1000 := by decide) : PuE X c W (.Tuple es k pos) (pC (.d (.tuple ds))) :=
  (pu_tup ha).imp fun env R E q => allD_map ds _ ⟨hl, q⟩
theorem pu_lstK {es : List Expr} {pos : Pos} {ds : List PyData} (ha : PuA X c W es (pKd ds)) (hl : ds.length ≤ 1000 := by decide) : PuE X c W (.List es pos) (pC (.d (.list ds))) :=
  (pu_lst ha).imp fun env R E q => allD_map ds _ ⟨hl, q⟩
theorem pu_negK {a : Expr} {pos : Pos} {i : Int} (ha : PuE X c W a (pC (.d (.int i)))) : PuE X c W (.UnaryOp .USub a pos) (pC (.d (.int (-i)))) := pu_neg ha
theorem pu_dispK {pos : Pos} : PuE X c W (.Dict [] [] pos) (pC (.d (.dict []))) := pu_disp0
end
end Px
namespace Px
open PySem PySem.Spec PyProof.Rows L2 Lx
def seqD : PyData → Option (List PyData)
  | .list l => some l
  | .tuple l => some l
  | _ => none
end Px
namespace Px
open PySem PySem.Spec PyProof.Rows L2 Lx
/-! ### zip over any two sources -/
section
variable {prog : Program} {w : World} {A : Around} {E : Value → Shared → Prop}
/-- an iterator at its place: it gives the k-th of xs, or it is at the end -/
structure Src (prog : Program) (w : World) (it l : Addr) (xs : Array Value) (S : Nat → Heap → Prop) : Prop where
  item : ∀ (A : Around) (E : Value → Shared → Prop) (s : Shared) (k : Nat) (x : Value) (Q : Value → Shared → Prop), S k s.heap → xs[k]? = some x →
    (∀ g, S (k + 1) g → Heap.SameBut it s.heap g → Q x { s with heap := g }) → wpAny (model prog w) A (Builtin.SmallTypes.nextOf (.ref it)) Q E s
  done : ∀ (A : Around) (E : Value → Shared → Prop) (s : Shared) (k : Nat) (Q : Value → Shared → Prop), A.handled = none → S k s.heap → xs[k]? = none →
    (∀ g e, Heap.ExtBut it s.heap g → (∃ o, g.get? e = some o ∧ o.cls = .type "StopIteration") → E (.ref e) { s with heap := g }) → wpAny (model prog w) A (Builtin.SmallTypes.nextOf (.ref it)) Q E s
  keep : ∀ (k : Nat) (h g : Heap), S k h → (∀ o, h.get? it = some o → g.get? it = some o) → (∀ o, h.get? l = some o → g.get? l = some o) → S k g
theorem src_list {it l : Addr} (xs : Array Value) (ne : l ≠ it) : Src prog w it l xs fun k h => h.IsListIter it l k ∧ h.IsList l xs where
  item := fun A E s k x Q h hx hQ => wpAny_nextOf_list_item h.1 h.2 hx fun g a b => hQ g ⟨a, h.2.extBut b.extBut ne⟩ b
  done := fun A E s k Q hh h hx hE => wpAny_nextOf_list_end hh h.1 h.2 hx hE
  keep := fun k h g hS h1 h2 => ⟨hS.1.at h1, by
    obtain ⟨o, e, r⟩ := hS.2
    exact ⟨o, h2 o e, r⟩⟩
theorem src_tuple {it l : Addr} (xs : Array Value) (ne : l ≠ it) : Src prog w it l xs fun k h => h.IsTupleIter it l k ∧ h.IsTuple l xs where
  item := fun A E s k x Q h hx hQ => RZ.nextOf_tuple_item h.1 h.2 hx fun g a b => hQ g ⟨a, h.2.extBut b.extBut ne⟩ b
  done := fun A E s k Q hh h hx hE => RZ.nextOf_tuple_end hh h.1 h.2 hx hE
  keep := fun k h g hS h1 h2 => ⟨hS.1.at h1, by
    obtain ⟨o, e, r⟩ := hS.2
    exact ⟨o, h2 o e, r⟩⟩
variable {s : Shared} {zz ti tu j1 j2 m1 m2 : Addr} {k1 k2 : Nat} {xs ys : Array Value} {x y a b : Value} {S1 S2 : Nat → Heap → Prop}
theorem Src.but {it l : Addr} {xs : Array Value} {S : Nat → Heap → Prop} (A : Src prog w it l xs S) {k : Nat} {h g : Heap} {c : Addr} (hS : S k h) (hb : Heap.SameBut c h g) (n1 : it ≠ c) (n2 : l ≠ c) : S k g :=
  A.keep k h g hS (fun o e => hb.extBut _ _ n1 e) fun o e => hb.extBut _ _ n2 e
theorem zu_item (D : ZipApart zz ti tu j1 j2 m1 m2) (gz : IsZip s.heap zz ti tu .none) (gi : IsPair s.heap ti (.ref j1) (.ref j2)) (gu : IsPair s.heap tu a b) (A1 : Src prog w j1 m1 xs S1) (A2 : Src prog w j2 m2 ys S2) (p1 : S1 k1 s.heap) (p2 : S2 k2 s.heap) (hx : xs[k1]? = some x) (hy : ys[k2]? = some y)
    {Q : Value → Shared → Prop} (fin : ∀ g, IsZip g zz ti tu (rawInt s.heap.objs.size) → IsPair g tu x y → S1 (k1 + 1) g → S2 (k2 + 1) g → IsPair g s.heap.objs.size x y → g.objs.size = s.heap.objs.size + 1 →
      (∀ d o, d ≠ zz → d ≠ tu → d ≠ j1 → d ≠ j2 → s.heap.get? d = some o → g.get? d = some o) → Q (.ref s.heap.objs.size) { s with heap := g }) :
    wpAny (model prog w) A (Builtin.«zip.__next__» ⟨[.ref zz], []⟩) (fun r s' => ∃ v, r = .done (.ret v) ∧ Q v s') E s := by
  show wpAny _ A (field (.ref zz) 2 >>= _) _ _ s
  refine wpAny_bind (wpAny_field gz rfl (x := .bool false) rfl ?_)
  show wpAny _ A (field (.ref zz) 3 >>= _) _ _ s
  refine wpAny_bind (wpAny_field gz rfl (x := .ref ti) rfl (wpAny_bind (wpAny_seqItems gi rfl ?_)))
  show wpAny _ A (Builtin.SmallTypes.ownedTupleIsFree (.ref zz) >>= _) _ _ s
  refine wpAny_bind ?_
  rw [Builtin.SmallTypes.ownedTupleIsFree]
  refine wpAny_bind (wpAny_field gz rfl (x := .none) rfl (wpAny_pure ?_))
  rw [if_pos rfl]
  refine wpAny_bind (wpAny_rule (wpAny_bind (wpAny_field gz rfl (x := .ref tu) rfl ?_)))
  refine wpAny_bind (wpAny_setField_rec gz (by simp) fun g1 gz1 b1 => ?_)
  replace gz1 : IsZip g1 zz ti tu .ellipsis := gz1
  refine wpAny_bind ?_
  simp only [List.zipIdx_cons, List.zipIdx_nil, List.forIn_cons, List.forIn_nil]
  -- the first
  refine wpAny_bind (wpAny_bind (wpAny_onRaise ?_))
  show wpAny _ _ (Builtin.SmallTypes.nextOf (.ref j1) >>= _) _ _ _
  refine wpAny_bind (A1.item _ _ _ _ _ _ (A1.but p1 b1 D.i1z D.l1z) hx fun g2 q1 b2 => wpAny_pure ?_)
  have gu2 : IsPair g2 tu a b := b2.extBut _ _ D.TOi1 (b1.extBut _ _ D.TOz gu)
  refine wpAny_bind (wpAny_seqItems gu2 rfl (wpAny_bind (wpAny_updateSeq_pair gu2 fun g3 gu3 b3 => ?_)))
  replace gu3 : IsPair g3 tu x b := gu3
  refine wpAny_bind (wpAny_letGo (wpAny_pure ?_))
  -- the second
  refine wpAny_bind (wpAny_bind (wpAny_onRaise ?_))
  show wpAny _ _ (Builtin.SmallTypes.nextOf (.ref j2) >>= _) _ _ _
  refine wpAny_bind (A2.item _ _ _ _ _ _ (A2.but (A2.but (A2.but p2 b1 D.i2z D.l2z) b2 D.i12.symm D.l2i1) b3 D.TOi2.symm D.l2TO) hy fun g4 q2 b4 => wpAny_pure ?_)
  have gu4 : IsPair g4 tu x b := b4.extBut _ _ D.TOi2 gu3
  refine wpAny_bind (wpAny_seqItems gu4 rfl (wpAny_bind (wpAny_updateSeq_pair gu4 fun g5 gu5 b5 => ?_)))
  replace gu5 : IsPair g5 tu x y := gu5
  refine wpAny_bind (wpAny_letGo (wpAny_pure (wpAny_pure ?_)))
  refine wpAny_bind (wpAny_seqItems gu5 rfl (wpAny_bind (wpAny_newTuple ?_)))
  have sz : g5.objs.size = s.heap.objs.size := by rw [b5.1, b4.1, b3.1, b2.1, b1.1]
  have gz5 : IsZip g5 zz ti tu .ellipsis := b5.extBut _ _ D.TOz.symm (b4.extBut _ _ D.i2z.symm (b3.extBut _ _ D.TOz.symm (b2.extBut _ _ D.i1z.symm gz1)))
  have old : ∀ d o, d ≠ zz → d ≠ tu → d ≠ j1 → d ≠ j2 → s.heap.get? d = some o → g5.get? d = some o := fun d o n1 n2 n3 n4 e =>
    b5.extBut _ _ n2 (b4.extBut _ _ n4 (b3.extBut _ _ n2 (b2.extBut _ _ n3 (b1.extBut _ _ n1 e))))
  have w1 : S1 (k1 + 1) g5 := A1.but (A1.but (A1.but q1 b3 D.TOi1.symm D.l1TO) b4 D.i12 D.l1i2) b5 D.TOi1.symm D.l1TO
  have w2 : S2 (k2 + 1) g5 := A2.but q2 b5 D.TOi2.symm D.l2TO
  have lz : zz < g5.objs.size := Heap.lt_size gz5
  show wpAny _ _ (Builtin.SmallTypes.ownedTupleHandOut (.ref zz) (.ref g5.objs.size) >>= _) _ _ _
  refine wpAny_bind ?_
  rw [Builtin.SmallTypes.ownedTupleHandOut]
  have gz6 : IsZip (g5.push { cls := .type "tuple", data := .seq #[x, y] }) zz ti tu .ellipsis := Heap.get?_push_of_some _ gz5
  refine wpAny_bind (wpAny_setField_rec gz6 (by simp) fun g7 gz7 b7 => ?_)
  replace gz7 : IsZip g7 zz ti tu (rawInt g5.objs.size) := gz7
  refine wpAny_setField_rec gz7 (by simp) fun g8 gz8 b8 => ?_
  replace gz8 : IsZip g8 zz ti tu (rawInt g5.objs.size) := gz8
  have on : ∀ d o, d ≠ zz → g5.get? d = some o → g8.get? d = some o := fun d o n e => b8.extBut _ _ n (b7.extBut _ _ n (Heap.get?_push_of_some _ e))
  have gt : IsPair g8 g5.objs.size x y := b8.extBut _ _ (Nat.ne_of_gt lz) (b7.extBut _ _ (Nat.ne_of_gt lz) (Heap.get?_push_size _ rfl))
  have sz8 : g8.objs.size = g5.objs.size + 1 := by rw [b8.1, b7.1, Heap.size_push]
  rw [sz] at gz8 gt sz8
  refine wpAny_pure ⟨_, rfl, ?_⟩
  show Q (.ref g5.objs.size) _
  rw [sz]
  exact fin g8 gz8 (on _ _ D.TOz gu5) (A1.keep _ _ _ w1 (fun o => on _ o D.i1z) fun o => on _ o D.l1z) (A2.keep _ _ _ w2 (fun o => on _ o D.i2z) fun o => on _ o D.l2z) gt sz8 fun d o n1 n2 n3 n4 e => on d o n1 (old d o n1 n2 n3 n4 e)
theorem zu_end (hh : A.handled = none) (D : ZipApart zz ti tu j1 j2 m1 m2) (gz : IsZip s.heap zz ti tu .none) (gi : IsPair s.heap ti (.ref j1) (.ref j2)) (gu : IsPair s.heap tu a b) (A1 : Src prog w j1 m1 xs S1) (A2 : Src prog w j2 m2 ys S2) (p1 : S1 k1 s.heap) (p2 : S2 k2 s.heap) (he : xs[k1]? = none ∨ ys[k2]? = none)
    {Q : PySem.Fin → Shared → Prop} (out : ∀ g e, (∀ d o, d ≠ zz → d ≠ tu → d ≠ j1 → d ≠ j2 → s.heap.get? d = some o → g.get? d = some o) → (∃ o, g.get? e = some o ∧ o.cls = .type "StopIteration") → E (.ref e) { s with heap := g }) :
    wpAny (model prog w) A (Builtin.«zip.__next__» ⟨[.ref zz], []⟩) Q E s := by
  show wpAny _ A (field (.ref zz) 2 >>= _) _ _ s
  refine wpAny_bind (wpAny_field gz rfl (x := .bool false) rfl ?_)
  show wpAny _ A (field (.ref zz) 3 >>= _) _ _ s
  refine wpAny_bind (wpAny_field gz rfl (x := .ref ti) rfl (wpAny_bind (wpAny_seqItems gi rfl ?_)))
  show wpAny _ A (Builtin.SmallTypes.ownedTupleIsFree (.ref zz) >>= _) _ _ s
  refine wpAny_bind ?_
  rw [Builtin.SmallTypes.ownedTupleIsFree]
  refine wpAny_bind (wpAny_field gz rfl (x := .none) rfl (wpAny_pure ?_))
  rw [if_pos rfl]
  refine wpAny_bind (wpAny_rule (wpAny_bind (wpAny_field gz rfl (x := .ref tu) rfl ?_)))
  refine wpAny_bind (wpAny_setField_rec gz (by simp) fun g1 gz1 b1 => ?_)
  replace gz1 : IsZip g1 zz ti tu .ellipsis := gz1
  refine wpAny_bind ?_
  simp only [List.zipIdx_cons, List.zipIdx_nil, List.forIn_cons, List.forIn_nil]
  refine wpAny_bind (wpAny_bind (wpAny_onRaise ?_))
  show wpAny _ _ (Builtin.SmallTypes.nextOf (.ref j1) >>= _) _ _ _
  cases hx : xs[k1]? with
  | none =>
    refine wpAny_bind (A1.done _ _ _ _ _ hh (A1.but p1 b1 D.i1z D.l1z) hx fun g2 e b2 se => ?_)
    obtain ⟨oe, e1, e2⟩ := se
    have gz2 : IsZip g2 zz ti tu .ellipsis := b2 _ _ D.i1z.symm gz1
    have ne : e ≠ zz := fun z => by rw [z, gz2] at e1; cases e1; simp at e2
    exact wpAny_setField_rec gz2 (by simp) fun g3 _ b3 => out g3 e (fun d o n1 _ n3 _ q => b3.extBut _ _ n1 (b2 _ _ n3 (b1.extBut _ _ n1 q))) ⟨oe, b3.extBut _ _ ne e1, e2⟩
  | some x =>
    have hy : ys[k2]? = none := he.resolve_left (by rw [hx]; simp)
    refine wpAny_bind (A1.item _ _ _ _ _ _ (A1.but p1 b1 D.i1z D.l1z) hx fun g2 q1 b2 => wpAny_pure ?_)
    have gu2 : IsPair g2 tu a b := b2.extBut _ _ D.TOi1 (b1.extBut _ _ D.TOz gu)
    refine wpAny_bind (wpAny_seqItems gu2 rfl (wpAny_bind (wpAny_updateSeq_pair gu2 fun g3 gu3 b3 => ?_)))
    refine wpAny_bind (wpAny_letGo (wpAny_pure ?_))
    refine wpAny_bind (wpAny_bind (wpAny_onRaise ?_))
    show wpAny _ _ (Builtin.SmallTypes.nextOf (.ref j2) >>= _) _ _ _
    refine wpAny_bind (A2.done _ _ _ _ _ hh (A2.but (A2.but (A2.but p2 b1 D.i2z D.l2z) b2 D.i12.symm D.l2i1) b3 D.TOi2.symm D.l2TO) hy fun g4 e b4 se => ?_)
    obtain ⟨oe, e1, e2⟩ := se
    have gz4 : IsZip g4 zz ti tu .ellipsis := b4 _ _ D.i2z.symm (b3.extBut _ _ D.TOz.symm (b2.extBut _ _ D.i1z.symm gz1))
    have ne : e ≠ zz := fun z => by rw [z, gz4] at e1; cases e1; simp at e2
    exact wpAny_setField_rec gz4 (by simp) fun g5 _ b5 => out g5 e (fun d o n1 n2 n3 n4 q => b5.extBut _ _ n1 (b4 _ _ n4 (b3.extBut _ _ n2 (b2.extBut _ _ n3 (b1.extBut _ _ n1 q))))) ⟨oe, b5.extBut _ _ ne e1, e2⟩
theorem zu_next (D : ZipApart zz ti tu j1 j2 m1 m2) (gz : IsZip s.heap zz ti tu .none) (gi : IsPair s.heap ti (.ref j1) (.ref j2)) (gu : IsPair s.heap tu a b) (A1 : Src prog w j1 m1 xs S1) (A2 : Src prog w j2 m2 ys S2) (p1 : S1 k1 s.heap) (p2 : S2 k2 s.heap) (hx : xs[k1]? = some x) (hy : ys[k2]? = some y)
    {Q : Option Value → Shared → Prop} (fin : ∀ g, IsZip g zz ti tu (rawInt s.heap.objs.size) → IsPair g tu x y → S1 (k1 + 1) g → S2 (k2 + 1) g → IsPair g s.heap.objs.size x y → g.objs.size = s.heap.objs.size + 1 →
      (∀ d o, d ≠ zz → d ≠ tu → d ≠ j1 → d ≠ j2 → s.heap.get? d = some o → g.get? d = some o) → Q (some (.ref s.heap.objs.size)) { s with heap := g }) : wpAny (model prog w) A (pyNext (.ref zz)) Q E s := by
  have tz : s.TypeIs (.ref zz) "zip" := ⟨_, gz, rfl⟩
  rw [pyNext]
  refine wpAny_bind (wpAny_attempt (wpAny_callSpecial?_slot (name := Str.ofString "__next__") tz F.slot_zip_next (wpAny_call_entry F.slot_zip_next tz F.entry_zip_next ?_ (F.args_zip_next_1 _))))
  exact zu_item D gz gi gu A1 A2 p1 p2 hx hy fun g r1 r2 r3 r4 r5 r6 r7 => wpAny_pure (fin g r1 r2 r3 r4 r5 r6 r7)
theorem zu_stop (hh : A.handled = none) (D : ZipApart zz ti tu j1 j2 m1 m2) (gz : IsZip s.heap zz ti tu .none) (gi : IsPair s.heap ti (.ref j1) (.ref j2)) (gu : IsPair s.heap tu a b) (A1 : Src prog w j1 m1 xs S1) (A2 : Src prog w j2 m2 ys S2) (p1 : S1 k1 s.heap) (p2 : S2 k2 s.heap) (he : xs[k1]? = none ∨ ys[k2]? = none)
    {Q : Option Value → Shared → Prop} (out : ∀ g, (∀ d o, d ≠ zz → d ≠ tu → d ≠ j1 → d ≠ j2 → s.heap.get? d = some o → g.get? d = some o) → Q none { s with heap := g }) : wpAny (model prog w) A (pyNext (.ref zz)) Q E s := by
  have tz : s.TypeIs (.ref zz) "zip" := ⟨_, gz, rfl⟩
  rw [pyNext]
  refine wpAny_bind (wpAny_attempt (wpAny_callSpecial?_slot (name := Str.ofString "__next__") tz F.slot_zip_next (wpAny_call_entry F.slot_zip_next tz F.entry_zip_next ?_ (F.args_zip_next_1 _))))
  refine zu_end (A := A.in1) (show A.in1.handled = none from hh) D gz gi gu A1 A2 p1 p2 he fun g e r1 r2 => ?_
  obtain ⟨o, e1, e2⟩ := r2
  exact wpAny_bind (wpAny_isInstance (T := "StopIteration") (b := true) ⟨o, e1, e2⟩ isSubtype_stop (wpAny_pure (out g r1)))
end
/-- a list and a tuple side by side -/
def ItzLT (K : PySem.W.Frag) (a b : Addr) : It :=
  ⟨fun i H => ∃ (us vs : List V) (u v : V), SqL K H a us ∧ SqT K H b vs ∧ us[i]? = some u ∧ vs[i]? = some v,
    fun i H r H' => ∃ T u v, r = .ref T ∧ H T = none ∧ H' = upd H T (.tup [u, v]) ∧ (∀ us, SqL K H a us → us[i]? = some u) ∧ ∀ vs, SqT K H b vs → vs[i]? = some v,
    fun i H => ∃ us vs : List V, SqL K H a us ∧ SqT K H b vs ∧ (us.length ≤ i ∨ vs.length ≤ i)⟩
abbrev zFive (n : Nat) : List Addr := [n + 4, n + 2, n + 3, n, n + 1]
theorem turn_zipLT {P : Program} {w : World} {K : PySem.W.Frag} {elts : List Expr} {kk : Nat} {tpos : Pos} {a b : Addr} {n : Nat} (ha : a < n) (hb : b < n) :
    Turn P w K (.Tuple elts kk tpos) (ItzLT K a b) (zFive n) (n + 4) (fun i h => IsZip h (n + 4) (n + 2) (n + 3) .none ∧ IsPair h (n + 2) (.ref n) (.ref (n + 1)) ∧ (∃ x y, IsPair h (n + 3) x y) ∧ h.IsListIter n a i ∧ h.IsTupleIter (n + 1) b i) where
  mem := List.mem_cons_self
  obj := fun i h st d hd => by
    obtain ⟨q1, q2, ⟨x, y, q3⟩, ⟨o1, e1, _, f1⟩, ⟨o2, e2, _, f2⟩⟩ := st
    simp only [List.mem_cons, List.not_mem_nil, or_false] at hd
    rcases hd with rfl | rfl | rfl | rfl | rfl
    · exact ⟨_, q1, fun v z => nomatch z⟩
    · exact ⟨_, q2, fun v z => nomatch z⟩
    · exact ⟨_, q3, fun v z => nomatch z⟩
    · exact ⟨o1, e1, fun v z => by rw [f1] at z; cases z⟩
    · exact ⟨o2, e2, fun v z => by rw [f2] at z; cases z⟩
  keep := fun i h g st k => by
    obtain ⟨q1, q2, ⟨x, y, q3⟩, q4, q5⟩ := st
    exact ⟨k _ (by simp) _ q1, k _ (by simp) _ q2, ⟨x, y, k _ (by simp) _ q3⟩, q4.at fun o e => k _ (by simp) o e, q5.at fun o e => k _ (by simp) o e⟩
  item := by
    intro X hP hw hK hc i pins s σ H E I hf st hg
    subst hP hw hK
    obtain ⟨q1, q2, ⟨x0, y0, q3⟩, q4, q5⟩ := st
    obtain ⟨us, vs, u, v, su, sv, eu, ev⟩ := hg
    obtain ⟨its, ru, pu, _⟩ := I.list su
    obtain ⟨jts, rv, pv, _⟩ := I.tuple sv
    obtain ⟨cu, hcu, rcu⟩ := ru.get eu
    obtain ⟨cv, hcv, rcv⟩ := rv.get ev
    have D := PySem.W.ktu_apart n a b ha hb
    have small : ∀ d ∈ zFive n, d < s.heap.objs.size := fun d hd => by
      simp only [List.mem_cons, List.not_mem_nil, or_false] at hd
      rcases hd with rfl | rfl | rfl | rfl | rfl
      · exact Heap.lt_size q1
      · exact Heap.lt_size q2
      · exact Heap.lt_size q3
      · obtain ⟨_, e, _⟩ := q4; exact Heap.lt_size e
      · obtain ⟨_, e, _⟩ := q5; exact Heap.lt_size e
    refine zu_next D q1 q2 q3 (src_list its.toArray D.l1i1) (src_tuple jts.toArray D.l2i2) ⟨q4, pu.isList⟩ ⟨q5, pv⟩ (x := cu) (y := cv) (by simpa using hcu) (by simpa using hcv) fun g gz gu g1 g2 gp gs gk => ?_
    refine ⟨_, rfl, wpAny_letOwnedTupleGo_zip (s := { s with heap := g }) gz fun g' gz' sb => ?_⟩
    have big : ∀ d ∈ zFive n, s.heap.objs.size ≠ d := fun d hd => Nat.ne_of_gt (small d hd)
    have gp' : g'.get? s.heap.objs.size = some { cls := .type "tuple", data := .seq #[cu, cv] } := (sb.2 _ (big _ (by simp))).trans gp
    have new : ObjOk X.prog X.w (upd H s.heap.objs.size (.tup [u, v])) g' s.heap.objs.size (.tup [u, v]) := ⟨by show 2 ≤ sizeLine; decide, [cu, cv], .cons rcu (.cons rcv .nil), ⟨_, gp', rfl, _, rfl⟩⟩
    have J := I.turnedNew (t' := s.toks) (ch := zFive n) (fun d o hd q => (sb.2 d fun z => hd (by simp [z])).trans (gk d o (fun z => hd (by simp [z])) (fun z => hd (by simp [z])) (fun z => hd (by simp [z])) (fun z => hd (by simp [z])) q)) hf (Nat.le_refl _) new
    refine ⟨.ref s.heap.objs.size, _, J, rfl, ⟨_, u, v, rfl, I.hok.fresh (Nat.le_refl _), rfl, fun l hl => by rw [I.list_inj hl su]; exact eu, fun l hl => by rw [I.tuple_inj hl sv]; exact ev⟩, ⟨gz', ?_, ⟨cu, cv, ?_⟩, ?_, ?_⟩, fun d hd => ?_⟩
    · exact (sb.2 _ D.TIz).trans (gk _ _ D.TIz D.TITO D.TIi1 D.TIi2 q2)
    · exact (sb.2 _ D.TOz).trans gu
    · exact g1.1.at fun o q => (sb.2 _ D.i1z).trans q
    · exact g2.1.at fun o q => (sb.2 _ D.i2z).trans q
    · rw [upd_ne fun z => big d hd z.symm]
      exact (hf d hd).1
  done := by
    intro X hP hw hK hc i pins s σ H E I hf st hg
    subst hP hw hK
    obtain ⟨q1, q2, ⟨x0, y0, q3⟩, q4, q5⟩ := st
    obtain ⟨us, vs, su, sv, hend⟩ := hg
    obtain ⟨its, ru, pu, _⟩ := I.list su
    obtain ⟨jts, rv, pv, _⟩ := I.tuple sv
    have l1 := ru.length
    have l2 := rv.length
    have D := PySem.W.ktu_apart n a b ha hb
    have he : its.toArray[i]? = none ∨ jts.toArray[i]? = none := hend.imp (fun q => by simp; omega) fun q => by simp; omega
    exact zu_stop (I.ok.hd hc) D q1 q2 q3 (src_list its.toArray D.l1i1) (src_tuple jts.toArray D.l2i2) ⟨q4, pu.isList⟩ ⟨q5, pv⟩ he fun g gk => ⟨rfl, I.turnedL (t' := s.toks) (ch := zFive n) (fun d o hd q => gk d o (fun z => hd (by simp [z])) (fun z => hd (by simp [z])) (fun z => hd (by simp [z])) (fun z => hd (by simp [z])) q) hf⟩
  self := fun A i s Q E st h => wpAny_pyIter_zip st.1 h
/-! ### zip(l, t) made -/
abbrev zs1 (h : Heap) (a : Addr) : Heap := h.push { cls := .type "list_iterator", data := .fields #[.ref a, .int 0 0] }
abbrev zs2 (h : Heap) (a b : Addr) : Heap := (zs1 h a).push { cls := .type "tuple_iterator", data := .fields #[.ref b, .int 0 0] }
abbrev zs3 (h : Heap) (a b : Addr) : Heap := (zs2 h a b).push { cls := .type "tuple", data := .seq #[.ref h.objs.size, .ref (zs1 h a).objs.size] }
abbrev zs4 (h : Heap) (a b : Addr) : Heap := (zs3 h a b).push { cls := .type "tuple", data := .seq #[.none, .none] }
abbrev zs5 (h : Heap) (a b : Addr) : Heap := (zs4 h a b).push { cls := .type "zip", data := .fields #[.none, .bool false, .bool false, .ref (zs2 h a b).objs.size, .ref (zs3 h a b).objs.size] }
theorem zs_meets (a b : Addr) (us vs : Array Value) : Meets (Builtin.«zip.__new__» ⟨[.type "zip", .ref a, .ref b], []⟩) (fun _ R s => s.heap.IsList a us ∧ s.heap.IsTuple b vs ∧ R (.ok (.ret (.ref (zs4 s.heap a b).objs.size))) { s with heap := zs5 s.heap a b }) :=
  .of_wp fun prog w A R s h => by
    obtain ⟨hp, g, d, tk, os⟩ := s
    obtain ⟨pa, pb, h⟩ := h
    have hsub := sub_zip
    have la : Heap.IsList (Shared.heap ⟨hp, g, d, tk, os⟩) a us := pa
    have tb : Heap.IsTuple (Shared.heap ⟨hp.push { cls := .type "list_iterator", data := .fields #[.ref a, .int 0 0] }, g, d, tk, os⟩) b vs := Heap.IsTuple.push pb _
    wp_walk using wpAny_pyIter_list la, wpAny_pyIter_tuple tb
    exact ⟨_, rfl, h⟩
theorem zs_call {prog : Program} {w : World} {A : Around} {E : Value → Shared → Prop} {s : Shared} {a b : Addr} {us vs : Array Value} {Q : Value → Shared → Prop} (pa : s.heap.IsList a us) (pb : s.heap.IsTuple b vs) {n : Nat} (hn : s.heap.objs.size = n)
    (fin : ∀ g, IsZip g (n + 4) (n + 2) (n + 3) .none → IsPair g (n + 2) (.ref n) (.ref (n + 1)) → IsPair g (n + 3) .none .none → g.IsListIter n a 0 → g.IsTupleIter (n + 1) b 0 → (∀ d o, s.heap.get? d = some o → g.get? d = some o) → Q (.ref (n + 4)) { s with heap := g }) :
    wpAny (model prog w) A (call (.type "zip") [.ref a, .ref b]) Q E s := by
  have e1 : (zs1 s.heap a).objs.size = n + 1 := by rw [Heap.size_push, hn]
  have e2 : (zs2 s.heap a b).objs.size = n + 2 := by rw [Heap.size_push, e1]
  have e3 : (zs3 s.heap a b).objs.size = n + 3 := by rw [Heap.size_push, e2]
  have e4 : (zs4 s.heap a b).objs.size = n + 4 := by rw [Heap.size_push, e3]
  have up : ∀ (h : Heap) (o : Obj) (d : Addr) (u : Obj), h.get? d = some u → (h.push o).get? d = some u := fun h o d u q => Heap.get?_push_of_some _ q
  have r5 : (zs5 s.heap a b).get? (zs4 s.heap a b).objs.size = some _ := Heap.get?_push_size _ rfl
  have r4 : (zs5 s.heap a b).get? (zs3 s.heap a b).objs.size = some _ := up _ _ _ _ (Heap.get?_push_size _ rfl)
  have r3 : (zs5 s.heap a b).get? (zs2 s.heap a b).objs.size = some _ := up _ _ _ _ (up _ _ _ _ (Heap.get?_push_size _ rfl))
  have r2 : (zs5 s.heap a b).get? (zs1 s.heap a).objs.size = some _ := up _ _ _ _ (up _ _ _ _ (up _ _ _ _ (Heap.get?_push_size _ rfl)))
  have r1 : (zs5 s.heap a b).get? s.heap.objs.size = some _ := up _ _ _ _ (up _ _ _ _ (up _ _ _ _ (up _ _ _ _ (Heap.get?_push_size _ rfl))))
  rw [e4, e3, e2] at r5
  rw [e3] at r4
  rw [e2, e1, hn] at r3
  rw [e1] at r2
  rw [hn] at r1
  refine callType_new F.called_zip (by decide) (F.typeCall_zip_2 _ _) (F.newCall_zip_2 _ _) (fun obj => F.args_object_init_3 obj _ _) F.entry_zip_new (zs_meets a b us vs) ⟨pa, pb, ?_⟩
  show _ ∧ _
  rw [e4]
  exact ⟨⟨_, r5, rfl⟩, fin _ r5 r3 r4 ⟨_, r1, rfl, rfl⟩ ⟨_, r2, rfl, rfl⟩ fun d o q => up _ _ _ _ (up _ _ _ _ (up _ _ _ _ (up _ _ _ _ (up _ _ _ _ q))))⟩
def iLT (K : PySem.W.Frag) (ta : TA) : TI := fun σ H R => ta σ H fun ws H1 => ∃ a b us vs, ws = [.ref a, .ref b] ∧ SqL K H1 a us ∧ SqT K H1 b vs ∧ R (ItzLT K a b) H1
section
variable {X : Cx} {c : Cc} {W : WX} {e e2 : Expr} {p pos tpos : Pos} {elts : List Expr} {kk : Nat}
/-- zip of any two that are lists or tuples (a tuple and a list: not yet) -/
def iZ2 (K : PySem.W.Frag) (ta : TA) : TI := fun σ H R => ta σ H fun ws H1 => ∃ a b us vs, ws = [.ref a, .ref b] ∧ ((SqL K H1 a us ∧ SqL K H1 b vs ∧ R (Itz K a b) H1) ∨ (SqT K H1 a us ∧ SqT K H1 b vs ∧ R (RZ.ItzT K a b) H1) ∨ (SqL K H1 a us ∧ SqT K H1 b vs ∧ R (ItzLT K a b) H1))
theorem pi_z2 {ta : TA} (hg : Gl X "zip") (hm : X.mg "zip" = none) (ha : PA X [e, e2] ta)
    (hs : starEach [e, e2] X.env = (false, eval e X.env) :: starEach [e2] X.env := by rfl) (hpl : (backTo pos (starEach [e2] X.env)).any (·.1) = false := by rfl) : PI X (.Tuple elts kk tpos) (.Call (.Name "zip" p) [e, e2] [] pos) (iZ2 X.K ta) := by
  refine ⟨fun pins s σ H R I h => ?_⟩
  refine Call_ (ld_blt I hg hm PyProof.Rows.boot_zip (PyProof.Rows.callWith_type1 (thn (ha.run pos pins s σ H _ I h) fun cs s1 ⟨ws, H1, I1, r1, q1⟩ => ?_) hs hpl))
  obtain ⟨a, b, us, vs, ew, q1⟩ := q1
  subst ew
  obtain ⟨u1, u2, rfl, ra, rb⟩ := vals2 r1
  cases ra
  cases rb
  have fresh : ∀ d ∈ zFive s1.heap.objs.size, FpOk X pins H1 d := fun d hd => by
    have hle : s1.heap.objs.size ≤ d := by
      simp only [List.mem_cons, List.not_mem_nil, or_false] at hd
      rcases hd with rfl | rfl | rfl | rfl | rfl
      · exact Nat.le_add_right _ 4
      · exact Nat.le_add_right _ 2
      · exact Nat.le_add_right _ 3
      · exact Nat.le_refl _
      · exact Nat.le_add_right _ 1
    exact I1.fpOk hle (I1.hok.fresh hle)
  rcases q1 with ⟨sa, sb, q⟩ | ⟨sa, sb, q⟩ | ⟨sa, sb, q⟩
  · obtain ⟨its, _, pa, _⟩ := I1.list sa
    obtain ⟨jts, _, pb, _⟩ := I1.list sb
    refine call_zip_2 pa.isList pb.isList fun g gz gi gu g1 g2 _ gk => wpAny_pyIter_zip gz ?_
    exact ⟨s1.heap.objs.size + 4, zFive s1.heap.objs.size, _, _, H1, rfl, I1.kept (t' := s1.toks) gk, turn_zip (PySem.W.ktu_apart s1.heap.objs.size a b pa.lt pb.lt), ⟨gz, gi, ⟨_, _, gu⟩, g1, g2⟩, fresh, q⟩
  · obtain ⟨its, _, pa, _⟩ := I1.tuple sa
    obtain ⟨jts, _, pb, _⟩ := I1.tuple sb
    refine RZ.call_zipT (show s1.heap.IsTuple a its.toArray from pa) (show s1.heap.IsTuple b jts.toArray from pb) fun g gz gi gu g1 g2 _ gk => wpAny_pyIter_zip gz ?_
    exact ⟨s1.heap.objs.size + 4, zFive s1.heap.objs.size, _, _, H1, rfl, I1.kept (t' := s1.toks) gk, RZ.turn_zipT (PySem.W.ktu_apart s1.heap.objs.size a b pa.lt pb.lt), ⟨gz, gi, ⟨_, _, gu⟩, g1, g2⟩, fresh, q⟩
  · obtain ⟨its, _, pa, _⟩ := I1.list sa
    obtain ⟨jts, _, pb, _⟩ := I1.tuple sb
    refine zs_call pa.isList (show s1.heap.IsTuple b jts.toArray from pb) rfl fun g gz gi gu g1 g2 gk => wpAny_pyIter_zip gz ?_
    exact ⟨s1.heap.objs.size + 4, zFive s1.heap.objs.size, _, _, H1, rfl, I1.kept (t' := s1.toks) gk, turn_zipLT pa.lt pb.lt, ⟨gz, gi, ⟨_, _, gu⟩, g1, g2⟩, fresh, q⟩
theorem walk_zlt {K : PySem.W.Frag} {F : Hp} {a b : Addr} {xs ys : List V} {ds es : List PyData} (ea : F a = some (.lst xs)) (ra : RqAll F xs ds) (eb : F b = some (.tup ys)) (rb : RqAll F ys es) : Walk c (ItzLT K a b) F (zipD ds es) where
  stop := fun H0 F0 env F' σ H J k => ⟨xs, ys, sqL (J.b.sub _ _ (k _ _ ea)), sqT (J.b.sub _ _ (k _ _ eb)), by rw [ra.len, rb.len]; exact zipD_end⟩
  go := fun H0 F0 env F' σ H i d J k h => by
    obtain ⟨x, y, h1, h2, rfl⟩ := zipD_at h
    obtain ⟨v, e1, rv⟩ := ra.get h1
    obtain ⟨w, e2, rw⟩ := rb.get h2
    have qa : SqL K H a xs := sqL (J.b.sub _ _ (k _ _ ea))
    have qb : SqT K H b ys := sqT (J.b.sub _ _ (k _ _ eb))
    refine ⟨⟨xs, ys, v, w, qa, qb, e1, e2⟩, fun z H3 hy => ?_⟩
    obtain ⟨T, v', w', rfl, hT, rfl, f1, f2⟩ := hy
    have g1 := f1 xs qa
    have g2 := f2 ys qb
    rw [e1] at g1
    rw [e2] at g2
    cases g1
    cases g2
    have k2 : Same F' (upd F' T (.tup [v, w])) := same_upd (J.b.fnone hT)
    exact ⟨_, J.alloc hT _, k2, Rq.tup upd_same (.cons ((rv.same k).same k2) (.cons ((rw.same k).same k2) .nil))⟩
def iZipU (a : PTA) : PTI := fun env R E => a env (fun ss => match ss with
  | [.d (.list ds), .d (.list es)] => R (zipD ds es)
  | [.d (.tuple ds), .d (.tuple es)] => R (zipD ds es)
  | [.d (.list ds), .d (.tuple es)] => R (zipD ds es)
  | _ => False) E
theorem pui_zipU {pa : PTA} (hm : X.mg "zip" = none) (ha : PuA X c W [e, e2] pa) (hg : Gl X "zip" := by rfl)
    (hs : starEach [e, e2] X.env = (false, eval e X.env) :: starEach [e2] X.env := by rfl) (hpl : (backTo pos (starEach [e2] X.env)).any (·.1) = false := by rfl) :
    PuI X c W (.Tuple elts kk tpos) (.Call (.Name "zip" p) [e, e2] [] pos) (iZipU pa) := by
  obtain ⟨ta, ha, ra⟩ := ha
  refine ⟨_, pi_z2 hg hm ha hs hpl, fun H0 F0 env F σ H R E Q J L hp fin => ra _ _ _ _ _ _ _ _ _ J L hp fun vs ss F1 H1 J1 k1 r1 h1 => ?_⟩
  split at h1
  · obtain ⟨v, w, rfl, rv, rw⟩ := rs2 r1
    cases rv with
    | lst ea ra =>
      cases rw with
      | lst eb rb => exact ⟨_, _, _, _, rfl, .inl ⟨sqL (J1.b.sub _ _ ea), sqL (J1.b.sub _ _ eb), fin _ F1 H1 _ J1 k1 (walk_zl ea ra eb rb) h1⟩⟩
  · obtain ⟨v, w, rfl, rv, rw⟩ := rs2 r1
    cases rv with
    | tup ea ra =>
      cases rw with
      | tup eb rb => exact ⟨_, _, _, _, rfl, .inr (.inl ⟨sqT (J1.b.sub _ _ ea), sqT (J1.b.sub _ _ eb), fin _ F1 H1 _ J1 k1 (walk_zt ea ra eb rb) h1⟩)⟩
  · obtain ⟨v, w, rfl, rv, rw⟩ := rs2 r1
    cases rv with
    | lst ea ra =>
      cases rw with
      | tup eb rb => exact ⟨_, _, _, _, rfl, .inr (.inr ⟨sqL (J1.b.sub _ _ ea), sqT (J1.b.sub _ _ eb), fin _ F1 H1 _ J1 k1 (walk_zlt ea ra eb rb) h1⟩)⟩
  · exact h1.elim
end
end Px
namespace Px
open PySem PySem.Spec PyProof.Rows L2 Lx
/-! ### lists of one's own -/
section
variable {c : Cc} {H0 F0 F H : Hp} {env : Ev} {σ : St} {q : Addr}
theorem Rel.own (R : Rel c H0 F0 env F σ H) {ys : List V} {ds : List PyData} (i : Nat) (hF : F q = none) (h0 : Nw H0 q) (h : H q = some (.lst ys)) (r : RqAll F ys ds) (ne : ∀ (j : Nat) (xs : List PyData), j ≠ i → env[j]? = some (some (.own xs)) → σ[j]? ≠ some (some (.ref q))) :
    Rel c H0 F0 (env.set i (some (.own ds))) F (σ.set i (some (.ref q))) H := by
  refine ⟨R.b, by rw [List.length_set, List.length_set]; exact R.len, fun j ov s' e1 e2 => ?_, fun j k p xs zs e1 e2 e3 e4 => ?_⟩
  · by_cases hij : i = j
    · subst hij
      have h1 : i < σ.length := by
        have := (List.getElem?_eq_some_iff.mp e1).1
        simpa using this
      rw [List.getElem?_set_self h1] at e1
      rw [List.getElem?_set_self (by rw [← R.len]; exact h1)] at e2
      cases e1
      cases e2
      exact ⟨q, ys, rfl, hF, h0, h, r⟩
    · rw [List.getElem?_set_ne hij] at e1 e2
      exact R.sl j ov s' e1 e2
  · by_cases hj : i = j
    · by_cases hk : i = k
      · exact hj.symm.trans hk
      · subst hj
        have h1 : i < σ.length := by
          have := (List.getElem?_eq_some_iff.mp e3).1
          simpa using this
        rw [List.getElem?_set_self h1] at e3
        cases e3
        rw [List.getElem?_set_ne hk] at e2 e4
        exact absurd e4 (ne k zs (Ne.symm hk) e2)
    · by_cases hk : i = k
      · subst hk
        have h1 : i < σ.length := by
          have := (List.getElem?_eq_some_iff.mp e4).1
          simpa using this
        rw [List.getElem?_set_self h1] at e4
        cases e4
        rw [List.getElem?_set_ne hj] at e1 e3
        exact absurd e3 (ne j xs (Ne.symm hj) e1)
      · rw [List.getElem?_set_ne hj] at e1 e3
        rw [List.getElem?_set_ne hk] at e2 e4
        exact R.sep j k p xs zs e1 e2 e3 e4
/-- one's own list is shown: it is data from now on -/
theorem Rel.show (R : Rel c H0 F0 env F σ H) {i : Nat} {ds : List PyData} (h : nth env i = some (.own ds)) : ∃ F', Rel c H0 F0 (env.set i (some (.d (.list ds)))) F' σ H ∧ Same F F' := by
  obtain ⟨ov, e1, q, ys, e2, hF, h0, hq, r⟩ := R.get (nth_eq _ _ h)
  subst e2
  have k : Same F (upd F q (.lst ys)) := same_upd hF
  have ne : ∀ (j : Nat) (xs : List PyData), j ≠ i → env[j]? = some (some (.own xs)) → σ[j]? ≠ some (some (.ref q)) := fun j xs hj e z => hj (R.sep j i q xs ds e (nth_eq _ _ h) z e1)
  refine ⟨upd F q (.lst ys), ⟨R.b.freeze hq hF h0, by rw [List.length_set]; exact R.len, fun j ov s' e3 e4 => ?_, fun j l p xs zs e3 e4 e5 e6 => ?_⟩, k⟩
  · by_cases hij : i = j
    · subst hij
      have h1 : i < env.length := by
        have := (List.getElem?_eq_some_iff.mp e4).1
        simpa using this
      rw [List.getElem?_set_self h1] at e4
      cases e4
      rw [e1] at e3
      cases e3
      exact ⟨.ref q, rfl, Rq.lst upd_same (r.same k)⟩
    · rw [List.getElem?_set_ne hij] at e4
      have r2 := R.sl j ov s' e3 e4
      cases s' with
      | none => exact True.intro
      | some s' =>
        cases s' with
        | d x => obtain ⟨v, e, rv⟩ := r2; exact ⟨v, e, rv.same k⟩
        | raw v => exact r2
        | exc p C fs => exact ⟨r2.1, r2.2.same k⟩
        | obj C fs => exact ⟨r2.choose, r2.choose_spec.1, r2.choose_spec.2.same k⟩
        | slf x C fs =>
          obtain ⟨dx, gs, e, a1, a2, a3, a4, a5⟩ := r2
          have np : x ≠ q := fun z => by rw [z, hq] at a3; cases a3
          exact ⟨dx, gs, e, by rw [upd_ne np]; exact a1, a2, a3, a4, a5.same k⟩
        | own xs =>
          obtain ⟨p, us, e, a1, a2, a3, a4⟩ := r2
          have np : p ≠ q := fun z => ne j xs (Ne.symm hij) e4 (by rw [e3, e, z])
          exact ⟨p, us, e, by rw [upd_ne np]; exact a1, a2, a3, a4.same k⟩
  · have n1 : i ≠ j := fun z => by
      subst z
      rw [List.getElem?_set_self (by have := (List.getElem?_eq_some_iff.mp e3).1; simpa using this)] at e3
      cases e3
    have n2 : i ≠ l := fun z => by
      subst z
      rw [List.getElem?_set_self (by have := (List.getElem?_eq_some_iff.mp e4).1; simpa using this)] at e4
      cases e4
    rw [List.getElem?_set_ne n1] at e3
    rw [List.getElem?_set_ne n2] at e4
    exact R.sep j l p xs zs e3 e4 e5 e6
end
section
variable {X : Cx} {c : Cc} {W : WX}
/-- x = [..], x one's own from now on -/
def psOwn (i : Nat) (a : PTA) : PTS := fun P env => a env (fun ss => allD ss fun ds => ds.length ≤ 1000 ∧ P.nx (env.set i (some (.own ds)))) P.ex
theorem pus_own {i : Nat} {x : Str} {es : List Expr} {p pos pos' : Pos} {pa : PTA} (hN : X.N.Nodup) (ha : PuA X c W es pa) (hi : X.N[i]? = some x := by rfl) (hx : Loc X.env.scope x := by first | exact .inl rfl | exact .inr rfl) (hs : swapsWith (.List es p) (some (.Name x pos')) pos.line X.env = pure false := by rfl)
    (hf : X.fn x = true ∨ X.env.scope.names.lookup x = some .local := by first | exact .inl rfl | exact .inr rfl | assumption) : PuS X c W (.Assign [.Name x pos'] (.List es p) pos) (psOwn i pa) := by
  obtain ⟨ta, ha, ra⟩ := ha
  refine ⟨_, ps_set hN hi hx (pe_lst ha) hs hf, fun H0 F0 env F σ H D P J L h => ?_⟩
  refine ra _ _ _ _ _ _ _ _ _ J L.ex h fun vs ss F1 H1 J1 k1 r1 h1 => ?_
  obtain ⟨ds, r2, hl, q⟩ := allD_d r1 h1
  refine ⟨by rw [r2.len]; exact Nat.le_trans hl (by decide), fun p hp => ?_⟩
  have J2 := J1.new hp (.lst vs)
  exact L.nx _ F1 _ _ (J2.own i (J1.b.fnone hp) (J1.b.h0 hp) upd_same r2 fun j xs _ e1 e2 => own_ne J1 hp j xs e1 e2) k1 q
/-- x.append(e), x one's own -/
def psApp (i : Nat) (a : PTE) : PTS := fun P env => match nth env i with
  | some (.own ds) => a env (fun s => match s with
    | .d y => ds.length ≤ 1000000 ∧ P.nx (env.set i (some (.own (ds ++ [y]))))
    | _ => False) P.ex
  | _ => False
theorem pus_app {i : Nat} {x : Str} {e : Expr} {p apos cpos pos : Pos} {pa : PTE} (ha : PuE X c W e pa) (hN : X.N[i]? = some x := by rfl) (hv : Vis X.env.scope x := by first | exact Or.inl rfl | exact Or.inr (Or.inl rfl) | exact Or.inr (Or.inr rfl))
    (hd : (x == ("__debug__" : Str)) = false := by decide) (hcd : (x == ("__classdict__" : Str)) = false := by decide) (hline : (apos.endLine == cpos.line) = true := by rfl) (he : starEach [e] X.env = (false, eval e X.env) :: starEach [] X.env := by rfl)
    (hbase : attributeBase (.Name x p) "append" X.env (eval (.Name x p) X.env) = eval (.Name x p) X.env := by rfl)
    (hfew : ((backTo cpos (starEach [e] X.env)).all (fun x => !x.1) && (backToKw cpos (keywordEach [] X.env)).all (fun x => x.1.isSome) && decide ([e].length + ([] : List Keyword).length + (if ([] : List Keyword).isEmpty then 0 else 1) < 30)) = true := by rfl)
    (hs : swapsWith (.Call (.Attribute (.Name x p) "append" apos) [e] [] cpos) none pos.line X.env = pure false := by rfl) : PuS X c W (.Expr (.Call (.Attribute (.Name x p) "append" apos) [e] [] cpos) pos) (psApp i pa) := by
  obtain ⟨ta, ha, ra⟩ := ha
  refine ⟨_, ps_expr (pe_bm PySem.F.plainAttrs_list PySem.F.slot_list_append PySem.F.type_list_append mt_append (pv i hN hv hd hcd) (pa_cons ha pa_nil he) hbase hfew hline he (by rfl)) hs, fun H0 F0 env F σ H D P J L h => ?_⟩
  unfold psApp at h
  split at h
  · rename_i ds hn
    obtain ⟨ov, e1, q, ys, e2, hF, h0, hq, r⟩ := J.get (nth_eq _ _ hn)
    subst e2
    refine ⟨.ref q, e1, tyL hq, ?_⟩
    refine ra _ _ _ _ _ _ _ _ _ J L.ex h fun v s F1 H1 J1 k1 r1 h1 => ?_
    split at h1
    · obtain ⟨ov', e1', q', ys', e2', hF', h0', hq', r'⟩ := J1.get (nth_eq _ _ hn)
      rw [e1] at e1'
      cases e1'
      cases e2'
      have ne : ∀ (j : Nat) (xs : List PyData), j ≠ i → env[j]? = some (some (.own xs)) → σ[j]? ≠ some (some (.ref q)) := fun j xs hj e z => hj (J1.sep j i q xs ds e (nth_eq _ _ hn) z e1)
      refine ⟨q, ys', v, rfl, rfl, hq', by rw [r'.len]; exact Nat.lt_of_le_of_lt h1.1 (by decide), ?_⟩
      have B := J1.b.wr (zs := ys' ++ [v]) hq' hF' h0'
      have J2 : Rel c H0 F0 (env.set i none) F1 (σ.set i (some (.ref q))) H1 := J1.any i _
      have J3 : Rel c H0 F0 (env.set i none) F1 (σ.set i (some (.ref q))) (upd H1 q (.lst (ys' ++ [v]))) := J2.wrAt hq' hF' h0' fun j xs e z => by
        have hji : j ≠ i := fun z' => by
          subst z'
          rw [List.getElem?_set_self (by have := (List.getElem?_eq_some_iff.mp e).1; simpa using this)] at e
          cases e
        rw [List.getElem?_set_ne (Ne.symm hji)] at e z
        exact ne j xs hji e z
      have J4 := J3.own (ds := ds ++ [_]) i hF' h0' upd_same (r'.app (.cons r1 .nil)) fun j xs hj e z => by
        rw [List.getElem?_set_ne (Ne.symm hj)] at e z
        exact ne j xs hj e z
      have es : (σ.set i (some (V.ref q))).set i (some (V.ref q)) = σ := by
        rw [List.set_set]
        exact List.ext_getElem? fun j => by
          by_cases hj : i = j
          · subst hj
            rw [List.getElem?_set_self (List.getElem?_eq_some_iff.mp e1).1, e1]
          · rw [List.getElem?_set_ne hj]
      rw [es, List.set_set] at J4
      exact L.nx _ F1 σ _ J4 k1 h1.2
    · exact h1.elim
  · exact h.elim
/-- from here on the list in the slot is data -/
def psShow (i : Nat) (p : PTS) : PTS := fun P env => match nth env i with
  | some (.own ds) => p P (env.set i (some (.d (.list ds))))
  | _ => False
theorem pus_show {sts : List Stmt} {p : PTS} (i : Nat) (h : PuSs X c W sts p) : PuSs X c W sts (psShow i p) := by
  obtain ⟨t, ht, r⟩ := h
  refine ⟨t, ht, fun H0 F0 env F σ H D P J L h => ?_⟩
  unfold psShow at h
  split at h
  · rename_i ds hn
    obtain ⟨F', J', k⟩ := J.show hn
    exact r _ _ _ _ _ _ D P J' (L.with k) h
  · exact h.elim

/-! ### the caught exception -/
/-- isinstance(e, C) -/
def uIsP (p : Addr × Obj) (ok : Addr → Prop) (b : Addr → Bool) : Sl → (Sl → Prop) → Prop := fun x R => match x with
  | .exc p' C _ => p' = p ∧ ok C ∧ R (.d (.bool (b C)))
  | _ => False
/-- e.n -/
def uFld (p : Addr × Obj) (ok : Addr → Prop) (n : Str) : Sl → (Sl → Prop) → Prop := fun x R => match x with
  | .exc p' C ds => p' = p ∧ ok C ∧ ∃ d, ds.lookup n = some d ∧ R (.d d)
  | _ => False
theorem look_rel {F : Hp} {n : Str} {d : PyData} : ∀ {fs : List (Str × V)} {ds : FD}, fs.map (·.1) = ds.map (·.1) → RqAll F (fs.map (·.2)) (ds.map (·.2)) → ds.lookup n = some d → ∃ v, fs.lookup n = some v ∧ Rq F v d
  | [], [], _, _, h => by cases h
  | [], _ :: _, e, _, _ => by simp at e
  | _ :: _, [], e, _, _ => by simp at e
  | (m, v) :: fs, (m', d') :: ds, e, r, h => by
    simp only [List.map_cons, List.cons.injEq] at e
    obtain ⟨e1, e2⟩ := e
    have e1 : m = m' := e1
    subst e1
    cases r with
    | cons r1 r2 =>
      rw [List.lookup_cons] at h ⊢
      cases q : n == m with
      | true =>
        rw [q] at h
        cases h
        exact ⟨v, rfl, r1⟩
      | false =>
        rw [q] at h
        exact look_rel e2 r2 h
theorem ExcV.at {F H : Hp} (k : Same F H) {p : Addr × Obj} {C : Addr} {ds : FD} (h : ExcV F p C ds) : ∃ fs, ExcAt H p C fs ∧ fs.map (·.1) = ds.map (·.1) ∧ RqAll F (fs.map (·.2)) (ds.map (·.2)) := by
  obtain ⟨h1, h2, h3⟩ := h
  rcases h3 with ⟨e, rfl⟩ | ⟨a, fs, e, q, m, r⟩
  · exact ⟨[], ⟨h1, h2, .inl ⟨e, rfl⟩⟩, rfl, .nil⟩
  · exact ⟨fs, ⟨h1, h2, .inr ⟨a, e, k _ _ q⟩⟩, m, r⟩
theorem pu_isP {p : Addr × Obj} {ok : Addr → Prop} {b : Addr → Bool} {x y : Str} {i : Nat} {q q2 q3 pos : Pos} {C' : Addr} {pa : PTE} {e : Expr} (hp : p ∈ X.pn) (hm : X.mg "isinstance" = none) (hC : X.mg y = some (.ref C')) (hok : ∀ C, ok C → XcF X.K C ∧ PySem.W.kitOne X.K (.ref C) (.ref C') = some (b C)) (ha : PuE X c W e pa)
    (hg : Gl X "isinstance" := by rfl) (hg2 : Gl X y := by rfl) (hd : (y == ("__debug__" : Str)) = false := by decide)
    (h1 : starEach [e, .Name y q2] X.env = (false, eval e X.env) :: starEach [.Name y q2] X.env := by rfl) (h2 : starEach [Expr.Name y q2] X.env = (false, eval (.Name y q2) X.env) :: starEach [] X.env := by rfl) (hpl : (backTo pos (starEach [Expr.Name y q2] X.env)).any (·.1) = false := by rfl) :
    PuE X c W (.Call (.Name "isinstance" q) [e, .Name y q2] [] pos) (pUn (uIsP p ok b) pa) := by
  obtain ⟨ta, ha, ra⟩ := ha
  refine ⟨_, pe_callB (call_isP hp) hg hm (by decide +kernel) (pa_cons ha (pa_cons (pe_glob (v := .ref C') hg2 hC rfl hd) pa_nil h2) h1) (by decide) (by decide) h1 hpl, fun H0 F0 env F σ H R E Q J L hq fin => ?_⟩
  refine ra _ _ _ _ _ _ _ _ _ J L hq fun v s F1 H1 J1 k1 r1 q1 => ?_
  cases s with
  | exc p' C ds =>
    obtain ⟨rfl, hC1, q1⟩ := q1
    obtain ⟨rfl, ex⟩ := r1
    obtain ⟨fs, he, _, _⟩ := ex.at J1.b.sub
    obtain ⟨xf, kt⟩ := hok C hC1
    exact rr_isP he xf kt (fun _ h => h) (fin _ (.d _) F1 H1 J1 k1 (Rq.bl _) q1)
  | _ => exact q1.elim
theorem pu_fld {p : Addr × Obj} {ok : Addr → Prop} {e : Expr} {pos : Pos} {n : Str} {pa : PTE} (hp : p ∈ X.pn) (hok : ∀ C, ok C → XcF X.K C ∧ PySem.W.findIn X.K (.ref C) n = some none) (ha : PuE X c W e pa) (hb : attributeBase e n X.env (eval e X.env) = eval e X.env := by rfl) : PuE X c W (.Attribute e n pos) (pUn (uFld p ok n) pa) := by
  obtain ⟨ta, ha, ra⟩ := ha
  refine ⟨_, pe_fldP hp ha hb, fun H0 F0 env F σ H R E Q J L hq fin => ?_⟩
  refine rr_fldP (ra _ _ _ _ _ _ _ _ _ J L hq fun v s F1 H1 J1 k1 r1 q1 => ?_)
  cases s with
  | exc p' C ds =>
    obtain ⟨rfl, hC1, d, hd, q1⟩ := q1
    obtain ⟨rfl, ex⟩ := r1
    obtain ⟨fs, he, m, rr⟩ := ex.at J1.b.sub
    obtain ⟨w, hw, rw⟩ := look_rel m rr hd
    obtain ⟨xf, nf⟩ := hok C hC1
    exact ⟨rfl, C, fs, w, he, xf, nf, hw, fin w (.d d) F1 H1 J1 k1 rw q1⟩
  | _ => exact q1.elim
end
end Px
namespace Px
open PySem PySem.Spec PyProof.Rows L2 Lx
/-! ### defs that are handed the caught exception -/
def KpE (P : Program) (w : World) (K : PySem.W.Frag) (mg : Str → Option Value) (base : Heap) (c : Cc) (k : Nat) (x : Str) (ps : List Str) (sp : Addr × Obj → PSp) : Prop := KeepsE P w K mg base k x ps fun p => lift c ps.length (sp p)
def pdNo (R : Sl → Prop) : PD := ⟨fun _ => R (.d .none), R, fun _ => False, fun _ => False, ENo⟩
theorem hu65H {A : Around} {k : Nat} (hr : L2H.RoomH k A) : A.units + 65 < cLine := by have := hr.un; omega
theorem hu64H {A : Around} {k : Nat} (hr : L2H.RoomH k A) : A.units + 64 < cLine := by have := hr.un; omega
section
variable {P : Program} {w : World} {K : PySem.W.Frag} {mg : Str → Option Value} {base : Heap} {x : Str} {st : Stmt} {N ps : List Str} {k : Nat} {sp : Addr × Obj → PSp} {c : Cc}
theorem keepEP (F : Has K mg x st) (b : BindsBy x st ps) (S : FnScope N ps (defScope st))
    (hbody : ∀ (f : Addr) (cdv : Value) (A : Around) (outer : List Env) (s : Shared) (H : Hp) (E : XK) (p : Addr × Obj), L2H.RoomH k (A.deeper (envOfC x (defScope st) s.heap.objs.size f cdv)) →
      (A.deeper (envOfC x (defScope st) s.heap.objs.size f cdv)).guards = some [] → p ∈ (L2H.cxH CX0 P w K mg base N x (defScope st) f cdv A outer s H E p).nox.pn →
      ∃ pt, PuSs (L2H.cxH CX0 P w K mg base N x (defScope st) f cdv A outer s H E p).nox c WNo (defBody st) pt ∧ ∀ ss R EX, ss.length = ps.length → sp p ss R EX → pt (pdNo R) (startP N ss)) :
    KpE P w K mg base c (k + 1) x ps sp := by
  refine keepE F b S (fun p vs H Q E h => ?_) fun f cdv A outer s H vs Q E p hr hg h => ?_
  · obtain ⟨G, ss, R, EX, _, rs, hl, _⟩ := h
    rw [rs.len, hl]
  · obtain ⟨G, ss, R, EX, B, rs, hl, hp, hq, he⟩ := h
    obtain ⟨pt, ⟨t, ht, hrd⟩, hpure⟩ := hbody f cdv A outer s H E p hr hg List.mem_cons_self
    refine ⟨t, ht, hrd H G (startP N ss) G (L2.start N vs) H _ (pdNo R) (rel_start B rs N) ⟨?_, ?_, ?_, ?_, link_no⟩ (hpure ss R EX hl hp)⟩
    · exact fun env' F' σ' H' J _ q => hq .non (.d .none) F' H' J.b Rq.non q
    · exact fun v s F' H' B' rv q => hq v s F' H' B' rv q
    · exact fun env' F' σ' H' J _ q => q.elim
    · exact fun env' F' σ' H' J _ q => q.elim
end
section
variable {X : Cx} {c : Cc} {W : WX}
def pCallE (n : Nat) (sp : PSp) (a : PTA) : PTE := fun env R E => a env (fun ss => ss.length = n ∧ sp ss R fun _ _ => False) E
theorem pu_callE {j k : Nat} {ps : List Str} {sp : Addr × Obj → PSp} {p : Addr × Obj} {x : Str} {q pos : Pos} {e : Expr} {es : List Expr} {pa : PTA} (D : KpE X.prog X.w X.K X.mg X.base c j x ps sp) (hr : L2H.RoomH k X.A) (hg : X.A.guards = some []) (hp : p ∈ X.pn) (ha : PuA X c W (e :: es) pa)
    (hjk : j ≤ k := by decide) (hgl : Gl X x := by rfl) (hdb : (x == ("__debug__" : Str)) = false := by decide) (he : starEach (e :: es) X.env = (false, eval e X.env) :: starEach es X.env := by rfl)
    (hpl : (backTo pos (starEach es X.env)).any (·.1) = false := by rfl) : PuE X c W (.Call (.Name x q) (e :: es) [] pos) (pCallE ps.length (sp p) pa) := by
  obtain ⟨ta, ha, ra⟩ := ha
  refine ⟨_, pcE D hr hg hp ha hjk hgl hdb he hpl, fun H0 F0 env F σ H R E Q J L hq fin => ?_⟩
  refine ra _ _ _ _ _ _ _ _ _ J L hq fun vs ss F1 H1 J1 k1 r1 h1 => ?_
  exact ⟨F1, ss, R, fun _ _ => False, J1.b.here, r1, h1.1, h1.2, fun v s F' H' B rv q => fin v s F' H' (J1.after B) (same_trans k1 B.fF) rv q, fun C d ds F' H' B x q => q⟩
end
/-- the exception classes of the package, in their order: names and fields -/
abbrev ClsTab := List (Str × List Str)
structure Tc (K : PySem.W.Frag) (mg : Str → Option Value) (S : Addr) (tab : ClsTab) (Cs : Nat → Addr) : Prop where
  xc : ∀ i, i < tab.length → XcF K (Cs i)
  kit : ∀ i j, i < tab.length → j < tab.length → PySem.W.kitOne K (.ref (Cs i)) (.ref (Cs j)) = some (decide (Cs i = Cs j))
  inj : ∀ i j, i < tab.length → j < tab.length → Cs i = Cs j → i = j
  ve : ∀ i, i < tab.length → PySem.W.kitOne K (.ref (Cs i)) (.type "ValueError") = some true
  sub : ∀ i, i < tab.length → PySem.W.exmOne K (.ref (Cs i)) (.ref S) = some true
  gS : mg "StepError" = some (.ref S)
  g : ∀ i x fs, tab[i]? = some (x, fs) → mg x = some (.ref (Cs i))
  nf : ∀ i x fs, tab[i]? = some (x, fs) → ∀ f ∈ fs, PySem.W.findIn K (.ref (Cs i)) f = some none
def okC (tab : ClsTab) (Cs : Nat → Addr) (C : Addr) : Prop := ∃ i, i < tab.length ∧ C = Cs i
def okF (tab : ClsTab) (Cs : Nat → Addr) (n : Str) (C : Addr) : Prop := ∃ i x fs, tab[i]? = some (x, fs) ∧ n ∈ fs ∧ C = Cs i
section
variable {X : Cx} {c : Cc} {W : WX} {S : Addr} {tab : ClsTab} {Cs : Nat → Addr} {p : Addr × Obj} {e : Expr} {pa : PTE}
theorem pu_isC {y : Str} {fs : List Str} {q q2 pos : Pos} (T : Tc X.K X.mg S tab Cs) (j : Nat) (hj : tab[j]? = some (y, fs)) (hp : p ∈ X.pn) (hm : X.mg "isinstance" = none) (ha : PuE X c W e pa)
    (hg : Gl X "isinstance" := by rfl) (hg2 : Gl X y := by rfl) (hd : (y == ("__debug__" : Str)) = false := by decide)
    (h1 : starEach [e, .Name y q2] X.env = (false, eval e X.env) :: starEach [.Name y q2] X.env := by rfl) (h2 : starEach [Expr.Name y q2] X.env = (false, eval (.Name y q2) X.env) :: starEach [] X.env := by rfl) (hpl : (backTo pos (starEach [Expr.Name y q2] X.env)).any (·.1) = false := by rfl) :
    PuE X c W (.Call (.Name "isinstance" q) [e, .Name y q2] [] pos) (pUn (uIsP p (okC tab Cs) fun C => decide (C = Cs j)) pa) :=
  pu_isP (x := y) (i := 0) (q3 := q) hp hm (T.g j y fs hj) (fun C hC => by
    obtain ⟨i, hi, rfl⟩ := hC
    exact ⟨T.xc i hi, T.kit i j hi (List.getElem?_eq_some_iff.mp hj).1⟩) ha hg hg2 hd h1 h2 hpl
theorem pu_fldC {pos : Pos} {n : Str} (T : Tc X.K X.mg S tab Cs) (hp : p ∈ X.pn) (ha : PuE X c W e pa) (hb : attributeBase e n X.env (eval e X.env) = eval e X.env := by rfl) : PuE X c W (.Attribute e n pos) (pUn (uFld p (okF tab Cs n) n) pa) :=
  pu_fld hp (fun C hC => by
    obtain ⟨i, x, fs, hi, hn, rfl⟩ := hC
    exact ⟨T.xc i (List.getElem?_eq_some_iff.mp hi).1, T.nf i x fs hi n hn⟩) ha hb
end
end Px
namespace Px
open PySem PySem.Spec PyProof.Rows L2 Lx
/-! ### the signs of what repr gives -/
def Sv (x : Str) : Prop := ∀ c ∈ x.cps.toList, c < 1114112
theorem Sv.app {x y : Str} (a : Sv x) (b : Sv y) : Sv (x ++ y) := fun c hc => by
  have e : (x ++ y).cps = x.cps ++ y.cps := rfl
  rw [e, Array.toList_append, List.mem_append] at hc
  exact hc.elim (a c) (b c)
theorem sv_of (s : String) : Sv (Str.ofString s) := fun c hc => by
  rw [Str.ofString_eq_toList] at hc
  simp only [List.mem_map] at hc
  obtain ⟨d, _, rfl⟩ := hc
  have := d.valid
  have h2 : d.toNat < 1114112 := by
    have h3 : d.val.toNat < 0xd800 ∨ (0xdfff < d.val.toNat ∧ d.val.toNat < 0x110000) := d.valid
    show d.val.toNat < 1114112
    omega
  exact h2
theorem sv_char {q c : Nat} (hq : q < 1114112) (hc : c < 1114112) : ∀ d ∈ Builtin.Str.reprChar q c, d < 1114112 := by
  have hex : ∀ w : Nat, ∀ d ∈ (List.replicate (w - ((Nat.toDigits 16 c).map Char.toNat).length) 48 ++ (Nat.toDigits 16 c).map Char.toNat), d < 1114112 := fun w d hd => by
    rcases List.mem_append.mp hd with h | h
    · rw [(List.mem_replicate.mp h).2]; decide
    · obtain ⟨e, _, rfl⟩ := List.mem_map.mp h
      have h3 : e.val.toNat < 0xd800 ∨ (0xdfff < e.val.toNat ∧ e.val.toNat < 0x110000) := e.valid
      have h2 : e.toNat < 1114112 := by show e.val.toNat < 1114112; omega
      exact h2
  intro d hd
  unfold Builtin.Str.reprChar at hd
  dsimp only at hd
  have two : ∀ (a b : Nat) (l : List Nat), a < 1114112 → b < 1114112 → (∀ z ∈ l, z < 1114112) → ∀ z ∈ [a, b] ++ l, z < 1114112 := fun a b l ha hb hl z hz => by
    simp only [List.cons_append, List.nil_append, List.mem_cons] at hz
    rcases hz with rfl | rfl | h
    · exact ha
    · exact hb
    · exact hl _ h
  repeat' split at hd
  · exact two 92 c [] (by decide) hc (by simp) d (by simpa using hd)
  · exact two 92 110 [] (by decide) (by decide) (by simp) d (by simpa using hd)
  · exact two 92 114 [] (by decide) (by decide) (by simp) d (by simpa using hd)
  · exact two 92 116 [] (by decide) (by decide) (by simp) d (by simpa using hd)
  · rw [List.mem_singleton.mp hd]; exact hc
  · exact two _ _ _ (by decide) (by decide) (hex 2) d hd
  · exact two _ _ _ (by decide) (by decide) (hex 4) d hd
  · exact two _ _ _ (by decide) (by decide) (hex 8) d hd
theorem sv_fold {q : Nat} (hq : q < 1114112) : ∀ (l : List Nat) (acc : Array Nat), (∀ c ∈ l, c < 1114112) → (∀ c ∈ acc.toList, c < 1114112) → ∀ d ∈ (l.foldl (fun out c => out ++ (Builtin.Str.reprChar q c).toArray) acc).toList, d < 1114112
  | [], acc, _, h => h
  | c :: r, acc, hl, h => sv_fold hq r _ (fun d hd => hl d (List.mem_cons_of_mem _ hd)) fun d hd => by
    rw [Array.toList_append, List.mem_append] at hd
    rcases hd with z | z
    · exact h d z
    · exact sv_char hq (hl c List.mem_cons_self) d (by simpa using z)
theorem sv_quote (x : Str) : reprQuote x < 1114112 := by
  unfold reprQuote
  split <;> decide
theorem sv_repr {x : Str} (h : Sv x) : Sv (reprText x) := fun c hc => by
  unfold reprText at hc
  rw [Array.toList_push, List.mem_append] at hc
  rcases hc with z | z
  · rw [← Array.foldl_toList] at z
    exact sv_fold (sv_quote x) x.cps.toList _ h (fun d hd => by
      have e : d = reprQuote x := by simpa using hd
      rw [e]; exact sv_quote x) c z
  · rw [List.mem_singleton.mp z]; exact sv_quote x
theorem sv_from : ∀ (ts : List Str) (k : Nat) (acc : Str), Sv acc → (∀ t ∈ ts, Sv t) → Sv (textFrom k acc ts)
  | [], _, acc, h, _ => h
  | t :: r, k, acc, h, ht => sv_from r (k + 1) _ ((h.app (sv_of _)).app (ht t List.mem_cons_self)) fun u hu => ht u (List.mem_cons_of_mem _ hu)
theorem sv_list {ts : List Str} (h : ∀ t ∈ ts, Sv t) : Sv (listText ts) := (sv_from ts 0 _ (sv_of "[") h).app (sv_of "]")
theorem sv_join : ∀ ts : List Str, (∀ t ∈ ts, Sv t) → Sv (Str.join ", " ts)
  | [], _ => fun c hc => by
    have : c ∈ ([] : List Nat) := hc
    cases this
  | [x], h => h x List.mem_cons_self
  | x :: y :: r, h => ((h x List.mem_cons_self).app (sv_of ", ")).app (sv_join (y :: r) fun u hu => h u (List.mem_cons_of_mem _ hu))
theorem sv_tuple {ts : List Str} (h : ∀ t ∈ ts, Sv t) : Sv (tupleText ts) := ((sv_of "(").app (sv_join ts h)).app (sv_of _)
theorem sv_dict {ts : List Str} (h : ∀ t ∈ ts, Sv t) : Sv (dictText ts) := ((sv_of "{").app (sv_join ts h)).app (sv_of "}")
mutual
/-- texts within have plain signs -/
def plainS : PyData → Bool
  | .str x => x.cps.all (· < 1114112)
  | .list xs => plainSs xs
  | .tuple xs => plainSs xs
  | .dict kvs => plainSk kvs
  | _ => true
def plainSs : List PyData → Bool
  | [] => true
  | x :: xs => plainS x && plainSs xs
def plainSk : List (PyData × PyData) → Bool
  | [] => true
  | (k, v) :: r => plainS k && plainS v && plainSk r
end
mutual
theorem sv_shown : ∀ d : PyData, plainS d = true → Sv d.shown
  | .none, _ => sv_of "None"
  | .bool b, _ => by cases b; exact sv_of "False"; exact sv_of "True"
  | .int i, _ => sv_of (toString i)
  | .str x, h => sv_repr fun c hc => by
    have h' : x.cps.all (· < 1114112) = true := by simpa only [plainS] using h
    rw [← Array.all_toList] at h'
    exact of_decide_eq_true (List.all_eq_true.mp h' c hc)
  | .list xs, h => sv_list (sv_shownAll xs (by simpa only [plainS] using h))
  | .tuple xs, h => sv_tuple (sv_shownAll xs (by simpa only [plainS] using h))
  | .dict kvs, h => sv_dict (sv_shownKv kvs (by simpa only [plainS] using h))
theorem sv_shownAll : ∀ xs : List PyData, plainSs xs = true → ∀ t ∈ PyData.shownAll xs, Sv t
  | [], _, t, ht => by simp [PyData.shownAll] at ht
  | x :: xs, h, t, ht => by
    have h' : plainS x = true ∧ plainSs xs = true := by simpa only [plainSs, Bool.and_eq_true] using h
    simp only [PyData.shownAll, List.mem_cons] at ht
    rcases ht with rfl | z
    · exact sv_shown x h'.1
    · exact sv_shownAll xs h'.2 t z
theorem sv_shownKv : ∀ xs : List (PyData × PyData), plainSk xs = true → ∀ t ∈ PyData.shownKv xs, Sv t
  | [], _, t, ht => by simp [PyData.shownKv] at ht
  | (k, v) :: xs, h, t, ht => by
    have h' : (plainS k = true ∧ plainS v = true) ∧ plainSk xs = true := by simpa only [plainSk, Bool.and_eq_true] using h
    simp only [PyData.shownKv, List.mem_cons] at ht
    rcases ht with rfl | z
    · exact ((sv_shown k h'.1.1).app (sv_of ": ")).app (sv_shown v h'.1.2)
    · exact sv_shownKv xs h'.2 t z
end
theorem strOk_of {x : Str} (h : Sv x) : PyData.strOk x = true := by
  unfold PyData.strOk
  rw [← Array.all_toList]
  exact List.all_eq_true.mpr fun c hc => decide_eq_true (h c hc)
theorem strOk_shown {d : PyData} (h : plainS d = true) : PyData.strOk d.shown = true := strOk_of (sv_shown d h)
end Px
namespace Px
open PySem PySem.Spec PyProof.Rows L2 Lx
/-! ### defs that make lambdas -/
/-- the def st stands under its name, its code object is at cd -/
def HasC (K : PySem.W.Frag) (mg : Str → Option Value) (x : Str) (st : Stmt) (cd : Addr) : Prop := ∃ f fd, Fun K x x st f fd ∧ mg x = some (.ref f) ∧ fd.code = .ref cd
section
variable {P : Program} {w : World} {K : PySem.W.Frag} {mg : Str → Option Value} {base : Heap} {x qual : Str} {st : Stmt} {N ps : List Str} {k : Nat} {c : Cc} {cd : Addr}
theorem HasC.has (F : HasC K mg x st cd) : Has K mg x st := let ⟨f, fd, a, b, _⟩ := F; ⟨f, fd, a, b⟩
/-- a def by its body, guards and code told -/
theorem okGC {CX : CXT} {f : Addr} {fd : FuncData} {sp : Sp} (F : Fun K x qual st f fd) (S : FnScope N ps (defScope st)) (len : ∀ vs H Q E, sp vs H Q E → vs.length = ps.length)
    (hbody : ∀ (A : Around) (outer : List Env) (s : Shared) (H : Hp) (vs : List V) (Q : VK) (E : XK), Room k (A.deeper (envOfC qual (defScope st) s.heap.objs.size f fd.code)) →
      (A.deeper (envOfC qual (defScope st) s.heap.objs.size f fd.code)).guards = some [] → sp vs H Q E →
      ∃ t, PSs (cxOf CX P w K mg base N qual (defScope st) f fd.code A outer s H E) (defBody st) t ∧ t { nx := fun _ H' => Q .non H', rt := Q } (L2.start N vs) H) : FnG P w K mg base CX (k + 1) f fd ps sp := by
  obtain ⟨oc, od, kV, doc, pm, an, cdv, ct, osl, rfl, lk, hcd⟩ := F.ex
  refine ⟨len, fun A outer s H args us vs Q E hr hgd e0 hb r hsp => ?_⟩
  have hl := len _ _ _ _ hsp
  have inK : K.In s.heap := e0.mod.kin.keeps fun b o e => (e0.bs b o e).1
  have kinds : ∀ y ∈ ps.zip us, (defScope st).names.lookup y.1 = some .local ∨ ((defScope st).names.lookup y.1 = some .cell ∧ ((cellsFrom (s.heap.objs.size + 1) (defScope st).names []).lookup y.1).isSome = true) := by
    rintro ⟨n, v⟩ hy
    rcases S.par n (List.of_mem_zip hy).1 with q | q
    · exact .inl q
    · exact .inr ⟨q, PySem.W.cellsFrom_some _ _ _ (.inl q)⟩
  refine codeAny_call_function hr.depth (inK _ _ lk) rfl S.co S.gen rfl (PySem.W.codeRec_of inK hcd) (hb _ _ _ _ (wpAny_newFunctionEnv_cells S.kind kinds fun env he s1 x => ?_))
  subst he
  refine ⟨(e0.mod.nolimit.keeps fun b o e => (e0.bs b o e).1).keeps x.toInCall.keep, codeAny_func ?_⟩
  obtain ⟨t, ht, hq⟩ := hbody A outer s H vs Q E (hr.deeper _) hgd hsp
  exact wpAny_mono (ht.run [] s1 (L2.start N vs) H _ (inv_start (CX := CX) (E := E) S hr.hd e0 hl r x) hq) (fun fl s' hs => by cases fl <;> exact fin_cr rfl rfl rfl rfl rfl rfl hs) fun e s' hs => hs
/-- keepP, the code told -/
theorem keepPC {sp : PSp} (F : HasC K mg x st cd) (b : BindsBy x st ps) (S : FnScope N ps (defScope st))
    (hbody : ∀ (f : Addr) (A : Around) (outer : List Env) (s : Shared) (H : Hp) (E : XK), Room k (A.deeper (envOfC x (defScope st) s.heap.objs.size f (.ref cd))) →
      (A.deeper (envOfC x (defScope st) s.heap.objs.size f (.ref cd))).guards = some [] →
      ∃ pt, PuSs (cxOf (L2.CX P w) P w K mg base N x (defScope st) f (.ref cd) A outer s H E) c (WF E) (defBody st) pt ∧ ∀ ss R EX, ss.length = ps.length → sp ss R EX → pt (pdOf R EX) (startP N ss)) :
    Kp P w K mg base c (k + 1) x ps sp := by
  obtain ⟨f, fd, F, hm, hc⟩ := F
  refine ⟨f, fd, okGC F S (fun vs H Q E h => ?_) (fun A outer s H vs Q E hr hg h => ?_), hm, F.kp, F.binds b⟩
  · obtain ⟨F, ss, R, EX, _, rs, hl, _⟩ := h
    rw [rs.len, hl]
  · rw [hc] at hr hg ⊢
    obtain ⟨G, ss, R, EX, B, rs, hl, hp, hq, he⟩ := h
    obtain ⟨pt, ⟨t, ht, hrd⟩, hpure⟩ := hbody f A outer s H E hr hg
    refine ⟨t, ht, hrd H G (startP N ss) G (L2.start N vs) H _ (pdOf R EX) (rel_start B rs N) ⟨?_, ?_, ?_, ?_, ?_⟩ (hpure ss R EX hl hp)⟩
    · exact fun env' F' σ' H' J _ q => hq .non (.d .none) F' H' J.b Rq.non q
    · exact fun v s F' H' B' rv q => hq v s F' H' B' rv q
    · exact fun env' F' σ' H' J _ q => q.elim
    · exact fun env' F' σ' H' J _ q => q.elim
    · exact fun env' F' σ' H' C d ds J x q => he C d ds F' H' J.b x q
end

/-! ### x(lambda: ..): what the call raises -/
abbrev Due := Addr → FD → PyData → Prop
/-- the lambda let an exception out -/
def FaultOut (c : Cc) (due : Due) (Q : VK) : XK := fun cls d H' => ∃ (C : Addr) (ds : FD) (r : PyData) (F' : Hp), cls = .ref C ∧ Bas c H' F' F' H' ∧ ExcD F' d ds ∧ due C ds r ∧ ∀ (v : V) (F'' H'' : Hp), Bas c H' F' F'' H'' → Rq F'' v r → Q v H''
def TTf (c : Cc) (due : Due) : (XK → Hp → VK → Prop) → Hp → VK → Prop := fun tl H Q => ∀ (E : XK) (Q' : VK), (∀ v H', Q .non H' → Q' v H') → (∀ cls d H', FaultOut c due Q cls d H' → E cls d H') → tl E H Q'
def pFault (due : Due) (pe : PTE) : PTE := fun env R E => pe (noOwn env) (fun _ => R (.d .none)) (fun _ C ds => ∃ r, due C ds r ∧ R (.d r))
structure LI where
  A : Around
  outer : List Env
  s : Shared
  H : Hp
  f : Addr
  c' : Addr
section
variable {X : Cx} {c : Cc} {W : WX}
theorem pu_fault {x a : Str} {st : Stmt} {Ng : List Str} {k : Nat} {due : Due} {cd P' : Addr} {params : Arguments} {body : Expr} {scope : Scope} {p lpos pos : Pos} {pe : PTE} (Fl : Has X.K X.mg x st) (b : BindsBy x st [a]) (S : FnScope Ng [a] (defScope st)) (hNg : Ng[0]? = some a) (hva : Vis (defScope st) a)
    (give : ∀ (g : Addr) (cdg : Value), LamX.GivesTo X Ng x (defScope st) g cdg (defBody st) a (X.env.qual ++ "<lambda>") (TTf c due)) (TB : LamX.TabB X.base X.mg cd P') (hcode : X.env.code = .ref cd) (hmT : (P', X.env.qual ++ "<lambda>") ∈ c.T) (hu : ∀ p ∈ c.T, p.1 = P' → p.2 = X.env.qual ++ "<lambda>")
    (hr : Room (k + 2) X.A) (L : LamX.LamS X.env.scope scope) (hbody : ∀ (A : Around) (outer : List Env) (s : Shared) (H : Hp) (E : XK) (f c' : Addr), Room k (A.deeper (LamX.lamEnv X scope s.heap.objs.size f c')) → PuE (LamX.lamCx X A outer s H E scope f c') c (WF E) body pe)
    (hgl : Gl X x := by rfl) (hdef : defaultsOf params X.env = ([], []) := by rfl)
    (hbind : ∀ (q : Str) (cl : List (Str × Addr)) (pm cv ctv : Value), bindArgs (PySem.W.kla_fn "<lambda>" q params body scope cl pm cv ctv) ⟨[], []⟩ = pure [] := by intros; rfl)
    (hdb : (x == ("__debug__" : Str)) = false := by decide) (hd : (a == ("__debug__" : Str)) = false := by decide) (hcd : (a == ("__classdict__" : Str)) = false := by decide) :
    PuE X c W (.Call (.Name x p) [.Lambda params body scope lpos] [] pos) (pFault due pe) := by
  obtain ⟨g, fd, F, hm⟩ := Fl
  obtain ⟨oc, od, kV, doc, pm, an, cdv, ct, osl, rfl, lk, hcg⟩ := F.ex
  have hl : ∀ E : XK, ∃ t, (∀ i : { i : LI // Room k (i.A.deeper (LamX.lamEnv X scope i.s.heap.objs.size i.f i.c')) }, PE (LamX.lamCx X i.1.A i.1.outer i.1.s i.1.H E scope i.1.f i.1.c') body t) ∧ Rd c (WF E) t pe := fun E =>
    unifE fun i => hbody i.1.A i.1.outer i.1.s i.1.H E i.1.f i.1.c' i.2
  refine ⟨_, LamX.pe_lamcall (t := fun E => (hl E).choose) hgl hm F.kp lk hcg (F.binds b) S hNg hva (give g cdv) TB hcode hmT hu hr L hdef hbind (fun A outer s H E f c' h2 => (hl E).choose_spec.1 ⟨⟨A, outer, s, H, f, c'⟩, h2⟩) hdb hd hcd, fun H0 F0 env F σ H R E Q J LK hp fin => ?_⟩
  refine ⟨J.b.tab, fun H1 e1 t1 E' Q' hQ hE => ?_⟩
  have J1 := J.extN e1 t1
  refine (hl E').choose_spec.2 H1 F (noOwn env) F σ H1 (fun _ => R (.d .none)) (fun _ C ds => ∃ r, due C ds r ∧ R (.d r)) Q' J1.inner (fun env' F' σ' H' C d ds J' x h => ?_) hp fun v s F' H' J' k' rv hR => ?_
  · obtain ⟨r, hd, hR⟩ := h
    exact hE (.ref C) d H' ⟨C, ds, r, F', rfl, J'.b.here, x, hd, fun v F'' H'' B rv => fin v (.d r) F'' H'' (J1.after (J'.b.after B)) (same_trans J'.b.fF B.fF) rv hR⟩
  · exact hQ v H' (fin .non (.d .none) F' H' (J1.after J'.b) J'.b.fF Rq.non hR)
end

/-! ### a def held in a name is called -/
/-- f(e, ..), f a local name that holds one of the defs that ok tells -/
def pCallR (i n : Nat) (ok : Addr → Prop) (sp : PSp) (a : PTA) : PTE := fun env R E => (∃ f, nth env i = some (.raw (.ref f)) ∧ ok f) ∧ a env (fun ss => ss.length = n ∧ sp ss R (E env)) E
section
variable {X : Cx} {c : Cc} {W : WX}
def tCallRaw (i : Nat) (ok : Addr → Prop) (sp : Sp) (E : St → XK) (t : TA) : TE := fun σ H Q => ∃ f, σ[i]? = some (some (.ref f)) ∧ ok f ∧ t σ H fun vs H1 => sp vs H1 Q (E σ)
theorem pe_callRaw {k i : Nat} {ok : Addr → Prop} {sp : Sp} {E : St → XK} {x : Str} {e : Expr} {es : List Expr} {t : TA} {p pos : Pos} (hf : ∀ f, ok f → (∃ fd ps, FnOk X.prog X.w X.K X.mg X.base (L2.CX X.prog X.w) k f fd ps sp ∧ Binds X.K fd ps []) ∧ PySem.W.keepIn X.K (.ref f) = true) (hr : Room k X.A) (hx : ∀ σ, PassesAt (L2.CX X.prog X.w) X σ (E σ)) (hN : X.N[i]? = some x) (hv : Vis X.env.scope x) (ha : PA X (e :: es) t)
    (hd : (x == ("__debug__" : Str)) = false := by decide) (hcd : (x == ("__classdict__" : Str)) = false := by decide)
    (he : starEach (e :: es) X.env = (false, eval e X.env) :: starEach es X.env := by rfl) (hpl : (backTo pos (starEach es X.env)).any (·.1) = false := by rfl) : PE X (.Call (.Name x p) (e :: es) [] pos) (tCallRaw i ok sp E t) := by
  refine ⟨fun pins s σ H Q I h => ?_⟩
  obtain ⟨f, hs, hok, h⟩ := h
  obtain ⟨⟨fd, ps, F, hb⟩, hk⟩ := hf f hok
  refine wpAny_Call_Name_kw (thn ((pe_var (pos := p) (i := i) hN hv hd hcd).run pins s σ H (fun v H1 => v = .ref f ∧ H1 = H) I ⟨.ref f, hs, rfl, rfl⟩) fun u s1 z => ?_)
  obtain ⟨v, H1, I1, r1, ev, eH⟩ := z
  subst ev
  rw [eH] at I1
  cases r1
  exact PySem.W.callWith_K (h₀ := X.base) I.ok.mod.kin hk (thn (ha.run pos pins s1 σ H _ I1 h) fun us s2 ⟨vs, H2, I2, r, q⟩ => ⟨I2.kIn, run_fnS F hr hb (hx σ) I2 r q⟩) he hpl
theorem pu_callR {k i n : Nat} {ok : Addr → Prop} {sp : PSp} {x : Str} {e : Expr} {es : List Expr} {pa : PTA} {p pos : Pos} (hf : ∀ f, ok f → (∃ fd ps, FnOk X.prog X.w X.K X.mg X.base (L2.CX X.prog X.w) k f fd ps (lift c n sp) ∧ Binds X.K fd ps []) ∧ PySem.W.keepIn X.K (.ref f) = true) (hr : Room k X.A) (tk : Takes X W) (ha : PuA X c W (e :: es) pa)
    (hN : X.N[i]? = some x := by rfl) (hv : Vis X.env.scope x := by first | exact Or.inl rfl | exact Or.inr (Or.inl rfl) | exact Or.inr (Or.inr rfl)) (hd : (x == ("__debug__" : Str)) = false := by decide) (hcd : (x == ("__classdict__" : Str)) = false := by decide)
    (he : starEach (e :: es) X.env = (false, eval e X.env) :: starEach es X.env := by rfl) (hpl : (backTo pos (starEach es X.env)).any (·.1) = false := by rfl) : PuE X c W (.Call (.Name x p) (e :: es) [] pos) (pCallR i n ok sp pa) := by
  obtain ⟨ta, ha, ra⟩ := ha
  refine ⟨_, pe_callRaw hf hr (fun σ => passAt tk σ) hN hv ha hd hcd he hpl, fun H0 F0 env F σ H R E Q J L hp fin => ?_⟩
  obtain ⟨⟨f, hn, hok⟩, h⟩ := hp
  obtain ⟨ov, e1, e2⟩ := J.get (nth_eq _ _ hn)
  have e2 : ov = some (.ref f) := e2
  exact ⟨f, by rw [e1, e2], hok, rd_call ra _ _ _ _ _ _ _ _ _ J L h fin⟩
end

/-! ### a loop over a tuple of whatever -/
structure WalkS (c : Cc) (J : It) (F : Hp) (ds : List Sl) : Prop where
  stop : ∀ (H0 F0 : Hp) (env : Ev) (F' : Hp) (σ : St) (H : Hp), Rel c H0 F0 env F' σ H → Same F F' → J.stop ds.length H
  go : ∀ (H0 F0 : Hp) (env : Ev) (F' : Hp) (σ : St) (H : Hp) (i : Nat) (d : Sl), Rel c H0 F0 env F' σ H → Same F F' → ds[i]? = some d → J.go i H ∧ ∀ (x : V) (H3 : Hp), J.yld i H x H3 → ∃ F3, Rel c H0 F0 env F3 σ H3 ∧ Same F' F3 ∧ RelS F3 x d
abbrev PTIs := Ev → (List Sl → Prop) → XP → Prop
def RdIs (c : Cc) (W : WX) (wi : TI) (pi : PTIs) : Prop := ∀ (H0 F0 : Hp) (env : Ev) (F : Hp) (σ : St) (H : Hp) (R : List Sl → Prop) (E : XP) (Q : It → Hp → Prop), Rel c H0 F0 env F σ H → LinkX c H0 F0 W E → pi env R E →
  (∀ (J : It) (F' H' : Hp) (ds : List Sl), Rel c H0 F0 env F' σ H' → Same F F' → WalkS c J F' ds → R ds → Q J H') → wi σ H Q
def PuIs (X : Cx) (c : Cc) (W : WX) (tg iter : Expr) (pi : PTIs) : Prop := ∃ wi, PI X tg iter wi ∧ RdIs c W wi pi
def pForS (g : PTG) (body : PTS) : List Sl → PD → Ev → Prop
  | [], P, env => P.nx env
  | d :: l, P, env => g d env fun env' => body { P with nx := pForS g body l P, ct := pForS g body l P, bk := P.nx } env'
def psForS (it : PTIs) (g : PTG) (body : PTS) : PTS := fun P env => it env (fun ds => pForS g body ds P env) P.ex
def iTupS (a : PTA) : PTIs := fun env R E => a env (fun ss => ss.length ≤ 1000 ∧ R ss) E
section
variable {X : Cx} {c : Cc} {W : WX}
theorem pus_forS {tg iter : Expr} {body : List Stmt} {pos : Pos} {pi : PTIs} {pg : PTG} {is : List Nat} {pb : PTS} (hp : PassesOwn (model X.prog X.w) X.A X.env X.xe) (hc : X.calm = true) (hi : PuIs X c W tg iter pi) (hg : PuG X c tg pg is) (hb : PuSs X c W body pb)
    (hs : ∀ x, foldedSetIterable iter X.env x = pure x := by intro _; rfl) : PuS X c W (.For tg iter body [] pos) (psForS pi pg pb) := by
  obtain ⟨wi, hi, ri⟩ := hi
  obtain ⟨g, hg, rg⟩ := hg
  obtain ⟨tb, hb, rb⟩ := hb
  refine ⟨_, ps_for hp hc hi hg hb hs, fun H0 F0 env F σ H D P J L h => ri _ _ _ _ _ _ _ _ _ J L.ex h fun I F1 H1 ds J1 k1 wk h1 => ?_⟩
  refine ⟨fun i m σ H => i + m = ds.length ∧ ∃ env' F', Rel c H0 F0 env' F' σ H ∧ Same F1 F' ∧ pForS pg pb (ds.drop i) P env', ⟨ds.length, by omega, env, F1, J1, same_refl F1, by simpa using h1⟩, fun i m σ2 H2 hW => ?_⟩
  obtain ⟨hm, env2, F2, J2, k2, h2⟩ := hW
  cases m with
  | zero =>
    obtain rfl : i = ds.length := by omega
    rw [List.drop_length] at h2
    exact .inl ⟨wk.stop _ _ _ _ _ _ J2 k2, L.nx env2 F2 σ2 H2 J2 (same_trans k1 k2) h2⟩
  | succ m =>
    have hi : i < ds.length := by omega
    rw [show ds.drop i = ds[i] :: ds.drop (i + 1) from List.drop_eq_getElem_cons hi] at h2
    obtain ⟨go, yl⟩ := wk.go _ _ _ _ _ _ i ds[i] J2 k2 (List.getElem?_eq_getElem hi)
    refine .inr ⟨go, fun σ' H' => ∃ env' F', Rel c H0 F0 env' F' σ' H' ∧ Same F1 F' ∧ pForS pg pb (ds.drop (i + 1)) P env', fun σ' H' z => ⟨m, by omega, by omega, z⟩, fun x H3 hy => ?_⟩
    obtain ⟨F3, J3, k3, r3⟩ := yl x H3 hy
    refine rg _ _ _ _ _ _ _ ds[i] _ _ J3 r3 h2 fun env4 σ4 J4 _ _ h4 => ?_
    have up : ∀ {G : Hp}, Same F3 G → Same F1 G := fun k' => same_trans k2 (same_trans k3 k')
    exact rb _ _ _ _ _ _ _ { P with nx := pForS pg pb (ds.drop (i + 1)) P, ct := pForS pg pb (ds.drop (i + 1)) P, bk := P.nx } J4
      ⟨fun e G s h J' k' q => ⟨e, G, J', up k', q⟩, L.rt, fun e G s h J' k' q => L.nx e G s h J' (same_trans k1 (up k')) q, fun e G s h J' k' q => ⟨e, G, J', up k', q⟩, L.ex⟩ h4
theorem pui_tupS {tg : Expr} {es : List Expr} {k : Nat} {pos : Pos} {pa : PTA} (ha : PuA X c W es pa) : PuIs X c W tg (.Tuple es k pos) (iTupS pa) := by
  obtain ⟨ta, ha, ra⟩ := ha
  refine ⟨_, pi_seq (pe_tup ha), fun H0 F0 env F σ H R E Q J L hp fin => ra _ _ _ _ _ _ _ _ _ J L hp fun vs ss F1 H1 J1 k1 r1 h1 => ?_⟩
  refine ⟨by rw [r1.len]; exact Nat.le_trans h1.1 (by decide), fun p hp => ?_⟩
  have k2 : Same F1 (upd F1 p (.tup vs)) := same_upd (J1.b.fnone hp)
  refine ⟨p, rfl, .inr ⟨⟨vs, sqT upd_same⟩, fin _ (upd F1 p (.tup vs)) _ ss (J1.alloc hp _) (same_trans k1 k2) ⟨?_, ?_⟩ h1.2⟩⟩
  · exact fun H0 F0 env F' σ H J k => ⟨vs, sqT (J.b.sub _ _ (k _ _ upd_same)), by rw [r1.len]; exact Nat.le_refl _⟩
  · refine fun H0 F0 env F' σ H i d J k h => ?_
    obtain ⟨v, e1, rv⟩ := r1.get h
    have q : SqT X.K H p vs := sqT (J.b.sub _ _ (k _ _ upd_same))
    refine ⟨⟨vs, v, q, e1⟩, fun x H3 y => ?_⟩
    obtain ⟨y1, y2⟩ := y
    subst y1
    have z := y2 vs q
    rw [e1] at z
    cases z
    exact ⟨F', J, same_refl _, rv.same (same_trans k2 k)⟩
end

/-! ### isinstance(e, ValueError) of the caught exception -/
section
variable {X : Cx} {c : Cc} {W : WX}
theorem pu_isVE {p : Addr × Obj} {ok : Addr → Prop} {q q2 pos : Pos} {pa : PTE} {e : Expr} (hp : p ∈ X.pn) (hm : X.mg "isinstance" = none) (hv : X.mg "ValueError" = none) (hok : ∀ C, ok C → XcF X.K C ∧ PySem.W.kitOne X.K (.ref C) (.type "ValueError") = some true) (ha : PuE X c W e pa)
    (hg : Gl X "isinstance" := by rfl) (hg2 : Gl X "ValueError" := by rfl)
    (h1 : starEach [e, .Name "ValueError" q2] X.env = (false, eval e X.env) :: starEach [.Name "ValueError" q2] X.env := by rfl) (h2 : starEach [Expr.Name "ValueError" q2] X.env = (false, eval (.Name "ValueError" q2) X.env) :: starEach [] X.env := by rfl) (hpl : (backTo pos (starEach [Expr.Name "ValueError" q2] X.env)).any (·.1) = false := by rfl) :
    PuE X c W (.Call (.Name "isinstance" q) [e, .Name "ValueError" q2] [] pos) (pUn (uIsP p ok fun _ => true) pa) := by
  obtain ⟨ta, ha, ra⟩ := ha
  refine ⟨_, pe_callB (call_isP hp) hg hm (by decide +kernel) (pa_cons ha (pa_cons (pe_bltn (v := .ty "ValueError") (u := .type "ValueError") hg2 hv PyProof.Rows.Boot.«ValueError» rfl) pa_nil h2) h1) (by decide) (by decide) h1 hpl, fun H0 F0 env F σ H R E Q J L hq fin => ra _ _ _ _ _ _ _ _ _ J L hq fun v s F1 H1 J1 k1 r1 q1 => ?_⟩
  cases s with
  | exc p' C ds =>
    obtain ⟨rfl, hC1, q1⟩ := q1
    obtain ⟨rfl, ex⟩ := r1
    obtain ⟨fs, he, _, _⟩ := ex.at J1.b.sub
    obtain ⟨xf, kt⟩ := hok C hC1
    exact rr_isP he xf kt (fun _ h => h) (fin _ (.d _) F1 H1 J1 k1 (Rq.bl _) q1)
  | _ => exact q1.elim
end
/-! ### contracts made weaker -/
section
variable {P : Program} {w : World} {K : PySem.W.Frag} {mg : Str → Option Value} {base : Heap} {k : Nat} {f : Addr} {fd : FuncData} {ps : List Str} {x : Str} {c : Cc} {sp sp' : PSp}
theorem lift_imp {n : Nat} (h : ∀ ss R EX, sp' ss R EX → sp ss R EX) {vs : List V} {H : Hp} {Q : VK} {E : XK} (q : lift c n sp' vs H Q E) : lift c n sp vs H Q E :=
  let ⟨F, ss, R, EX, B, rs, hl, hp, r⟩ := q; ⟨F, ss, R, EX, B, rs, hl, h _ _ _ hp, r⟩
theorem KpO.imp (D : KpO P w K mg base c k x ps sp) (h : ∀ ss R EX, sp' ss R EX → sp ss R EX) : KpO P w K mg base c k x ps sp' := by
  obtain ⟨f, fd, F, r⟩ := D.ex
  exact ⟨f, fd, ⟨fun vs H Q E q => F.len vs H Q E (lift_imp h q), fun A outer s H args us vs Q E hr e0 hb r q => F.run A outer s H args us vs Q E hr e0 hb r (lift_imp h q)⟩, r⟩
theorem KpO.mono {j : Nat} (D : KpO P w K mg base c j x ps sp) (h : j ≤ k) : KpO P w K mg base c k x ps sp := by
  obtain ⟨f, fd, F, r⟩ := D.ex
  exact ⟨f, fd, ⟨F.len, fun A outer s H args us vs Q E hr e0 hb r q => F.run A outer s H args us vs Q E (hr.mono h) e0 hb r q⟩, r⟩
end
end Px
namespace Px
open PySem PySem.Spec PyProof.Rows L2 Lx
/-! ### ratios as data -/
def ratD (q : Rat) : PyData := if q.den = 1 then .int q.num else .tuple [.int q.num, .int (q.den : Nat)]
/-- what the code divides by -/
def byOf (a b : Int) : Int := if 0 < b then ((Nat.gcd a.natAbs b.natAbs : Nat) : Int) else -((Nat.gcd a.natAbs b.natAbs : Nat) : Int)
theorem gcd_pos {a b : Int} (hb : b ≠ 0) : 0 < Nat.gcd a.natAbs b.natAbs := Nat.gcd_pos_of_pos_right _ (by omega)
theorem byOf_ne {a b : Int} (hb : b ≠ 0) : byOf a b ≠ 0 := by
  have := gcd_pos (a := a) hb
  unfold byOf
  split <;> omega
theorem byOf_abs {a b : Int} : (byOf a b).natAbs = Nat.gcd a.natAbs b.natAbs := by
  unfold byOf
  split <;> omega
theorem fdiv_ex {k d : Int} (hd : d ≠ 0) : (k * d).fdiv d = k := Int.mul_fdiv_cancel k hd
theorem low_num {a b : Int} (hb : b ≠ 0) : a.fdiv (byOf a b) = (Rat.divInt a b).num := by
  have hg := gcd_pos (a := a) hb
  rw [Rat.num_divInt]
  have e : (b.gcd a : Nat) = Nat.gcd a.natAbs b.natAbs := by rw [Nat.gcd_comm]; rfl
  rw [e]
  obtain ⟨k, hk⟩ : ((Nat.gcd a.natAbs b.natAbs : Nat) : Int) ∣ a := Int.ofNat_dvd_left.mpr (Nat.gcd_dvd_left _ _)
  generalize hG : ((Nat.gcd a.natAbs b.natAbs : Nat) : Int) = g at hk
  have hg' : 0 < g := by omega
  unfold byOf
  rw [hG]
  by_cases h0 : 0 < b
  · rw [if_pos h0, Int.sign_eq_one_of_pos h0, Int.one_mul]
    rw [hk, Int.mul_comm g k, fdiv_ex (by omega), Int.mul_ediv_cancel k (by omega)]
  · rw [if_neg h0, Int.sign_eq_neg_one_of_neg (by omega)]
    rw [hk, show g * k = (-k) * (-g) by rw [Int.neg_mul_neg, Int.mul_comm], fdiv_ex (by omega), show -1 * (-k * -g) = (-k) * g by rw [Int.neg_mul_neg]; rw [Int.neg_mul, Int.neg_mul, Int.one_mul], Int.mul_ediv_cancel (-k) (by omega)]
theorem low_den {a b : Int} (hb : b ≠ 0) : b.fdiv (byOf a b) = ((Rat.divInt a b).den : Nat) := by
  have hg := gcd_pos (a := a) hb
  rw [Rat.den_divInt, if_neg hb]
  have e : (b.gcd a : Nat) = Nat.gcd a.natAbs b.natAbs := by rw [Nat.gcd_comm]; rfl
  rw [e]
  obtain ⟨k, hk⟩ : Nat.gcd a.natAbs b.natAbs ∣ b.natAbs := Nat.gcd_dvd_right _ _
  generalize hG : Nat.gcd a.natAbs b.natAbs = g at hk hg
  rw [hk, Nat.mul_div_cancel_left k hg]
  unfold byOf
  rw [hG]
  by_cases h0 : 0 < b
  · rw [if_pos h0]
    have eb : b = (k : Int) * (g : Int) := by
      have : (b.natAbs : Int) = ((g * k : Nat) : Int) := by rw [hk]
      rw [Int.natAbs_of_nonneg (by omega)] at this
      rw [this, Int.natCast_mul, Int.mul_comm]
    rw [eb, fdiv_ex (by omega)]
  · rw [if_neg h0]
    have eb : b = (k : Int) * (-(g : Int)) := by
      have : (b.natAbs : Int) = ((g * k : Nat) : Int) := by rw [hk]
      rw [Int.ofNat_natAbs_of_nonpos (by omega)] at this
      rw [Int.mul_neg, ← Int.natCast_mul, Nat.mul_comm, ← this]
      omega
    rw [eb, fdiv_ex (by omega)]
theorem low_one {a b : Int} (hb : b ≠ 0) : b = byOf a b ↔ (Rat.divInt a b).den = 1 := by
  have h := low_den (a := a) hb
  have hn := byOf_ne (a := a) hb
  constructor
  · intro e
    rw [← e] at h
    have : b.fdiv b = 1 := by
      have := fdiv_ex (k := 1) hb
      rwa [Int.one_mul] at this
    rw [this] at h
    omega
  · intro e
    rw [e] at h
    -- by divides b
    have hd : byOf a b ∣ b := by
      have : ((byOf a b).natAbs : Nat) ∣ b.natAbs := by rw [byOf_abs]; exact Nat.gcd_dvd_right _ _
      exact Int.natAbs_dvd_natAbs.mp this
    obtain ⟨k, hk⟩ := hd
    have h2 : b.fdiv (byOf a b) = k := by
      conv => lhs; arg 1; rw [hk]
      rw [Int.mul_comm, fdiv_ex hn]
    rw [h2] at h
    rw [h] at hk
    simpa using hk
theorem low_ratD {a b : Int} (hb : b ≠ 0) : ratD (Rat.divInt a b) = if b = byOf a b then .int (a.fdiv (byOf a b)) else .tuple [.int (a.fdiv (byOf a b)), .int (b.fdiv (byOf a b))] := by
  unfold ratD
  rw [low_num hb, low_den hb]
  by_cases h : (Rat.divInt a b).den = 1
  · rw [if_pos h, if_pos ((low_one hb).mpr h)]
  · rw [if_neg h, if_neg fun z => h ((low_one hb).mp z)]
/-- top and bottom of what stands for a ratio -/
def topD : PyData → Int
  | .int i => i
  | .tuple [.int a, _] => a
  | _ => 0
def botD : PyData → Int
  | .tuple [_, .int b] => b
  | _ => 1
theorem topD_rat (q : Rat) : topD (ratD q) = q.num := by
  unfold ratD
  split <;> rfl
theorem botD_rat (q : Rat) : botD (ratD q) = (q.den : Nat) := by
  unfold ratD
  split
  · rename_i h
    rw [h]; rfl
  · rfl
def isIntD : PyData → Bool
  | .int _ => true
  | _ => false
def isRat : PyData → Bool
  | .tuple [.int a, .int b] => decide (1 < b) && (Nat.gcd a.natAbs b.natAbs == 1)
  | .int _ => true
  | _ => false
theorem isRat_rat (q : Rat) : isRat (ratD q) = true := by
  unfold ratD
  split
  · rfl
  · rename_i h
    have h0 := q.den_nz
    have h1 : (1 : Int) < (q.den : Nat) := by omega
    have h2 : Nat.gcd q.num.natAbs q.den = 1 := q.reduced
    simp only [isRat, Int.natAbs_natCast, h2]
    simp [h1]
theorem rat_of {d : PyData} (h : isRat d = true) : ∃ q : Rat, d = ratD q := by
  unfold isRat at h
  split at h
  · rename_i a b
    simp only [Bool.and_eq_true, decide_eq_true_eq, beq_iff_eq] at h
    have hb : ((b.natAbs : Nat) : Int) = b := Int.natAbs_of_nonneg (by omega)
    refine ⟨⟨a, b.natAbs, by omega, h.2⟩, ?_⟩
    unfold ratD
    rw [if_neg (by show b.natAbs ≠ 1; omega)]
    show PyData.tuple [.int a, .int b] = .tuple [.int a, .int ((b.natAbs : Nat) : Int)]
    rw [hb]
  · rename_i i
    exact ⟨⟨i, 1, by decide, by simp [Nat.Coprime]⟩, rfl⟩
  · cases h
theorem divInt_add (p q : Rat) : Rat.divInt (p.num * (q.den : Nat) + q.num * (p.den : Nat)) ((p.den : Nat) * (q.den : Nat)) = p + q := by
  have h1 : ((p.den : Nat) : Int) ≠ 0 := by have := p.den_nz; omega
  have h2 : ((q.den : Nat) : Int) ≠ 0 := by have := q.den_nz; omega
  rw [← Rat.divInt_add_divInt _ _ h1 h2, Rat.num_divInt_den, Rat.num_divInt_den]
theorem divInt_mul (p q : Rat) : Rat.divInt (p.num * q.num) ((p.den : Nat) * (q.den : Nat)) = p * q := by
  rw [← Rat.divInt_mul_divInt, Rat.num_divInt_den, Rat.num_divInt_den]
theorem divInt_cross {a b c d : Int} (hb : b ≠ 0) (hd : d ≠ 0) (h : a * d = c * b) : Rat.divInt a b = Rat.divInt c d := by
  rw [← Rat.divInt_mul_right hd, h, Int.mul_comm b d, Rat.divInt_mul_right hb]
end Px
namespace Px
open PySem PySem.Spec PyProof.Rows L2 Lx
theorem at_0 {α : Type} {a : α} {l : List α} : atI (a :: l) 0 = some a := by
  have := atI_nat (xs := a :: l) (j := 0) (v := a) rfl
  exact this
theorem at_1 {α : Type} {a b : α} {l : List α} : atI (a :: b :: l) 1 = some b := by
  have := atI_nat (xs := a :: b :: l) (j := 1) (v := b) rfl
  exact this
theorem okE_int (a : Int) : okE (.int a) = true := rfl
theorem okE_bool (a : Bool) : okE (.bool a) = true := rfl
theorem okE_none : okE .none = true := rfl
theorem eqv_int (a b : Int) : PyData.eqv (.int a) (.int b) = (a == b) := by simp [PyData.eqv]
theorem eqv_ti (l : List PyData) (b : Int) : PyData.eqv (.tuple l) (.int b) = false := by simp [PyData.eqv]
theorem eqv_rat0 (q : Rat) : PyData.eqv (ratD q) (.int 0) = decide (q.num = 0) := by
  unfold ratD
  split
  · rw [eqv_int]; rfl
  · rename_i h
    rw [eqv_ti]
    have : q.num ≠ 0 := fun z => h (by
      have hr := q.reduced
      rw [z] at hr
      simpa [Nat.Coprime] using hr)
    simp [this]
theorem rat0 {q : Rat} (z : q.num = 0) : ratD q = .int 0 := by
  have hr := q.reduced
  rw [z] at hr
  have : q.den = 1 := by simpa [Nat.Coprime] using hr
  unfold ratD
  rw [if_pos this, z]
theorem okE_rat (q : Rat) : okE (ratD q) = true := by unfold ratD; split <;> rfl
theorem ratD_or (q : Rat) : (∃ i, ratD q = .int i ∧ q.num = i ∧ q.den = 1) ∨ ∃ a b, ratD q = .tuple [.int a, .int b] ∧ q.num = a ∧ (q.den : Int) = b ∧ q.den ≠ 1 := by
  unfold ratD
  split
  · rename_i h; exact .inl ⟨_, rfl, rfl, h⟩
  · rename_i h; exact .inr ⟨_, _, rfl, rfl, rfl, h⟩
theorem ratD_int (i : Int) : ratD (Rat.divInt i 1) = .int i := by
  have h := low_ratD (a := i) (b := 1) (by decide)
  have e : byOf i 1 = 1 := by
    unfold byOf
    rw [if_pos (by decide)]
    simp
  rw [h, e, if_pos rfl]
  have := fdiv_ex (k := i) (d := 1) (by decide)
  rw [Int.mul_one] at this
  rw [this]
theorem ratD_neg (q : Rat) : ratD (-q) = if q.den = 1 then .int (-q.num) else .tuple [.int (-q.num), .int (q.den : Nat)] := rfl
theorem isTy_int_int (i : Int) : isTy "int" (.int i) = true := by simp [isTy, tyN]
theorem isTy_int_tup (l : List PyData) : isTy "int" (.tuple l) = false := by simp [isTy, tyN]
theorem isTy_tup_tup (l : List PyData) : isTy "tuple" (.tuple l) = true := by simp [isTy, tyN]
theorem isTy_tup_int (i : Int) : isTy "tuple" (.int i) = false := by simp [isTy, tyN]
theorem isTy_bool_int (i : Int) : isTy "bool" (.int i) = false := by simp [isTy, tyN]
theorem den_ne (q : Rat) : ((q.den : Nat) : Int) ≠ 0 := by have := q.den_nz; omega
theorem den_pos (q : Rat) : (0 : Int) < ((q.den : Nat) : Int) := by have := q.den_nz; omega
/-- both ways of a case -/
theorem two_b {b : Bool} {A B : Prop} (h1 : b = true → A) (h2 : b = false → B) : (b = true → A) ∧ (b = false → B) := ⟨h1, h2⟩
theorem yes_b {A B : Prop} (h : A) : (true = true → A) ∧ (true = false → B) := ⟨fun _ => h, (fun z => nomatch z)⟩
theorem no_b {A B : Prop} (h : B) : (false = true → A) ∧ (false = false → B) := ⟨(fun z => nomatch z), fun _ => h⟩
def Br (n : Nat) (q : Rat) : Prop := Bn n q.num ∧ Bn n (q.den : Nat)
theorem cm {a b : Nat} {i j : Int} (h1 : Bn a i) (h2 : Bn b j) (h : a + b ≤ 100000000 := by decide) : CMulP i j := ⟨a, b, h1, h2, h⟩
theorem bn_mul {a b n : Nat} {i j : Int} (h1 : Bn a i) (h2 : Bn b j) (h : a + b ≤ n := by decide) : Bn n (i * j) := Nat.lt_of_lt_of_le (wide_lt h1 h2) (Nat.pow_le_pow_right (by decide) h)
theorem bn_add {a b n : Nat} {i j : Int} (h1 : Bn a i) (h2 : Bn b j) (ha : a < n := by decide) (hb : b < n := by decide) : Bn n (i + j) := by
  unfold Bn at *
  have e1 : 2 ^ a ≤ 2 ^ (n - 1) := Nat.pow_le_pow_right (by decide) (by omega)
  have e2 : 2 ^ b ≤ 2 ^ (n - 1) := Nat.pow_le_pow_right (by decide) (by omega)
  have e3 : 2 ^ n = 2 ^ (n - 1) + 2 ^ (n - 1) := by
    rw [← Nat.two_mul, ← Nat.pow_succ']
    congr 1
    omega
  have := Int.natAbs_add_le i j
  omega
theorem bn_mono {a n : Nat} {i : Int} (h1 : Bn a i) (h : a ≤ n := by decide) : Bn n i := Nat.lt_of_lt_of_le h1 (Nat.pow_le_pow_right (by decide) h)
theorem bn_neg {a : Nat} {i : Int} (h1 : Bn a i) : Bn a (-i) := by unfold Bn at *; omega
theorem bn_by {a b : Int} (hb : b ≠ 0) (h : Bn 9000 b) : Bn 9000 (byOf a b) := by
  unfold Bn at *
  rw [byOf_abs]
  exact Nat.lt_of_le_of_lt (Nat.le_of_dvd (by omega) (Nat.gcd_dvd_right _ _)) h
theorem cdiv {a b : Int} (hb : b ≠ 0) (h : Bn 9000 b) (i : Int) : CDivZ i (byOf a b) := ⟨byOf_ne hb, 9000, bn_by hb h, Nat.le_refl _⟩
end Px
namespace Px
open PySem PySem.Spec PyProof.Rows L2 Lx
/-! ### the source of draws, to the bit -/
def spDrawX : Sp := fun vs H Q _ => ∃ (p : Addr) (m : Int) (l : Addr) (ns : List Int) (a d k f : Int), vs = [.ref p, .int m] ∧ PenAt H p l ns a d k f ∧ 0 < m ∧ m < 1073741824 ∧
  ∀ (r a' d' k' f' : Int), 0 ≤ r → r < m → 0 ≤ a' → 0 ≤ d' → 0 ≤ k' → 0 ≤ f' → f' < 2147483648 → Q (.int r) (upd H p (.dK (penL l a' d' k' f')))
def spDrawP (c : Cc) : PSp := fun ss R _ => ∃ m : Int, ss = [.raw (.ref c.p), .d (.int m)] ∧ 0 < m ∧ m < 1073741824 ∧ ∀ r : Int, 0 ≤ r → r < m → R (.d (.int r))
section
variable {P : Program} {w : World} {K : PySem.W.Frag} {mg : Str → Option Value} {base : Heap} {k : Nat} {f : Addr} {fd : FuncData} {ps : List Str} {sp sp' : Sp} {x : Str} {c : Cc}
theorem FnG.toX (F : FnG P w K mg base CX0 k f fd ps sp) : FnG P w K mg base (L2.CX P w) k f fd ps sp :=
  ⟨F.len, fun A outer s H args us vs Q E hr hg e0 hb r h => codeAny_mono (F.run A outer s H args us vs Q E hr hg e0 hb r h) fun r s' q => by
    cases r with
    | error e => exact False.elim q
    | ok fl => cases fl <;> exact q⟩
theorem FnG.imp {CX : CXT} (F : FnG P w K mg base CX k f fd ps sp) (h : ∀ vs H Q E, sp' vs H Q E → sp vs H Q E) : FnG P w K mg base CX k f fd ps sp' :=
  ⟨fun vs H Q E q => F.len vs H Q E (h _ _ _ _ q), fun A outer s H args us vs Q E hr hg e0 hb r q => F.run A outer s H args us vs Q E hr hg e0 hb r (h _ _ _ _ q)⟩
theorem keeps_x (D : Keeps P w K mg base CX0 k x ps sp) (h : ∀ vs H Q E, sp' vs H Q E → sp vs H Q E) : Keeps P w K mg base (L2.CX P w) k x ps sp' := by
  obtain ⟨f, fd, F, r⟩ := D.ex
  exact ⟨f, fd, Px.FnG.imp (Px.FnG.toX F) h, r⟩
/-- the pen after a draw -/
theorem Bas.drawn {F H : Hp} {ns : List Int} {a d q e a' d' q' e' : Int} (B : Bas c H F F H) (hp : PenAt H c.p c.l ns a d q e) (hl : F c.l = some (.lst (ns.map V.int))) (h1 : 0 ≤ a') (h2 : 0 ≤ d') (h3 : 0 ≤ q') (h4 : 0 ≤ e') (h5 : e' < 2147483648) :
    Bas c H F F (upd H c.p (.dK (penL c.l a' d' q' e'))) := by
  have hF : ∀ {b u}, F b = some u → b ≠ c.p := fun e z => by rw [z, B.fx c.p (.inl rfl)] at e; cases e
  refine ⟨fun b u e => ?_, B.fx, ⟨ns, a', d', q', e', ⟨upd_same, ?_, h1, h2, h3, h4, h5⟩, hl⟩, fun pq hpq => ?_, fun b u n _ e => ?_, same_refl F, fun b n => .inl n, B.fT, B.ou⟩
  · rw [upd_ne (hF e)]; exact B.sub b u e
  · rw [upd_ne hp.ne]; exact hp.2.1
  · obtain ⟨ps, e1, tr, hc⟩ := B.tab pq hpq
    refine ⟨ps, by rw [upd_ne fun z => by rw [z, hp.1] at e1; cases e1]; exact e1, tr, fun pos cv hcv => ?_⟩
    obtain ⟨c', e2, e3⟩ := hc pos cv hcv
    refine ⟨c', e2, ?_⟩
    rw [upd_ne fun z => by rw [z, hp.1] at e3; cases e3]
    exact e3
  · rw [upd_ne fun z => n (by rw [z]; exact .inl rfl)]; exact e
theorem kp_draw (D : Keeps P w K mg base CX0 1 "_law_draw" ["pen", "many"] spDrawX) : Kp P w K mg base c 1 "_law_draw" ["pen", "many"] (spDrawP c) := by
  refine keeps_x D fun vs H Q E h => ?_
  obtain ⟨F, ss, R, EX, B, rs, hl, ⟨m, rfl, h0, h1, hR⟩, hq, _⟩ := h
  obtain ⟨v, w, rfl, rv, rw⟩ := rs2 rs
  cases rw
  have rv' : v = V.ref c.p := rv
  subst rv'
  obtain ⟨ns, a, d, k, f, hp, hF⟩ := B.pen
  exact ⟨c.p, m, c.l, ns, a, d, k, f, rfl, hp, h0, h1, fun r a' d' k' f' g1 g2 g3 g4 g5 g6 g7 => hq _ (.d (.int r)) F _ (B.drawn hp hF g3 g4 g5 g6 g7) (Rq.int r) (hR r g1 g2)⟩
/-- _law_pick -/
def spPickP (c : Cc) : PSp := fun ss R _ => ∃ ds : List PyData, ss = [.raw (.ref c.p), .d (.list ds)] ∧ 0 < ds.length ∧ ds.length ≤ 1000 ∧ ∀ d ∈ ds, R (.d d)
theorem atI_mem {α : Type} {l : List α} {r : Int} (h0 : 0 ≤ r) (h1 : r < (l.length : Nat)) : ∃ d, atI l r = some d ∧ d ∈ l := by
  have hk : r.toNat < l.length := by omega
  have e : atI l ((r.toNat : Nat) : Int) = some l[r.toNat] := atI_nat (List.getElem?_eq_getElem hk)
  rw [show ((r.toNat : Nat) : Int) = r by omega] at e
  exact ⟨_, e, List.getElem_mem hk⟩
end
end Px
namespace Px
open PySem PySem.Spec PyProof.Rows L2 Lx
/-! ### steps through a pure reading: an expression by itself, then the rest -/
section
variable {i j : Nat} {pa pb : PTE} {t t' : PTT} {a b rest : PTS} {P : PD} {env : Ev} {R : Bool → Prop} {Rs : Sl → Prop} {E : XP}
theorem set_step (I : Sl → Prop) (h1 : ∀ R : Sl → Prop, (∀ s, I s → R s) → pa env R P.ex) (h2 : ∀ s, I s → rest P (env.set i (some s))) : psSeq (psSet i pa) rest P env := h1 _ h2
theorem asg_step {g : PTG} (I : Sl → Prop) (h1 : ∀ R : Sl → Prop, (∀ s, I s → R s) → pa env R P.ex) (h2 : ∀ s, I s → g s env (rest P)) : psSeq (psAsg pa g) rest P env := h1 _ h2
theorem par_step {pa : PTA} (I : Sl → Sl → Prop) (h1 : ∀ R : List Sl → Prop, (∀ s u, I s u → R [s, u]) → pa env R P.ex) (h2 : ∀ s u, I s u → rest P ((env.set i (some s)).set j (some u))) : psSeq (psPar i j pa) rest P env := h1 _ h2
theorem drop_step (h1 : ∀ R : Sl → Prop, (∀ s, R s) → pa env R P.ex) (h2 : rest P env) : psSeq (psDrop pa) rest P env := h1 _ fun _ => h2
theorem if_no (h1 : ∀ R : Bool → Prop, R false → t env R P.ex) (h2 : rest P env) : psSeq (psIf t a psNext) rest P env := h1 _ ⟨fun z => Bool.noConfusion z, fun _ => h2⟩
theorem if_yes (h1 : ∀ R : Bool → Prop, R true → t env R P.ex) (h2 : a { P with nx := rest P } env) : psSeq (psIf t a b) rest P env := h1 _ ⟨fun _ => h2, fun z => Bool.noConfusion z⟩
theorem if_step (x : Bool) (h1 : ∀ R : Bool → Prop, R x → t env R P.ex) (hT : x = true → a { P with nx := rest P } env) (hF : x = false → b { P with nx := rest P } env) : psSeq (psIf t a b) rest P env := h1 _ ⟨hT, hF⟩
theorem if_opt (x : Bool) (h1 : ∀ R : Bool → Prop, R x → t env R P.ex) (hT : x = true → a { P with nx := rest P } env) (hF : x = false → rest P env) : psSeq (psIf t a psNext) rest P env := h1 _ ⟨hT, hF⟩
theorem if_last (x : Bool) (h1 : ∀ R : Bool → Prop, R x → t env R P.ex) (hT : x = true → a P env) (hF : x = false → b P env) : psIf t a b P env := h1 _ ⟨hT, hF⟩
theorem ret_i (h : pa env P.rt P.ex) : psRet pa P env := h
theorem ret_seq (h : pa env P.rt P.ex) : psSeq (psRet pa) rest P env := h
theorem or_no (h1 : ∀ R : Bool → Prop, R false → t env R E) (h2 : ∀ R : Bool → Prop, R false → t' env R E) (h : R false) : ptOr t t' env R E := h1 _ ⟨fun z => Bool.noConfusion z, fun _ => h2 R h⟩
theorem or_yes (h1 : ∀ R : Bool → Prop, R true → t env R E) (h : R true) : ptOr t t' env R E := h1 _ ⟨fun _ => h, fun z => Bool.noConfusion z⟩
theorem or_two (x y : Bool) (h1 : ∀ R : Bool → Prop, R x → t env R E) (h2 : x = false → ∀ R : Bool → Prop, R y → t' env R E) (h : R (x || y)) : ptOr t t' env R E := h1 _ ⟨fun z => by subst z; exact h, fun z => h2 z R (by subst z; exact h)⟩
theorem and_yes (h1 : ∀ R : Bool → Prop, R true → t env R E) (h2 : ∀ R : Bool → Prop, R true → t' env R E) (h : R true) : ptAnd t t' env R E := h1 _ ⟨fun _ => h2 R h, fun z => Bool.noConfusion z⟩
theorem and_no (h1 : ∀ R : Bool → Prop, R false → t env R E) (h : R false) : ptAnd t t' env R E := h1 _ ⟨fun z => Bool.noConfusion z, fun _ => h⟩
theorem and_two (x y : Bool) (h1 : ∀ R : Bool → Prop, R x → t env R E) (h2 : x = true → ∀ R : Bool → Prop, R y → t' env R E) (h : R (x && y)) : ptAnd t t' env R E := h1 _ ⟨fun z => h2 z R (by subst z; exact h), fun z => by subst z; exact h⟩
theorem not_i (x : Bool) (h1 : ∀ R : Bool → Prop, R x → t env R E) (h : R (!x)) : ptNot t env R E := h1 _ h
theorem tB_i (x : Bool) (h1 : ∀ R : Sl → Prop, R (.d (.bool x)) → pa env R E) (h : R x) : ptB pa env R E := h1 _ h
theorem flt_i {due : Due} (h : pa (noOwn env) (fun _ => Rs (.d .none)) (fun _ C ds => ∃ r, due C ds r ∧ Rs (.d r))) : pFault due pa env Rs E := h
theorem call_i {n : Nat} {sp : PSp} {pas : PTA} (I : List Sl → Prop) (h1 : ∀ R : List Sl → Prop, (∀ ss, I ss → R ss) → pas env R E) (h2 : ∀ ss, I ss → ss.length = n ∧ sp ss Rs (E env)) : pCalln n sp pas env Rs E := h1 _ h2
theorem g2_i {x y : PyData} {N : Ev → Prop} (h : N ((env.set i (some (.d x))).set j (some (.d y)))) : pgTup 2 (pgCons (pgName i) (pgCons (pgName j) pgNil)) (.d (.tuple [x, y])) env N := by
  unfold pgTup
  exact ⟨rfl, show ([] : List PyData) = [] ∧ _ from ⟨rfl, h⟩⟩
theorem eq_i {x y : PyData} (ha : okE x = true) (hb : okE y = true) (h1 : ∀ R : Sl → Prop, R (.d x) → pa env R E) (h2 : ∀ R : Sl → Prop, R (.d y) → pb env R E) (h : Rs (.d (.bool (PyData.eqv x y)))) : pOp oEq pa pb env Rs E := h1 _ (h2 _ ⟨ha, hb, h⟩)
theorem ne_i {x y : PyData} (ha : okE x = true) (hb : okE y = true) (h1 : ∀ R : Sl → Prop, R (.d x) → pa env R E) (h2 : ∀ R : Sl → Prop, R (.d y) → pb env R E) (h : Rs (.d (.bool (!PyData.eqv x y)))) : pOp oNe pa pb env Rs E := h1 _ (h2 _ ⟨ha, hb, h⟩)
theorem cons_i {pas : PTA} {s : Sl} {ss : List Sl} {Ra : List Sl → Prop} (h1 : ∀ R : Sl → Prop, R s → pa env R E) (h2 : ∀ R : List Sl → Prop, R ss → pas env R E) (h : Ra (s :: ss)) : pCons pa pas env Ra E := h1 _ (h2 _ h)
theorem pk_i {c : Cc} {ds : List PyData} {EX : Addr → FD → Prop} (hp : 0 < ds.length) (hl : ds.length ≤ 1000) (h : ∀ d ∈ ds, Rs (.d d)) : spPickP c [.raw (.ref c.p), .d (.list ds)] Rs EX := ⟨ds, rfl, hp, hl, h⟩
theorem dr_i {c : Cc} {m : Int} {EX : Addr → FD → Prop} (hp : 0 < m) (hl : m < 1073741824) (h : ∀ r : Int, 0 ≤ r → r < m → Rs (.d (.int r))) : spDrawP c [.raw (.ref c.p), .d (.int m)] Rs EX := ⟨m, rfl, hp, hl, h⟩
end
end Px
namespace Px
open PySem PySem.Spec PyProof.Rows L2 Lx
/-! ### instances -/
/-- what the written part says of a class whose instances keep data -/
structure ObC (K : PySem.W.Frag) (C : Addr) (fns : List Str) : Prop where
  cls : Cls K C
  nf : ∀ f ∈ fns, NoAttr K C f
section
variable {X : Cx} {c : Cc} {W : WX} {H0 F0 F H : Hp} {env : Ev} {σ : St}
/-- e.f -/
def uAt (C : Addr) (fns : List Str) (f : Str) : Sl → (Sl → Prop) → Prop := fun x R => match x with
  | .obj C' ds => C' = C ∧ f ∈ fns ∧ ∃ d, ds.lookup f = some d ∧ R (.d d)
  | _ => False
theorem pu_at {C : Addr} {fns : List Str} {e : Expr} {pos : Pos} {f : Str} {pa : PTE} (O : ObC X.K C fns) (ha : PuE X c W e pa) (hb : attributeBase e f X.env (eval e X.env) = eval e X.env := by rfl) : PuE X c W (.Attribute e f pos) (pUn (uAt C fns f) pa) := by
  obtain ⟨ta, ha, ra⟩ := ha
  refine ⟨_, pe_fld ha hb, fun H0 F0 env F σ H R E Q J L hq fin => ra _ _ _ _ _ _ _ _ _ J L hq fun v s F1 H1 J1 k1 r1 q1 => ?_⟩
  cases s with
  | obj C' ds =>
    obtain ⟨rfl, hf, d, hd, q1⟩ := q1
    obtain ⟨x, rfl, dx, fs, e1, m, rr⟩ := r1
    obtain ⟨w, hw, rw⟩ := look_rel m rr hd
    exact ⟨x, C', dx, fs, w, rfl, J1.b.sub _ _ e1, O.cls, O.nf f hf, hw, fin w (.d d) F1 H1 J1 k1 rw q1⟩
  | _ => exact q1.elim
/-! #### the instance that is being made -/
theorem putF_map (f : Str) (v : V) : ∀ {fs : List (Str × V)}, f ∉ fs.map (·.1) → putF f v fs = fs ++ [(f, v)]
  | [], _ => rfl
  | (g, x) :: r, h => by
    have h1 : g ≠ f := fun z => h (by rw [z]; exact List.mem_cons_self)
    have h2 : f ∉ r.map (·.1) := fun z => h (List.mem_cons_of_mem _ z)
    show (if g = f then _ else _) = _
    rw [if_neg h1, putF_map f v h2]
    rfl
theorem RqAll.snoc {vs : List V} {ds : List PyData} {v : V} {d : PyData} (h : RqAll F vs ds) (r : Rq F v d) : RqAll F (vs ++ [v]) (ds ++ [d]) := h.app (.cons r .nil)
/-- no instance is being made -/
def noS : Ev → Bool
  | [] => true
  | some (.slf _ _ _) :: _ => false
  | _ :: l => noS l
theorem noS_at : ∀ {l : Ev} {j : Nat} {x C : Addr} {ds : FD}, noS l = true → l[j]? ≠ some (some (.slf x C ds))
  | [], _, _, _, _, _ => by simp
  | s :: l, 0, x, C, ds, h => fun z => by
    have z : s = some (.slf x C ds) := by simpa using z
    subst z
    cases h
  | s :: l, j + 1, x, C, ds, h => fun z => by
    have h' : noS l = true := by
      cases s with
      | none => exact h
      | some s => cases s <;> first | exact h | cases h
    exact noS_at h' (by simpa using z)
/-- its field is set -/
theorem Rel.setF (R : Rel c H0 F0 env F σ H) {i : Nat} {x C : Addr} {ds : FD} {f : Str} {v : V} {d : PyData} (hs : nth env i = some (.slf x C ds)) (hn : noS (env.set i none) = true) (rv : Rq F v d) (hf : f ∉ ds.map (·.1)) :
    ∃ dx fs, σ[i]? = some (some (.ref x)) ∧ H x = some (.ins C dx fs) ∧ fs.length = ds.length ∧ Rel c H0 F0 (env.set i (some (.slf x C (ds ++ [(f, d)])))) F σ (upd H x (.ins C dx (putF f v fs))) := by
  obtain ⟨ov, e1, dx, fs, rfl, a1, a2, a3, m, rr⟩ := R.get (nth_eq _ _ hs)
  have hl : fs.length = ds.length := by
    have := congrArg List.length m
    simpa using this
  have no := R.b.noutO .i a3
  have hF' : ∀ {b u}, F b = some u → b ≠ x := fun e z => by rw [z, a1] at e; cases e
  have ep : putF f v fs = fs ++ [(f, v)] := putF_map f v (by rw [m]; exact hf)
  refine ⟨dx, fs, e1, a3, hl, ⟨⟨fun b u e => ?_, R.b.fx, ?_, fun pq hp => ?_, fun b u n t e => ?_, R.b.fF, R.b.fN, R.b.fT, R.b.ou⟩, by rw [List.length_set]; exact R.len, fun j ov s' e2 e3 => ?_, fun j l q xs ys e2 e3 e4 e5 => ?_⟩⟩
  · rw [upd_ne (hF' e)]; exact R.b.sub b u e
  · obtain ⟨ns, a, d, k, g, ⟨p1, p2, p3⟩, p4⟩ := R.b.pen
    refine ⟨ns, a, d, k, g, ⟨?_, by rw [upd_ne (hF' p4)]; exact p2, p3⟩, p4⟩
    rw [upd_ne fun z => no (by rw [← z]; exact .inl rfl)]; exact p1
  · obtain ⟨ps, q1, tr, hc⟩ := R.b.tab pq hp
    refine ⟨ps, by rw [upd_ne fun z => no (by rw [← z]; exact .inr ⟨_, hp⟩)]; exact q1, tr, fun pos cv hcv => ?_⟩
    obtain ⟨c', q2, q3⟩ := hc pos cv hcv
    refine ⟨c', q2, ?_⟩
    rw [upd_ne fun z => by rw [z, a3] at q3; cases q3]
    exact q3
  · rw [upd_ne fun z => by rw [z] at e; obtain ⟨ps, z'⟩ := a2 u e; exact t ps z']; exact R.b.fr b u n t e
  · by_cases hij : i = j
    · subst hij
      have h2 : i < env.length := by
        have := (List.getElem?_eq_some_iff.mp e3).1
        simpa using this
      rw [List.getElem?_set_self h2] at e3
      cases e3
      rw [e1] at e2
      cases e2
      refine ⟨dx, putF f v fs, rfl, a1, a2, upd_same, ?_, ?_⟩
      · rw [ep, List.map_append, List.map_append, m]; rfl
      · rw [ep, List.map_append, List.map_append]; exact rr.snoc rv
    · rw [List.getElem?_set_ne hij] at e3
      have r2 := R.sl j ov s' e2 e3
      cases s' with
      | none => exact True.intro
      | some s' =>
        cases s' with
        | d y => exact r2
        | raw u => exact r2
        | exc p C' ds' => exact r2
        | obj C' ds' => exact r2
        | own xs =>
          obtain ⟨p, us, q1, b1, b2, b3, b4⟩ := r2
          exact ⟨p, us, q1, b1, b2, by rw [upd_ne fun z => by rw [z, a3] at b3; cases b3]; exact b3, b4⟩
        | slf y C' ds' =>
          exact absurd (show (env.set i none)[j]? = _ by rw [List.getElem?_set_ne hij]; exact e3) (noS_at hn)
  · have n1 : i ≠ j := fun z => by
      subst z
      have h2 : i < env.length := by
        have := (List.getElem?_eq_some_iff.mp e2).1
        simpa using this
      rw [List.getElem?_set_self h2] at e2
      cases e2
    have n2 : i ≠ l := fun z => by
      subst z
      have h2 : i < env.length := by
        have := (List.getElem?_eq_some_iff.mp e3).1
        simpa using this
      rw [List.getElem?_set_self h2] at e3
      cases e3
    rw [List.getElem?_set_ne n1] at e2
    rw [List.getElem?_set_ne n2] at e3
    exact R.sep j l q xs ys e2 e3 e4 e5
/-- self.f = e, in __init__ -/
def psFld (i : Nat) (fns : List Str) (f : Str) (a : PTE) : PTS := fun P env => a env (fun s => match s with
  | .d x => match nth env i with
    | some (.slf y C ds) => f ∉ ds.map (·.1) ∧ f ∈ fns ∧ ds.length < 1000 ∧ noS (env.set i none) = true ∧ P.nx (env.set i (some (.slf y C (ds ++ [(f, x)]))))
    | _ => False
  | _ => False) P.ex
/-- which class is made -/
def ofC (C : Addr) (i : Nat) (a : PTS) : PTS := fun P env => (∃ x ds, nth env i = some (.slf x C ds)) ∧ a P env
theorem pus_fld {C : Addr} {fns : List Str} {i : Nat} {x f : Str} {value : Expr} {xp pos pos' : Pos} {pa : PTE} (O : ObC X.K C fns) (ha : PuE X c W value pa) (hN : X.N[i]? = some x := by rfl) (hv : Vis X.env.scope x := by first | exact Or.inl rfl | exact Or.inr (Or.inl rfl) | exact Or.inr (Or.inr rfl))
    (hd : (x == ("__debug__" : Str)) = false := by decide) (hcd : (x == ("__classdict__" : Str)) = false := by decide) (hs : swapsWith value (some (.Attribute (.Name x xp) f pos')) pos.line X.env = pure false := by rfl) : PuS X c W (.Assign [.Attribute (.Name x xp) f pos'] value pos) (ofC C i (psFld i fns f pa)) := by
  obtain ⟨ta, ha, ra⟩ := ha
  refine ⟨_, ps_fld (pv i hN hv hd hcd) ha hs, fun H0 F0 env F σ H D P J L h => ?_⟩
  obtain ⟨⟨x0, ds0, hi⟩, h⟩ := h
  refine ra _ _ _ _ _ _ _ _ _ J L.ex h fun v s F1 H1 J1 k1 r1 q1 => ?_
  cases s with
  | d y =>
    rw [hi] at q1
    obtain ⟨q2, q3, q4, q5, q6⟩ := q1
    obtain ⟨dx, fs, e1, e2, hl, J2⟩ := J1.setF (v := v) hi q5 r1 q2
    exact ⟨.ref x0, e1, x0, C, dx, fs, rfl, e2, O.cls, O.nf f q3, by rw [hl]; exact q4, L.nx _ F1 _ _ J2 k1 q6⟩
  | _ => exact q1.elim
end
/-! #### __init__ -/
abbrev PIs := List Sl → (FD → Prop) → (Addr → FD → Prop) → Prop
def liftI (c : Cc) (C : Addr) (n : Nat) (sp : PIs) : Sp := fun vs H Q E => ∃ (H1 : Hp) (x dx : Addr) (ws : List V) (F : Hp) (ss : List Sl) (R : FD → Prop) (EX : Addr → FD → Prop), vs = .ref x :: ws ∧ H1 x = none ∧ H1 dx = none ∧ dx ≠ x ∧ H = upd (upd H1 dx (.own x)) x (.ins C dx []) ∧
  Bas c H1 F F H1 ∧ RelSs F ws ss ∧ ss.length = n ∧ sp ss R EX ∧
  (∀ (ds : FD) (dx' : Addr) (fs : List (Str × V)) (F' H' : Hp), Bas c H1 F F' H' → F' x = none → H' x = some (.ins C dx' fs) → fs.map (·.1) = ds.map (·.1) → RqAll F' (fs.map (·.2)) (ds.map (·.2)) → R ds → Q .non H') ∧
  (∀ (C' : Addr) (d : Option Addr) (ds : FD) (F' H' : Hp), Bas c H1 F F' H' → ExcD F' d ds → EX C' ds → E (.ref C') d H')
def pdI (x C : Addr) (R : FD → Prop) (EX : Addr → FD → Prop) : PD := ⟨fun env => ∃ ds, nth env 0 = some (.slf x C ds) ∧ R ds, fun _ => False, fun _ => False, fun _ => False, fun _ => EX⟩
section
variable {P : Program} {w : World} {K : PySem.W.Frag} {mg : Str → Option Value} {base : Heap} {c : Cc} {k : Nat} {C : Addr} {st : Stmt} {qual y : Str} {N ps : List Str} {f : Addr} {fd : FuncData} {sp : PIs}
theorem keepI {s0 : Str} (Fu : Fun K y qual st f fd) (S : FnScope (s0 :: N) (s0 :: ps) (defScope st))
    (hbody : ∀ (f : Addr) (cdv : Value) (A : Around) (outer : List Env) (s : Shared) (H : Hp) (E : XK), Room k (A.deeper (envOfC qual (defScope st) s.heap.objs.size f cdv)) →
      ∃ pt, PuSs (cxOf (L2.CX P w) P w K mg base (s0 :: N) qual (defScope st) f cdv A outer s H E) c (WF E) (defBody st) pt ∧ ∀ x ss R EX, ss.length = ps.length → sp ss R EX → pt (pdI x C R EX) (some (.slf x C []) :: startP N ss)) :
    FnOk P w K mg base (L2.CX P w) (k + 1) f fd (s0 :: ps) (liftI c C ps.length sp) := by
  refine Fu.okX S (fun vs H Q E h => ?_) (fun cdv A outer s H vs Q E hr h => ?_)
  · obtain ⟨H1, x, dx, ws, F, ss, R, EX, rfl, _, _, _, _, _, rs, hl, _⟩ := h
    rw [List.length_cons, List.length_cons, rs.len, hl]
  · obtain ⟨H1, x, dx, ws, F, ss, R, EX, rfl, nx, nd, ne, rfl, B, rs, hl, hp, hq, he⟩ := h
    obtain ⟨pt, ⟨t, ht, hrd⟩, hpure⟩ := hbody f cdv A outer s _ E hr
    have B2 : Bas c H1 F F (upd (upd H1 dx (.own x)) x (.ins C dx [])) := (B.new nd).new (by rw [upd_ne (Ne.symm ne)]; exact nx)
    have J0 := rel_start B rs N
    have es : L2.start (s0 :: N) (V.ref x :: ws) = some (.ref x) :: L2.start N ws := by
      unfold L2.start
      simp
    have J : Rel c H1 F (some (.slf x C []) :: startP N ss) F (L2.start (s0 :: N) (V.ref x :: ws)) (upd (upd H1 dx (.own x)) x (.ins C dx [])) := by
      rw [es]
      refine ⟨B2, by rw [List.length_cons, List.length_cons, J0.len], fun i ov s' e1 e2 => ?_, fun i j q xs ys e1 e2 e3 e4 => ?_⟩
      · cases i with
        | zero =>
          cases e1
          cases e2
          exact ⟨dx, [], rfl, B.fnone nx, .of nx, upd_same, rfl, .nil⟩
        | succ i =>
          refine (J0.sl i ov s' (by simpa using e1) (by simpa using e2)).same (same_refl F) fun q o ho f1 f2 f3 => ⟨f1, ?_⟩
          have n1 : q ≠ x := fun z => by rw [z, nx] at f3; cases f3
          have n2 : q ≠ dx := fun z => by rw [z, nd] at f3; cases f3
          rw [upd_ne n1, upd_ne n2]; exact f3
      · cases i with
        | zero => cases e1
        | succ i => cases j with
          | zero => cases e2
          | succ j => exact congrArg (· + 1) (J0.sep i j q xs ys (by simpa using e1) (by simpa using e2) (by simpa using e3) (by simpa using e4))
    refine ⟨t, ht, hrd H1 F _ F _ _ _ (pdI x C R EX) J ⟨?_, ?_, ?_, ?_, ?_⟩ (hpure x ss R EX hl hp)⟩
    · rintro env' F' σ' H' J' _ ⟨ds, hn, hR⟩
      obtain ⟨ov, e1, dx', fs, rfl, a1, a2, a3, m, rr⟩ := J'.get (nth_eq _ _ hn)
      exact hq ds dx' fs F' H' J'.b a1 a3 m rr hR
    · exact fun v s F' H' B' rv q => q.elim
    · exact fun env' F' σ' H' J _ q => q.elim
    · exact fun env' F' σ' H' J _ q => q.elim
    · exact fun env' F' σ' H' C d ds J x q => he C d ds F' H' J.b x q
end
/-- a class of the program by its name, its __init__'s contract -/
structure KpI (P : Program) (w : World) (K : PySem.W.Frag) (mg : Str → Option Value) (base : Heap) (c : Cc) (k : Nat) (x : Str) (C : Addr) (n : Nat) (sp : PIs) : Prop where
  ex : ∃ f fd ps, L2.Mk K C f ∧ FnOk P w K mg base (L2.CX P w) k f fd ps (liftI c C n sp) ∧ mg x = some (.ref C) ∧ L2.Binds K fd ps []
/-- C(e, ..) -/
def pMake (C : Addr) (n : Nat) (sp : PIs) (a : PTA) : PTE := fun env R E => a env (fun ss => ss.length = n ∧ sp ss (fun ds => R (.obj C ds)) (E env)) E
section
variable {X : Cx} {c : Cc} {W : WX}
theorem run_makeS {k : Nat} {f C : Addr} {fd : FuncData} {ps : List Str} {sp : Sp} {E : St → XK} {pins : List (Addr × Obj)} {σ : L2.St} {H : Hp} {s : Shared} {Q : VK} {us : List Value} {vs : List V} (M : L2.Mk X.K C f) (F : FnOk X.prog X.w X.K X.mg X.base (L2.CX X.prog X.w) k f fd ps sp) (hr : Room (k + 1) X.A) (hb : L2.Binds X.K fd ps [])
    (hx : ∀ σ, PassesAt (L2.CX X.prog X.w) X σ (E σ)) (I : Inv X pins σ H s) (r : Vals vs us)
    (h : ∀ x dx, H x = none → H dx = none → dx ≠ x → sp (.ref x :: vs) (upd (upd H dx (.own x)) x (.ins C dx [])) (fun v H2 => v = .non ∧ Q (.ref x) H2) (E σ)) :
    wpAny (model X.prog X.w) X.A (call (.ref C) us) (EP X pins σ Q) X.xe s := by
  have nb : s.heap.objs.size ≠ s.heap.objs.size + 1 := by omega
  have hq := h (s.heap.objs.size + 1) s.heap.objs.size (I.hok.fresh (by omega)) (I.hok.fresh (by omega)) nb
  have I2 := Inv.made (C := C) I
  have r2 : Vals (V.ref (s.heap.objs.size + 1) :: vs) (Value.ref (s.heap.objs.size + 1) :: us) := .cons rfl r
  have hl : (Value.ref (s.heap.objs.size + 1) :: us).length = ps.length := by rw [← r2.length]; exact F.len _ _ _ _ hq
  have b := hb _ (Value.ref (s.heap.objs.size + 1) :: us) I2.kIn (by rw [List.append_nil]; exact hl)
  rw [List.append_nil] at b
  refine wpAny_call (make_map (f := f) I.kIn M.makes M.init (beq_iff_eq.mp M.fn) (codeAny_mono (F.run _ X.stack _ _ ⟨Value.ref (s.heap.objs.size + 1) :: us, []⟩ _ _ _ (E σ) (hr.make C us []) (I2.env0.make C us []) b r2 hq) fun r s' hq' => ?_))
  cases r with
  | error e => exact hx σ pins _ _ e s' I2 hq'
  | ok fl => cases fl with
    | ret u =>
      obtain ⟨v, H', I3, rv, ev, q3⟩ := I2.after hq'
      subst ev
      exact ⟨rv, ⟨V.ref (s.heap.objs.size + 1), H', I3, rfl, q3⟩⟩
    | _ => exact False.elim hq'
theorem pu_make {j k n : Nat} {x : Str} {C : Addr} {sp : PIs} {q pos : Pos} {e : Expr} {es : List Expr} {pa : PTA} (D : KpI X.prog X.w X.K X.mg X.base c j x C n sp) (hr : Room k X.A) (tk : Takes X W) (ha : PuA X c W (e :: es) pa)
    (hjk : j + 1 ≤ k := by decide) (hgl : Gl X x := by rfl) (hdb : (x == ("__debug__" : Str)) = false := by decide) (he : starEach (e :: es) X.env = (false, eval e X.env) :: starEach es X.env := by rfl)
    (hpl : (backTo pos (starEach es X.env)).any (·.1) = false := by rfl) : PuE X c W (.Call (.Name x q) (e :: es) [] pos) (pMake C n sp pa) := by
  obtain ⟨ta, ha, ra⟩ := ha
  obtain ⟨f, fd, ps, M, F, hm, hb⟩ := D.ex
  refine ⟨fun σ H Q => ta σ H fun vs H1 => ∀ x dx, H1 x = none → H1 dx = none → dx ≠ x → liftI c C n sp (.ref x :: vs) (upd (upd H1 dx (.own x)) x (.ins C dx [])) (fun v H2 => v = .non ∧ Q (.ref x) H2) (WE W σ), ⟨fun pins s σ H Q I h => ?_⟩, fun H0 F0 env F σ H R E Q J L hp fin => ?_⟩
  · refine wpAny_Call_Name_kw (ld_glob I hgl hm ?_ hdb)
    exact PySem.W.callWith_K (h₀ := X.base) I.ok.mod.kin M.kp (thn (ha.run pos pins s σ H _ I h) fun us s1 ⟨vs, H1, I1, r, q⟩ => ⟨I1.kIn, run_makeS M F (hr.mono hjk) hb (fun σ => passAt tk σ) I1 r q⟩) he hpl
  · refine ra _ _ _ _ _ _ _ _ _ J L hp fun vs ss F1 H1 J1 k1 r1 h1 => ?_
    intro x dx nx nd ne
    refine ⟨H1, x, dx, vs, F1, ss, _, _, rfl, nx, nd, ne, rfl, J1.b.here, r1, h1.1, h1.2, fun ds dx' fs F' H' B a1 a2 m rr hR => ⟨rfl, ?_⟩, fun C' d ds F' H' B x q => L env F' σ H' C' d ds (J1.after B) x q⟩
    have J2 := J1.after B
    have kk : Same F' (upd F' x (.ins C dx' fs)) := same_upd a1
    have B3 : Bas c H1 F1 (upd F' x (.ins C dx' fs)) H' := by
      have hF' : ∀ {b u}, F' b = some u → b ≠ x := fun e z => by rw [z, a1] at e; cases e
      have no := B.noutO .i a2
      refine ⟨fun b u e => ?_, fun b hb => ?_, ?_, B.tab, B.fr, fun b u e => ?_, fun b nn => ?_, fun b ps e => ?_, B.ou⟩
      · by_cases z : b = x
        · subst z; rw [upd_same] at e; cases e; exact a2
        · rw [upd_ne z] at e; exact B.sub b u e
      · rw [upd_ne fun z => no (by rw [← z]; exact hb)]; exact B.fx b hb
      · obtain ⟨ns, a, d, k, g, e1, e3⟩ := B.pen
        exact ⟨ns, a, d, k, g, e1, by rw [upd_ne (hF' e3)]; exact e3⟩
      · have := B.fF b u e
        rw [upd_ne (hF' this)]; exact this
      · by_cases z : b = x
        · subst z; exact .inr (.of nx)
        · rw [upd_ne z] at nn; exact B.fN b nn
      · by_cases z : b = x
        · subst z; rw [upd_same] at e; cases e
        · rw [upd_ne z] at e; exact B.fT b ps e
    exact fin (.ref x) (.obj C ds) _ H' (J1.after B3) (same_trans k1 B3.fF) ⟨x, rfl, dx', fs, upd_same, m, rr.same kk⟩ hR
end
end Px
namespace Px
open PySem PySem.Spec PyProof.Rows L2 Lx
/-! ### instances asked for their class, and compared -/
def plainTys : List String := ["NoneType", "bool", "int", "str", "list", "tuple", "dict"]
theorem tyN_in (d : PyData) : tyN d ∈ plainTys := by cases d <;> simp [tyN, plainTys]
structure ObK (K : PySem.W.Frag) (mg : Str → Option Value) (x : Str) (C : Addr) (fns : List Str) : Prop where
  o : ObC K C fns
  g : mg x = some (.ref C)
  self : PySem.W.kitOne K (.ref C) (.ref C) = some true
  non : ∀ t ∈ plainTys, PySem.W.kitOne K (.type t) (.ref C) = some false
  ha : PySem.W.findIn K (.ref C) "__class__" = some (some (.builtin "object.__class__"))
  hn : PySem.W.specialIn K (.builtin "object.__class__") "__get__" = some (some (.builtin "getset_descriptor.__get__"))
  ht : PySem.W.takesIn K (.builtin "object.__class__") = some true
  hm : PySem.W.mroIn K C (.type "object") = some true
section
variable {K : PySem.W.Frag} {mg : Str → Option Value} {x : Str} {C : Addr} {fns : List Str}
theorem ObK.ty (O : ObK K mg x C fns) {H : Hp} {a dx : Addr} {fs : List (Str × V)} (e : H a = some (.ins C dx fs)) : TyX K H (.ref a) (.ref C) := .base (.ins e O.o.cls O.ha O.hn O.ht O.hm)
end
/-- isinstance(e, C) -/
def uIsO (C : Addr) : Sl → (Sl → Prop) → Prop := fun x R => match x with
  | .obj C' _ => C' = C ∧ R (.d (.bool true))
  | .d _ => R (.d (.bool false))
  | _ => False
section
variable {X : Cx} {c : Cc} {W : WX}
theorem pu_isO {x : Str} {C : Addr} {fns : List Str} {q q2 pos : Pos} {e : Expr} {pa : PTE} (O : ObK X.K X.mg x C fns) (hm : X.mg "isinstance" = none) (ha : PuE X c W e pa) (hg : Gl X "isinstance" := by rfl) (hg2 : Gl X x := by rfl) (hd : (x == ("__debug__" : Str)) = false := by decide)
    (h1 : starEach [e, .Name x q2] X.env = (false, eval e X.env) :: starEach [.Name x q2] X.env := by rfl) (h2 : starEach [Expr.Name x q2] X.env = (false, eval (.Name x q2) X.env) :: starEach [] X.env := by rfl) (hpl : (backTo pos (starEach [Expr.Name x q2] X.env)).any (·.1) = false := by rfl) :
    PuE X c W (.Call (.Name "isinstance" q) [e, .Name x q2] [] pos) (pUn (uIsO C) pa) := by
  obtain ⟨ta, ha, ra⟩ := ha
  refine ⟨_, pe_callB call_isi hg hm (by decide +kernel) (pa_cons ha (pa_cons (pe_glob (v := .ref C) hg2 O.g rfl hd) pa_nil h2) h1) (by decide) (by decide) h1 hpl, fun H0 F0 env F σ H R E Q J L hq fin => ra _ _ _ _ _ _ _ _ _ J L hq fun v s F1 H1 J1 k1 r1 q1 => ?_⟩
  cases s with
  | obj C' ds =>
    obtain ⟨rfl, q1⟩ := q1
    obtain ⟨y, rfl, dx, fs, e1, m, rr⟩ := r1
    exact ⟨.ref y, .ref C', _, _, true, rfl, .own C', O.ty (J1.b.sub _ _ e1), O.self, fin _ (.d _) F1 H1 J1 k1 (Rq.bl _) q1⟩
  | d y => exact ⟨v, .ref C, _, _, false, rfl, .own C, rq_ty J1.b.sub r1, O.non _ (tyN_in y), fin _ (.d _) F1 H1 J1 k1 (Rq.bl _) q1⟩
  | _ => exact q1.elim
end
/-! #### == and != -/
section
variable {prog : Program} {w : World} {M : Model} {A : Around} {E : Value → Shared → Prop} {s : Shared} {K : PySem.W.Frag} {x C f : Addr} {ox : Obj} {od : Option Obj}
theorem ifBound_ne {args : List Value} {Q : Option Value → Shared → Prop} (X : K.In s.heap) (I : PySem.W.InstAt s.heap x ox C od) (hs : PySem.W.findIn K (.ref C) "__ne__" = some (some (.builtin "object.__ne__")))
    (h : wpAny M A (call (.builtin "object.__ne__") (.ref x :: args)) (fun v => Q (some v)) E s) : wpAny M A (callSpecialIfBound? (.ref x) "__ne__" args) Q E s := by
  simp only [callSpecialIfBound?, bindSpecialIfBound?]
  refine wpAny_holding (wpAny_bind (wpAny_bind (wpAny_bind (I.type.here ((PySem.W.looks_findIn X hs).here ?_)))))
  have fin : wpAny M A (call (.builtin "object.__ne__") ([.ref x] ++ args) >>= fun v => pure (some v)) Q E s := wpAny_bind (wpAny_mono h (fun v s' h' => wpAny_pure h') fun _ _ h' => h')
  refine wpAny_bind (wpAny_askSetting (wpAny_ite ?_))
  rw [F.cmp_object.ne.bind]
  split
  · exact wpAny_bind (wpAny_pure (wpAny_pure fin))
  · exact wpAny_tryCatch (wpAny_bind (wpAny_pure (wpAny_pure fin)))
theorem call_ne {b : Value} {Q : Value → Shared → Prop} (hu : A.units + 1 < cLine) (X : K.In s.heap) (I : PySem.W.InstAt s.heap x ox C od) (hm : PySem.W.mroIn K C (.type "object") = some true) (he : PySem.W.findIn K (.ref C) "__eq__" = some (some (.ref f))) (hf : PySem.W.isFn K (.ref f) = true)
    (h : wpAny (model prog w) A.in1 (call (.ref f) [.ref x, b]) (fun v s' => ∃ r, v = .bool r ∧ Q (.bool (!r)) s') E s) : wpAny (model prog w) A (call (.builtin "object.__ne__") [.ref x, b]) Q E s := by
  refine wpAny_call (codeAny_call_builtin F.cmp_object.ne.plain F.cmpEntry_ne (PySem.W.check_slot F.cmpKind_ne F.cmpSplit_ne (I.type.andThen (PySem.W.looks_mroIn X hm)) (F.cmpArgs_ne _ _) ?_))
  unfold Builtin.«object.__ne__»
  have hu1 : A.in1.units < cLine := hu
  repeat (first
    | with_reducible refine wpAny_cRoomFor hu1 ?_
    | (refine wpAny_bind (m := callSpecialIfBound? (.ref x) (Str.ofString "__eq__") [b]) (PySem.W.ifBound_K X I he hf (wpAny_mono h (fun v s' z => by
        obtain ⟨r, e, hq⟩ := z
        subst e
        repeat (first | exact hq | exact wpAny_pure hq | (refine wpAny_bind (m := truthy (.bool _)) (wpAny_truthy_bool ?_)) | wp_step)) fun _ _ e => e)))
    | wp_step)
theorem cmpNe_K {L : Addr} {h₀ : Heap} {m : Str → Option Value} {b tb : Value} {Q : Value → Shared → Prop} (hu : A.units + 1 < cLine) (X : K.In s.heap) (I : PySem.W.InstAt s.heap x ox C od) (hb : PySem.W.Looks (model prog w) s.heap (typeOf b) tb) (hn : PySem.W.notFirst K C tb = true)
    (hne : PySem.W.findIn K (.ref C) "__ne__" = some (some (.builtin "object.__ne__"))) (hm : PySem.W.mroIn K C (.type "object") = some true) (he : PySem.W.findIn K (.ref C) "__eq__" = some (some (.ref f))) (hf : PySem.W.isFn K (.ref f) = true)
    (h : wpAny (model prog w) A.in1 (call (.ref f) [.ref x, b]) (fun v s' => ∃ r, v = .bool r ∧ Q (.bool (!r)) s') E s) : wpAny (model prog w) A (richCompare .NotEq (.ref x) b) Q E s := by
  have one : wpAny (model prog w) A (tryCompare (.ref x) (cmpInfo .NotEq).2.1 b) (fun r s' => ∃ v, r = some (.bool v) ∧ Q (.bool v) s') E s := by
    rw [cmpInfo_NotEq]
    unfold tryCompare
    refine wpAny_bind (ifBound_ne X I hne (wpAny_mono (call_ne (Q := fun v s' => ∃ r, v = .bool r ∧ Q (.bool r) s') hu X I hm he hf (wpAny_mono h (fun v s' z => ?_) fun _ _ e => e)) (fun v s' z => ?_) fun _ _ e => e))
    · obtain ⟨r, e, q⟩ := z
      exact ⟨r, e, _, rfl, q⟩
    · obtain ⟨r, rfl, q⟩ := z
      exact wpAny_pure ⟨_, rfl, q⟩
  have two {m : Sem (Option Value)} (hm : wpAny (model prog w) A m (fun r s' => ∃ v, r = some (.bool v) ∧ Q (.bool v) s') E s) {k : Option Value → Sem Value} (hk : ∀ v, k (some (.bool v)) = pure (.bool v)) : wpAny (model prog w) A (m >>= k) Q E s :=
    wpAny_bind (wpAny_mono hm (fun r s' z => by obtain ⟨v, rfl, q⟩ := z; rw [hk]; exact wpAny_pure q) fun _ _ e => e)
  unfold richCompare
  simp only [oneThing_ref]
  refine wpAny_holding (wpAny_bind (wpAny_cRoomFor (by omega) (wpAny_bind (I.type.here (wpAny_bind (hb.here ?_))))))
  split
  · rename_i q
    have e : PySem.W.subIn K tb (.ref C) = some false := by
      rcases Bool.or_eq_true_iff.mp hn with e | e
      · rw [beq_iff_eq.mp e] at q; simp at q
      · exact beq_iff_eq.mp e
    refine wpAny_bind ((PySem.W.looks_subIn X e).here ?_)
    rw [if_neg (by simp)]
    exact two one fun v => rfl
  · refine wpAny_bind (wpAny_pure ?_)
    rw [if_neg (by simp)]
    exact two one fun v => rfl
end
/-- a class with an __eq__ of its own, the def at g -/
structure ObQ (K : PySem.W.Frag) (C g : Addr) : Prop where
  eqf : PySem.W.findIn K (.ref C) "__eq__" = some (some (.ref g))
  fn : PySem.W.isFn K (.ref g) = true
  ne : PySem.W.findIn K (.ref C) "__ne__" = some (some (.builtin "object.__ne__"))
  nf : PySem.W.notFirst K C (.ref C) = true
  nt : ∀ t ∈ plainTys, PySem.W.notFirst K C (.type t) = true
/-- its contract -/
structure KpQ (P : Program) (w : World) (K : PySem.W.Frag) (mg : Str → Option Value) (base : Heap) (c : Cc) (k : Nat) (C : Addr) (sp : PSp) : Prop where
  ex : ∃ g fd ps, ObQ K C g ∧ FnOk P w K mg base (L2.CX P w) k g fd ps (lift c 2 sp) ∧ L2.Binds K fd ps []
def rCmpO (K : PySem.W.Frag) (c : Cc) (C : Addr) (sp : PSp) (n : Bool) : R2 := fun x y H Q => ∃ a dx fs t, x = .ref a ∧ H a = some (.ins C dx fs) ∧ TyX K H y t ∧ PySem.W.notFirst K C t = true ∧ lift c 2 sp [x, y] H (fun v H' => ∃ b : Bool, v = .bl b ∧ Q (.bl (if n then !b else b)) H') fun _ _ _ => False
/-- x == y, x != y (n), x an instance of C -/
def oCmpO (C : Addr) (sp : PSp) (n : Bool) : POp := fun x y R => (∃ ds, x = .obj C ds) ∧ (match y with
  | .obj C' _ => C' = C
  | .d _ => True
  | _ => False) ∧ sp [x, y] (fun r => ∃ b, r = .d (.bool b) ∧ R (.d (.bool (if n then !b else b)))) fun _ _ => False
section
variable {X : Cx} {c : Cc} {W : WX} {C : Addr} {sp : PSp} {k : Nat}
theorem no_pass {σ : St} : PassesAt (L2.CX X.prog X.w) X σ fun _ _ _ => False := fun _ _ _ _ _ _ z => by
  obtain ⟨_, _, _, _, _, _, _, _, _, _, _, _, z⟩ := z
  exact z.elim
theorem op_eqO (D : KpQ X.prog X.w X.K X.mg X.base c k C sp) (hr : Room k X.A) : OpR X (compareOp .Eq) (rCmpO X.K c C sp false) := by
  intro pins s σ H x y v u Q I rx ry h
  obtain ⟨a, dx, fs, t, rfl, ha, ty, hn, q⟩ := h
  obtain ⟨g, fd, ps, O, F, hb⟩ := D.ex
  cases (show v = Value.ref a from rx)
  obtain ⟨mA, OM, _⟩ := ins_get I.hok ha
  obtain ⟨od, J, _⟩ := OM.look
  obtain ⟨Pz, Z, hP, _⟩ := kit_of I ry ty
  obtain ⟨m, hF⟩ := I.fr
  show wpAny _ _ (richCompare .Eq (.ref a) u) _ _ s
  refine PySem.W.cmp_K (op := .Eq) hr.units0 hF I.ok.mod.kin J (Z.ty _ _ I.kIn hP) hn O.eqf O.fn ?_
  refine wpAny_mono (run_fnS (E := fun _ _ _ _ => False) (us := [.ref a, u]) (vs := [.ref a, y]) F hr hb no_pass I (.cons rfl (.cons ry .nil)) q) (fun r s' z => ?_) fun _ _ e => e
  obtain ⟨z', H', I', rz, b, rfl, qz⟩ := z
  cases (show r = Value.bool b from rz)
  exact ⟨.bl b, H', I', rfl, qz⟩
theorem op_neO {O1 : ObK X.K X.mg x C fns} (D : KpQ X.prog X.w X.K X.mg X.base c k C sp) (hr : Room (k + 1) X.A) : OpR X (compareOp .NotEq) (rCmpO X.K c C sp true) := by
  intro pins s σ H x y v u Q I rx ry h
  obtain ⟨a, dx, fs, t, rfl, ha, ty, hn, q⟩ := h
  obtain ⟨g, fd, ps, O, F, hb⟩ := D.ex
  cases (show v = Value.ref a from rx)
  obtain ⟨mA, OM, _⟩ := ins_get I.hok ha
  obtain ⟨od, J, _⟩ := OM.look
  obtain ⟨Pz, Z, hP, _⟩ := kit_of I ry ty
  show wpAny _ _ (richCompare .NotEq (.ref a) u) _ _ s
  have hu : X.A.units + 1 < cLine := by have := hr.un; omega
  refine cmpNe_K (L := 0) (h₀ := s.heap) (m := fun _ => none) hu I.kIn J (Z.ty _ _ I.kIn hP) hn O.ne O1.hm O.eqf O.fn ?_
  have bt := hb s [.ref a, u] I.kIn (by rw [List.append_nil]; exact F.len _ _ _ _ q)
  rw [List.append_nil] at bt
  refine wpAny_call (codeAny_mono (F.run X.A.in1 X.stack s H ⟨[.ref a, u], []⟩ _ [.ref a, y] _ _ hr.in1 I.env0.in1 bt (.cons rfl (.cons ry .nil)) q) fun r s' hq => ?_)
  cases r with
  | error e => exact (no_pass (σ := σ) pins H s e s' I hq : _)
  | ok fl => cases fl with
    | ret u =>
      obtain ⟨z', H', I', rz, b, rfl, qz⟩ := I.after hq
      cases (show u = Value.bool b from rz)
      exact ⟨b, rfl, .bl (!b), H', I', rfl, qz⟩
    | _ => exact False.elim hq
theorem ro_cmpO {x : Str} {fns : List Str} {n : Bool} (O : ObK X.K X.mg x C fns) (D : KpQ X.prog X.w X.K X.mg X.base c k C sp) : ROp c (rCmpO X.K c C sp n) (oCmpO C sp n) := by
  intro H0 F0 env F σ H x y sx sy R Q J rx ry hp fin
  obtain ⟨⟨ds, rfl⟩, hy, hs⟩ := hp
  obtain ⟨g, fd, ps, OQ, _, _⟩ := D.ex
  obtain ⟨a, rfl, dx, fs, e1, m, rr⟩ := rx
  have tyY : ∃ t, TyX X.K H y t ∧ PySem.W.notFirst X.K C t = true := by
    cases sy with
    | obj C' ds' =>
      have hy : C' = C := hy
      subst hy
      obtain ⟨b, rfl, dy, gs, e2, _, _⟩ := ry
      exact ⟨_, O.ty (J.b.sub _ _ e2), OQ.nf⟩
    | d z => exact ⟨_, rq_ty J.b.sub ry, OQ.nt _ (tyN_in z)⟩
    | _ => exact hy.elim
  obtain ⟨t, t1, t2⟩ := tyY
  refine ⟨a, dx, fs, t, rfl, J.b.sub _ _ e1, t1, t2, F, [.obj C ds, sy], _, _, J.b.here, .cons ⟨a, rfl, dx, fs, e1, m, rr⟩ (.cons ry .nil), rfl, hs, fun v s F' H' B rv q => ?_, fun C' d ds F' H' B x q => q⟩
  obtain ⟨b, rfl, q⟩ := q
  cases rv
  exact ⟨b, rfl, fin _ (.d _) F' H' (J.after B) B.fF (Rq.bl _) q⟩
end
end Px
namespace Px
open PySem PySem.Spec PyProof.Rows L2 Lx
/-! ### lists of one's own: read, written -/
section
variable {c : Cc} {H0 F0 F H : Hp} {env : Ev} {σ : St}
theorem nth_of : ∀ {env : Ev} {i : Nat} {s : Sl}, env[i]? = some (some s) → nth env i = some s
  | [], _, _, h => by simp at h
  | a :: _, 0, _, h => by simpa [nth] using h
  | _ :: l, n + 1, _, h => nth_of (env := l) (by simpa using h)
theorem set_same {σ : St} {i : Nat} {a : Option V} (h : σ[i]? = some a) : (σ.set i none).set i a = σ := by
  rw [List.set_set]
  refine List.ext_getElem? fun j => ?_
  by_cases hj : i = j
  · subst hj
    rw [List.getElem?_set_self (List.getElem?_eq_some_iff.mp h).1, h]
  · rw [List.getElem?_set_ne hj]
/-- what stands in one's own list, and how it is written -/
theorem Rel.wrOwn (R : Rel c H0 F0 env F σ H) {i : Nat} {ds : List PyData} (hn : nth env i = some (.own ds)) : ∃ q ys, σ[i]? = some (some (.ref q)) ∧ H q = some (.lst ys) ∧ RqAll F ys ds ∧ F q = none ∧
    ∀ zs es, RqAll F zs es → Rel c H0 F0 (env.set i (some (.own es))) F σ (upd H q (.lst zs)) := by
  obtain ⟨ov, e1, q, ys, e2, hF, h0, hq, r⟩ := R.get (nth_eq _ _ hn)
  subst e2
  refine ⟨q, ys, e1, hq, r, hF, fun zs es rz => ?_⟩
  have ne : ∀ (j : Nat) (xs : List PyData), j ≠ i → env[j]? = some (some (.own xs)) → σ[j]? ≠ some (some (.ref q)) := fun j xs hj e z => hj (R.sep j i q xs ds e (nth_eq _ _ hn) z e1)
  have hj' : ∀ {j : Nat} {xs : List PyData}, (env.set i none)[j]? = some (some (.own xs)) → j ≠ i := fun {j xs} e z => by
    subst z
    rw [List.getElem?_set_self (by have := (List.getElem?_eq_some_iff.mp e).1; simpa using this)] at e
    cases e
  have ne2 : ∀ (j : Nat) (xs : List PyData), j ≠ i → (env.set i none)[j]? = some (some (.own xs)) → (σ.set i none)[j]? ≠ some (some (.ref q)) := fun j xs hj e z => by
    rw [List.getElem?_set_ne (Ne.symm hj)] at e z
    exact ne j xs hj e z
  have J3 := (R.any i none).wrAt (zs := zs) hq hF h0 fun j xs e z => ne2 j xs (hj' e) e z
  have J4 := J3.own (ds := es) i hF h0 upd_same rz ne2
  rw [set_same e1, List.set_set] at J4
  exact J4
end
section
variable {X : Cx} {c : Cc} {W : WX}
/-- len(x) -/
def pLenO (i : Nat) : PTE := fun env R _ => match nth env i with
  | some (.own ds) => R (.d (.int (ds.length : Nat)))
  | _ => False
theorem pu_lenO (i : Nat) {x : Str} {p p2 pos : Pos} (hm : X.mg "len" = none) (hN : X.N[i]? = some x := by rfl) (hv : Vis X.env.scope x := by first | exact Or.inl rfl | exact Or.inr (Or.inl rfl) | exact Or.inr (Or.inr rfl)) (hd : (x == ("__debug__" : Str)) = false := by decide) (hcd : (x == ("__classdict__" : Str)) = false := by decide) (hg : Gl X "len" := by rfl)
    (he : starEach [.Name x p2] X.env = (false, eval (.Name x p2) X.env) :: starEach [] X.env := by rfl) (hpl : (backTo pos (starEach [] X.env)).any (·.1) = false := by rfl) : PuE X c W (.Call (.Name "len" p) [.Name x p2] [] pos) (pLenO i) := by
  refine ⟨_, pe_callB c_len hg hm PySem.boot_len (pa_cons (pv i hN hv hd hcd) pa_nil he) (by decide) (by decide) he hpl, fun H0 F0 env F σ H R E Q J L hp fin => ?_⟩
  unfold pLenO at hp
  split at hp
  · rename_i ds hn
    obtain ⟨q, ys, e1, hq, r, _, _⟩ := J.wrOwn hn
    exact ⟨.ref q, e1, q, ys, rfl, .inl (sqL hq), fin _ (.d _) F H J (same_refl F) (Rq.int _) (by rw [r.len]; exact hp)⟩
  · exact hp.elim
/-- x[e] -/
def pIxO (i : Nat) (pa : PTE) : PTE := fun env R E => match nth env i with
  | some (.own ds) => pa env (fun s => match s with
    | .d (.int k) => ∃ d, atI ds k = some d ∧ R (.d d)
    | _ => False) E
  | _ => False
theorem pu_ixO (i : Nat) {x : Str} {b : Expr} {p2 pos : Pos} {pa : PTE} (hb : PuE X c W b pa) (hN : X.N[i]? = some x := by rfl) (hv : Vis X.env.scope x := by first | exact Or.inl rfl | exact Or.inr (Or.inl rfl) | exact Or.inr (Or.inr rfl)) (hd : (x == ("__debug__" : Str)) = false := by decide) (hcd : (x == ("__classdict__" : Str)) = false := by decide)
    (hs : PlainIx b := by exact fun _ _ => rfl) : PuE X c W (.Subscript (.Name x p2) b pos) (pIxO i pa) := by
  obtain ⟨tb, hb, rb⟩ := hb
  refine ⟨_, pe_ix ix_seq (pv i hN hv hd hcd) hb hs, fun H0 F0 env F σ H R E Q J L hp fin => ?_⟩
  unfold pIxO at hp
  split at hp
  · rename_i ds hn
    obtain ⟨q, ys, e1, hq, r, _, _⟩ := J.wrOwn hn
    refine ⟨.ref q, e1, rb _ _ _ _ _ _ _ _ _ J L hp fun v s F1 H1 J1 k1 r1 h1 => ?_⟩
    split at h1
    · cases r1
      obtain ⟨d, e, h1⟩ := h1
      obtain ⟨q', ys', e1', hq', r', _, _⟩ := J1.wrOwn hn
      rw [e1] at e1'
      cases e1'
      obtain ⟨w, e2, rw⟩ := atI_rel r' e
      exact .inl ⟨q, ys', _, w, rfl, rfl, sqL hq', e2, fin w (.d d) F1 H1 J1 k1 rw h1⟩
    · exact h1.elim
  · exact hp.elim
/-- tuple(x) -/
def pTupO (i : Nat) : PTE := fun env R _ => match nth env i with
  | some (.own ds) => R (.d (.tuple ds))
  | _ => False
theorem pu_tupO (i : Nat) {x : Str} {p p2 pos : Pos} (hm : X.mg "tuple" = none) (hN : X.N[i]? = some x := by rfl) (hv : Vis X.env.scope x := by first | exact Or.inl rfl | exact Or.inr (Or.inl rfl) | exact Or.inr (Or.inr rfl)) (hd : (x == ("__debug__" : Str)) = false := by decide) (hcd : (x == ("__classdict__" : Str)) = false := by decide) (hg : Gl X "tuple" := by rfl)
    (he : starEach [.Name x p2] X.env = (false, eval (.Name x p2) X.env) :: starEach [] X.env := by rfl) (hpl : (backTo pos (starEach [] X.env)).any (·.1) = false := by rfl) : PuE X c W (.Call (.Name "tuple" p) [.Name x p2] [] pos) (pTupO i) := by
  refine ⟨_, pe_callTy c_tuple hg hm (by decide +kernel) (pa_cons (pv i hN hv hd hcd) pa_nil he) (by decide) (by decide) he hpl, fun H0 F0 env F σ H R E Q J L hp fin => ?_⟩
  unfold pTupO at hp
  split at hp
  · rename_i ds hn
    obtain ⟨q, ys, e1, hq, r, _, _⟩ := J.wrOwn hn
    refine ⟨.ref q, e1, q, ys, rfl, .inl ⟨sqL hq, fun l hl => ?_⟩⟩
    have k2 : Same F (upd F l (.tup ys)) := same_upd (J.b.fnone hl)
    exact fin (.ref l) (.d _) _ _ (J.alloc hl _) k2 (Rq.tup upd_same (r.same k2)) hp
  · exact hp.elim
/-- a list's part -/
def pSlO (i : Nat) (lo hi : PTO) : PTE := fun env R E => match nth env i with
  | some (.own ds) => lo env (fun l => hi env (fun h => R (.d (.list (cutD ds l h)))) E) E
  | _ => False
theorem pu_slO (i : Nat) {x : Str} {lo hi : Option Expr} {p3 p2 pos : Pos} {pl ph : PTO} (hl : PuO X c W lo pl) (hh : PuO X c W hi ph) (hN : X.N[i]? = some x := by rfl) (hv : Vis X.env.scope x := by first | exact Or.inl rfl | exact Or.inr (Or.inl rfl) | exact Or.inr (Or.inr rfl)) (hd : (x == ("__debug__" : Str)) = false := by decide) (hcd : (x == ("__classdict__" : Str)) = false := by decide) :
    PuE X c W (.Subscript (.Name x p3) (.Slice lo hi none p2) pos) (pSlO i pl ph) := by
  obtain ⟨tl, hl, rl⟩ := hl
  obtain ⟨th, hh, rh⟩ := hh
  refine ⟨_, pe_slice sl_list (pv i hN hv hd hcd) hl hh, fun H0 F0 env F σ H R E Q J L hp fin => ?_⟩
  unfold pSlO at hp
  split at hp
  · rename_i ds hn
    obtain ⟨q, ys, e1, hq, r, _, _⟩ := J.wrOwn hn
    refine ⟨.ref q, e1, rl _ _ _ _ _ _ _ _ _ J L hp fun l F2 H2 J2 k2 h2 => rh _ _ _ _ _ _ _ _ _ J2 L h2 fun h F3 H3 J3 k3 h3 => ?_⟩
    obtain ⟨q', ys', e1', hq', r', _, _⟩ := J3.wrOwn hn
    rw [e1] at e1'
    cases e1'
    refine ⟨q, ys', rfl, sqL hq', fun p hn' => ?_⟩
    have k4 : Same F3 (upd F3 p (.lst (cutV ys' l h))) := same_upd (J3.b.fnone hn')
    exact fin (.ref p) (.d _) _ _ (J3.alloc hn' _) (same_trans k2 (same_trans k3 k4)) (Rq.lst upd_same ((cut_rel r' l h).same k4)) h3
  · exact hp.elim
/-- part of a list that is data -/
def pSlL (a : PTE) (lo hi : PTO) : PTE := fun env R E => a env (fun s => lo env (fun l => hi env (fun h => match s with
  | .d (.list ds) => R (.d (.list (cutD ds l h)))
  | _ => False) E) E) E
theorem pu_slL {e : Expr} {lo hi : Option Expr} {pos p2 : Pos} {pa : PTE} {pl ph : PTO} (ha : PuE X c W e pa) (hl : PuO X c W lo pl) (hh : PuO X c W hi ph) : PuE X c W (.Subscript e (.Slice lo hi none p2) pos) (pSlL pa pl ph) := by
  obtain ⟨ta, ha, ra⟩ := ha
  obtain ⟨tl, hl, rl⟩ := hl
  obtain ⟨th, hh, rh⟩ := hh
  refine ⟨_, pe_slice sl_list ha hl hh, fun H0 F0 env F σ H R E Q J L hp fin => ra _ _ _ _ _ _ _ _ _ J L hp fun v s F1 H1 J1 k1 r1 h1 => ?_⟩
  refine rl _ _ _ _ _ _ _ _ _ J1 L h1 fun l F2 H2 J2 k2 h2 => rh _ _ _ _ _ _ _ _ _ J2 L h2 fun h F3 H3 J3 k3 h3 => ?_
  split at h3
  · have r3 := RelS.same (same_trans k2 k3) r1
    cases r3 with
    | @lst a xs ds ea rr =>
      refine ⟨a, xs, rfl, sqL (J3.b.sub _ _ ea), fun p hn' => ?_⟩
      have k4 : Same F3 (upd F3 p (.lst (cutV xs l h))) := same_upd (J3.b.fnone hn')
      exact fin (.ref p) (.d _) _ _ (J3.alloc hn' _) (same_trans k1 (same_trans k2 (same_trans k3 k4))) (Rq.lst upd_same ((cut_rel rr l h).same k4)) h3
  · exact h3.elim
/-- x[e] = v -/
def psSetI (i : Nat) (pi pv : PTE) : PTS := fun P env => match nth env i with
  | some (.own ds) => pv env (fun s => match s with
    | .d y => pi env (fun t => match t with
      | .d (.int k) => ∃ j, ixN ds.length k = some j ∧ P.nx (env.set i (some (.own (ds.set j y))))
      | _ => False) P.ex
    | _ => False) P.ex
  | _ => False
theorem pus_setI (i : Nat) {x : Str} {e v : Expr} {p2 p3 pos : Pos} {pi pv' : PTE} (hi : PuE X c W e pi) (hv' : PuE X c W v pv') (hN : X.N[i]? = some x := by rfl) (hv : Vis X.env.scope x := by first | exact Or.inl rfl | exact Or.inr (Or.inl rfl) | exact Or.inr (Or.inr rfl)) (hd : (x == ("__debug__" : Str)) = false := by decide) (hcd : (x == ("__classdict__" : Str)) = false := by decide)
    (ha : ∀ v, assign (.Subscript (.Name x p2) e p3) X.env v = (do
      let ov ← holding [v] (eval (.Name x p2) X.env)
      let iv ← holding [v, ov] (eval e X.env)
      standAt p3
      holding [v, ov, iv] (setItem ov iv v)
      release [v, ov, iv] []) := by intro _; rfl)
    (hs : swapsWithSole [.Subscript (.Name x p2) e p3] v pos.line X.env = pure false := by rfl) (hw : swappedStores [.Subscript (.Name x p2) e p3] v X.env = pure none := by rfl)
    (h1 : (assignEach [.Subscript (.Name x p2) e p3] X.env).map (·.2) = [assign (.Subscript (.Name x p2) e p3) X.env] := by rfl) : PuS X c W (.Assign [.Subscript (.Name x p2) e p3] v pos) (psSetI i pi pv') := by
  obtain ⟨ti, hi, ri⟩ := hi
  obtain ⟨tv, hv', rv'⟩ := hv'
  refine ⟨_, ps_asg hv' (pg_sub (pv i hN hv hd hcd) hi set_list ha) hs hw h1, fun H0 F0 env F σ H D P J L h => ?_⟩
  unfold psSetI at h
  split at h
  · rename_i ds hn
    refine rv' _ _ _ _ _ _ _ _ _ J L.ex h fun y s F1 H1 J1 k1 r1 h1 => ?_
    split at h1
    · obtain ⟨q, ys, e1, hq, r, _, _⟩ := J1.wrOwn hn
      refine ⟨.ref q, e1, ri _ _ _ _ _ _ _ _ _ J1 L.ex h1 fun z s F2 H2 J2 k2 r2 h2 => ?_⟩
      split at h2
      · cases r2
        obtain ⟨j, hj, h2⟩ := h2
        obtain ⟨q', ys', e1', hq', r', _, wr⟩ := J2.wrOwn hn
        rw [e1] at e1'
        cases e1'
        exact ⟨q, ys', _, j, rfl, rfl, hq', by rw [r'.len]; exact hj, L.nx _ F2 _ _ (wr _ _ (r'.set j (r1.same k2))) (same_trans k1 k2) h2⟩
      · exact h2.elim
    · exact h1.elim
  · exact h.elim
/-- x.extend(e) -/
def psExt (i : Nat) (a : PTE) : PTS := fun P env => match nth env i with
  | some (.own ds) => a env (fun s => match s with
    | .d (.list es) => ds.length + es.length ≤ 1000000 ∧ P.nx (env.set i (some (.own (ds ++ es))))
    | _ => False) P.ex
  | _ => False
theorem pus_ext (i : Nat) {x : Str} {e : Expr} {p apos cpos pos : Pos} {pa : PTE} (ha : PuE X c W e pa) (hN : X.N[i]? = some x := by rfl) (hv : Vis X.env.scope x := by first | exact Or.inl rfl | exact Or.inr (Or.inl rfl) | exact Or.inr (Or.inr rfl))
    (hd : (x == ("__debug__" : Str)) = false := by decide) (hcd : (x == ("__classdict__" : Str)) = false := by decide) (hline : (apos.endLine == cpos.line) = true := by rfl) (he : starEach [e] X.env = (false, eval e X.env) :: starEach [] X.env := by rfl)
    (hbase : attributeBase (.Name x p) "extend" X.env (eval (.Name x p) X.env) = eval (.Name x p) X.env := by rfl)
    (hfew : ((backTo cpos (starEach [e] X.env)).all (fun x => !x.1) && (backToKw cpos (keywordEach [] X.env)).all (fun x => x.1.isSome) && decide ([e].length + ([] : List Keyword).length + (if ([] : List Keyword).isEmpty then 0 else 1) < 30)) = true := by rfl)
    (hs : swapsWith (.Call (.Attribute (.Name x p) "extend" apos) [e] [] cpos) none pos.line X.env = pure false := by rfl) : PuS X c W (.Expr (.Call (.Attribute (.Name x p) "extend" apos) [e] [] cpos) pos) (psExt i pa) := by
  obtain ⟨ta, ha, ra⟩ := ha
  refine ⟨_, ps_expr (pe_bm PySem.F.plainAttrs_list PySem.F.slot_list_extend PySem.F.type_list_extend mt_extend (pv i hN hv hd hcd) (pa_cons ha pa_nil he) hbase hfew hline he (by rfl)) hs, fun H0 F0 env F σ H D P J L h => ?_⟩
  unfold psExt at h
  split at h
  · rename_i ds hn
    obtain ⟨q, ys, e1, hq, r, _, _⟩ := J.wrOwn hn
    refine ⟨.ref q, e1, tyL hq, ra _ _ _ _ _ _ _ _ _ J L.ex h fun v s F1 H1 J1 k1 r1 h1 => ?_⟩
    split at h1
    · obtain ⟨q', ys', e1', hq', r', _, wr⟩ := J1.wrOwn hn
      rw [e1] at e1'
      cases e1'
      cases r1 with
      | @lst b zs es eb rb => exact ⟨q, b, ys', zs, rfl, rfl, hq', J1.b.sub _ _ eb, by rw [r'.len, rb.len]; exact Nat.le_trans h1.1 (by decide), L.nx _ F1 σ _ (wr _ _ (r'.app rb)) k1 h1.2⟩
    · exact h1.elim
  · exact h.elim
/-- y.append(x.pop(e)) -/
def psAppPop (j i : Nat) (a : PTE) : PTS := fun P env => match nth env j with
  | some (.own ds) => match nth env i with
    | some (.own es) => a env (fun s => match s with
      | .d (.int k) => ∃ n y, ixN es.length k = some n ∧ es[n]? = some y ∧ -(2 ^ 63) ≤ k ∧ k < 2 ^ 63 ∧ ds.length ≤ 1000000 ∧ P.nx ((env.set i (some (.own (es.eraseIdx n)))).set j (some (.own (ds ++ [y]))))
      | _ => False) P.ex
    | _ => False
  | _ => False
theorem RqAll.erase {F : Hp} : ∀ {vs : List V} {ds : List PyData} (n : Nat), RqAll F vs ds → RqAll F (vs.eraseIdx n) (ds.eraseIdx n)
  | _, _, _, .nil => .nil
  | _, _, 0, .cons a b => b
  | _, _, n + 1, .cons a b => .cons a (b.erase n)
theorem pus_appPop (j i : Nat) {x y : Str} {e : Expr} {p p2 apos apos2 cpos cpos2 pos : Pos} {pa : PTE} (ha : PuE X c W e pa) (hij : i ≠ j := by decide) (hNx : X.N[i]? = some x := by rfl) (hvx : Vis X.env.scope x := by first | exact Or.inl rfl | exact Or.inr (Or.inl rfl) | exact Or.inr (Or.inr rfl)) (hNy : X.N[j]? = some y := by rfl) (hvy : Vis X.env.scope y := by first | exact Or.inl rfl | exact Or.inr (Or.inl rfl) | exact Or.inr (Or.inr rfl))
    (hdx : (x == ("__debug__" : Str)) = false := by decide) (hcx : (x == ("__classdict__" : Str)) = false := by decide) (hdy : (y == ("__debug__" : Str)) = false := by decide) (hcy : (y == ("__classdict__" : Str)) = false := by decide)
    (hl1 : (apos.endLine == cpos.line) = true := by rfl) (hl2 : (apos2.endLine == cpos2.line) = true := by rfl) (he2 : starEach [e] X.env = (false, eval e X.env) :: starEach [] X.env := by rfl)
    (he : starEach [.Call (.Attribute (.Name x p2) "pop" apos2) [e] [] cpos2] X.env = (false, eval (.Call (.Attribute (.Name x p2) "pop" apos2) [e] [] cpos2) X.env) :: starEach [] X.env := by rfl)
    (hb1 : attributeBase (.Name y p) "append" X.env (eval (.Name y p) X.env) = eval (.Name y p) X.env := by rfl) (hb2 : attributeBase (.Name x p2) "pop" X.env (eval (.Name x p2) X.env) = eval (.Name x p2) X.env := by rfl)
    (hf1 : ((backTo cpos (starEach [.Call (.Attribute (.Name x p2) "pop" apos2) [e] [] cpos2] X.env)).all (fun x => !x.1) && (backToKw cpos (keywordEach [] X.env)).all (fun x => x.1.isSome) && decide ([Expr.Call (.Attribute (.Name x p2) "pop" apos2) [e] [] cpos2].length + ([] : List Keyword).length + (if ([] : List Keyword).isEmpty then 0 else 1) < 30)) = true := by rfl)
    (hf2 : ((backTo cpos2 (starEach [e] X.env)).all (fun x => !x.1) && (backToKw cpos2 (keywordEach [] X.env)).all (fun x => x.1.isSome) && decide ([e].length + ([] : List Keyword).length + (if ([] : List Keyword).isEmpty then 0 else 1) < 30)) = true := by rfl)
    (hs : swapsWith (.Call (.Attribute (.Name y p) "append" apos) [.Call (.Attribute (.Name x p2) "pop" apos2) [e] [] cpos2] [] cpos) none pos.line X.env = pure false := by rfl) :
    PuS X c W (.Expr (.Call (.Attribute (.Name y p) "append" apos) [.Call (.Attribute (.Name x p2) "pop" apos2) [e] [] cpos2] [] cpos) pos) (psAppPop j i pa) := by
  obtain ⟨ta, ha, ra⟩ := ha
  refine ⟨_, ps_expr (pe_bm PySem.F.plainAttrs_list PySem.F.slot_list_append PySem.F.type_list_append mt_append (pv j hNy hvy hdy hcy) (pa_cons (pe_bm PySem.F.plainAttrs_list PySem.F.slot_list_pop PySem.F.type_list_pop mt_popAt (pv i hNx hvx hdx hcx) (pa_cons ha pa_nil he2) hb2 hf2 hl2 he2 (by rfl)) pa_nil he) hb1 hf1 hl1 he (by rfl)) hs, fun H0 F0 env F σ H D P J L h => ?_⟩
  unfold psAppPop at h
  split at h
  · rename_i ds hn
    split at h
    · rename_i es hm
      obtain ⟨q, ys, e1, hq, r, _, _⟩ := J.wrOwn hn
      obtain ⟨u, us, f1, hu, ru, _, _⟩ := J.wrOwn hm
      refine ⟨.ref q, e1, tyL hq, .ref u, f1, tyL hu, ra _ _ _ _ _ _ _ _ _ J L.ex h fun v s F1 H1 J1 k1 r1 h1 => ?_⟩
      split at h1
      · cases r1
        obtain ⟨n, d, hx, hy, b1, b2, hl, h1⟩ := h1
        obtain ⟨u', us', f1', hu', ru', _, wr⟩ := J1.wrOwn hm
        rw [f1] at f1'
        cases f1'
        obtain ⟨w, hw, rw'⟩ := ru'.get hy
        have J2 := wr _ _ (ru'.erase n)
        have hn2 : nth (env.set i (some (.own (es.eraseIdx n)))) j = some (.own ds) := by
          have := nth_eq _ _ hn
          have z : (env.set i (some (.own (es.eraseIdx n))))[j]? = some (some (.own ds)) := by rw [List.getElem?_set_ne hij]; exact this
          exact nth_of z
        obtain ⟨q', ys', e1', hq', r', _, wr2⟩ := J2.wrOwn hn2
        rw [e1] at e1'
        cases e1'
        refine ⟨u, us', _, n, w, rfl, rfl, hu', b1, b2, (ixN_seq (by rw [ru'.len]; exact hx)).1, hw, q, ys', w, rfl, rfl, hq', by rw [r'.len]; exact Nat.lt_of_le_of_lt hl (by decide), ?_⟩
        exact L.nx _ F1 σ _ (wr2 _ _ (r'.snoc rw')) k1 h1
      · exact h1.elim
    · exact h.elim
  · exact h.elim
end
end Px
namespace Px
open PySem PySem.Spec PyProof.Rows L2 Lx
/-! ### new lists, one's own -/
abbrev PTN := Ev → (List PyData → Prop) → XP → Prop
def FinN (c : Cc) (H0 F0 : Hp) (env : Ev) (F : Hp) (σ : St) (R : List PyData → Prop) (Q : VK) : Prop := ∀ (q : Addr) (ys : List V) (ds : List PyData) (F' H' : Hp), Rel c H0 F0 env F' σ H' → Same F F' → F' q = none → Nw H0 q → H' q = some (.lst ys) → RqAll F' ys ds →
  (∀ (i : Nat) (xs : List PyData), env[i]? = some (some (.own xs)) → σ[i]? ≠ some (some (.ref q))) → R ds → Q (.ref q) H'
def RdN (c : Cc) (W : WX) (t : TE) (pn : PTN) : Prop := ∀ (H0 F0 : Hp) (env : Ev) (F : Hp) (σ : St) (H : Hp) (R : List PyData → Prop) (E : XP) (Q : VK), Rel c H0 F0 env F σ H → LinkX c H0 F0 W E → pn env R E → FinN c H0 F0 env F σ R Q → t σ H Q
def PuN (X : Cx) (c : Cc) (W : WX) (e : Expr) (pn : PTN) : Prop := ∃ t, PE X e t ∧ RdN c W t pn
def pLcN (it : PTI) (g : PTG) (tt : PTT) (pe : PTE) (vs : List Nat) : PTN := fun env R E => it env (fun ds => pLcL g tt pe (wipeE (noOwn env) vs) ds [] R) E
section
variable {X : Cx} {c : Cc} {W : WX}
theorem rd_lcN {wi : TI} {pi : PTI} {g : TG} {pg : PTG} {is : List Nat} {tt : TT} {pt : PTT} {te : TE} {pe : PTE} {vs : List Nat} (ri : RdI c W wi pi) (rg : RdG c g pg is) (hsub : ∀ i ∈ is, i ∈ vs) (rt : RdT c WNo tt pt) (re : Rd c WNo te pe) : RdN c W (tLc wi g tt te vs) (pLcN pi pg pt pe vs) := by
  intro H0 F0 env F σ H R E Q J L hp fin
  refine ri _ _ _ _ _ _ _ _ _ J L hp fun I F1 H1 ds J1 k1 wk h1 => ?_
  intro D hD
  have hown := own_ne J1 hD
  have J2 := J1.new hD (.lst [])
  have h0 : Nw H0 D := J1.b.h0 hD
  have fD : F1 D = none := J1.b.fnone hD
  refine ⟨fun i m H => i + m = ds.length ∧ ∃ (F' : Hp) (acc : List V) (ad : List PyData), Rel c H0 F0 env F' σ H ∧ Same F1 F' ∧ F' D = none ∧ H D = some (.lst acc) ∧ RqAll F' acc ad ∧ pLcL pg pt pe (wipeE (noOwn env) vs) (ds.drop i) ad R,
    ⟨ds.length, by omega, F1, [], [], J2, same_refl F1, fD, upd_same, .nil, by simpa using h1⟩, ?_⟩
  rintro i m H2 ⟨hm, F2, acc, ad, J3, k2, fD2, hD2, ra, h2⟩
  cases m with
  | zero =>
    have hi : i = ds.length := by omega
    subst hi
    rw [List.drop_length] at h2
    refine .inl ⟨wk.stop _ _ _ _ _ _ J3 k2, ?_⟩
    exact fin D acc ad F2 H2 J3 (same_trans k1 k2) fD2 h0 hD2 ra hown h2
  | succ m =>
    have hi : i < ds.length := by omega
    have ed : ds.drop i = ds[i] :: ds.drop (i + 1) := List.drop_eq_getElem_cons hi
    rw [ed] at h2
    obtain ⟨go, yl⟩ := wk.go _ _ _ _ _ _ i ds[i] J3 k2 (List.getElem?_eq_getElem hi)
    refine .inr ⟨go, fun H' => ∃ (F' : Hp) (acc : List V) (ad : List PyData), Rel c H0 F0 env F' σ H' ∧ Same F1 F' ∧ F' D = none ∧ H' D = some (.lst acc) ∧ RqAll F' acc ad ∧ pLcL pg pt pe (wipeE (noOwn env) vs) (ds.drop (i + 1)) ad R,
      fun H' ⟨a1, a2, a3, a4⟩ => ⟨m, by omega, by omega, a1, a2, a3, a4⟩, fun x H3 hy => ?_⟩
    -- the item may be a new pair: seen from the heap ahead of it
    have JI := (J3.inner).wipe vs
    obtain ⟨F3, J4, k3, r3⟩ := (wk.go _ _ _ _ _ _ i ds[i] JI k2 (List.getElem?_eq_getElem hi)).2 x H3 hy
    refine rg _ _ _ _ _ _ _ (.d ds[i]) _ _ J4 r3 h2 fun env4 σ4 J5 l4 o4 h4 => ?_
    refine ⟨wipe_eq (by rw [l4, L2.wipe_length]) fun j hj => o4 j fun z => hj (hsub j z), ?_⟩
    refine rt _ _ _ _ _ _ _ _ _ J5 link_no h4 fun b F5 H5 J6 k5 h5 => ?_
    have nD : ∀ {G H' : Hp} {e : Ev} {τ : St}, Rel c H2 F2 e G τ H' → H' D = some (.lst acc) ∧ G D = none := fun {G H' e τ} J' => by
      refine ⟨J'.b.fr D _ (J3.b.noutL hD2) (fun ps z => by cases z) hD2, ?_⟩
      cases e' : G D with
      | none => rfl
      | some o =>
        rcases J'.b.fN D (by rw [e']; simp) with z | z
        · exact absurd fD2 z
        · obtain ⟨ps, z⟩ := z _ hD2; cases z
    cases b with
    | false =>
      show ∃ F', _
      have B := J6.b
      have k6 : Same F2 F5 := B.fF
      exact ⟨F5, acc, ad, J3.after B, same_trans k2 k6, (nD J6).2, (nD J6).1, ra.same k6, h5.2 rfl⟩
    | true =>
      show te σ4 H5 _
      refine re _ _ _ _ _ _ _ _ _ J6 link_no (h5.1 rfl) fun v s F7 H7 J7 k7 r7 h7 => ?_
      have B := J7.b
      have k6 : Same F2 F7 := B.fF
      split at h7
      · have J8 := (J3.after B).wrAt (zs := acc ++ [v]) (nD J7).1 (nD J7).2 h0 hown
        refine ⟨acc, (nD J7).1, ?_, F7, acc ++ [v], _, J8, same_trans k2 k6, (nD J7).2, upd_same, (ra.same k6).app (.cons r7 .nil), h7.2⟩
        rw [ra.len]
        exact Nat.lt_of_le_of_lt h7.1 (by decide)
      · exact h7.elim
theorem pun_lc {elt tg iter : Expr} {scope : Scope} {own : List (Str × Nat)} {pos : Pos} {pi : PTI} {pg : PTG} {is : List Nat} {pe : PTE} (hc : X.calm = true) (hN : X.N.Nodup) (hi : PuI X c W tg iter pi) (ok : BlkOk X.N X.env.scope scope own) (hg : ∀ i : CI, PuG (i.blk X scope) c tg pg is)
    (he : ∀ i : CI, PuE (i.blk X scope) c WNo elt pe) (hsub : ∀ i ∈ is, i ∈ own.map (·.2) := by decide) (hs : ∀ x, foldedSetIterable iter X.env x = pure x := by intro _; rfl) : PuN X c W (.ListComp elt [⟨tg, iter, [], 0⟩] scope pos) (pLcN pi pg pYes pe (own.map (·.2))) := by
  obtain ⟨wi, hi, ri⟩ := hi
  obtain ⟨g, hg, rg⟩ := unifG hg
  obtain ⟨te, he, re⟩ := unifE he
  exact ⟨_, pe_lc hc hN hi ok (fun s H C cl fp => hg ⟨s, H, C, cl, fp⟩) (fun _ _ _ _ _ => pts_nil) (fun s H C cl fp => he ⟨s, H, C, cl, fp⟩) hs,
    rd_lcN ri rg hsub (fun H0 F0 env F σ H R E Q J L hp fin => fin true F H J (same_refl F) hp) re⟩
def pLstN (a : PTA) : PTN := fun env R E => a env (fun ss => allD ss fun ds => ds.length ≤ 1000 ∧ R ds) E
theorem pun_lst {es : List Expr} {p : Pos} {pa : PTA} (ha : PuA X c W es pa) : PuN X c W (.List es p) (pLstN pa) := by
  obtain ⟨ta, ha, ra⟩ := ha
  refine ⟨_, pe_lst ha, fun H0 F0 env F σ H R E Q J L h fin => ra _ _ _ _ _ _ _ _ _ J L h fun vs ss F1 H1 J1 k1 r1 h1 => ?_⟩
  obtain ⟨ds, r2, hl, q⟩ := allD_d r1 h1
  refine ⟨by rw [r2.len]; exact Nat.le_trans hl (by decide), fun p hp => ?_⟩
  exact fin p vs ds F1 _ (J1.new hp _) k1 (J1.b.fnone hp) (J1.b.h0 hp) upd_same r2 (own_ne J1 hp) q
/-- list(e) -/
def pListN (a : PTE) : PTN := fun env R E => a env (fun s => match s with
  | .d (.tuple ds) => R ds
  | .d (.list ds) => R ds
  | _ => False) E
theorem pun_list {e : Expr} {p pos : Pos} {pa : PTE} (hm : X.mg "list" = none) (ha : PuE X c W e pa) (hg : Gl X "list" := by rfl) (he : starEach [e] X.env = (false, eval e X.env) :: starEach [] X.env := by rfl) (hpl : (backTo pos (starEach [] X.env)).any (·.1) = false := by rfl) :
    PuN X c W (.Call (.Name "list" p) [e] [] pos) (pListN pa) := by
  obtain ⟨ta, ha, ra⟩ := ha
  refine ⟨_, pe_callTy c_list hg hm (by decide +kernel) (pa_cons ha pa_nil he) (by decide) (by decide) he hpl, fun H0 F0 env F σ H R E Q J L h fin => ra _ _ _ _ _ _ _ _ _ J L h fun v s F1 H1 J1 k1 r1 h1 => ?_⟩
  split at h1
  · cases r1 with
    | @tup a xs ds e rr => exact ⟨a, xs, rfl, .inr (sqT (J1.b.sub _ _ e)), fun l hl => fin l xs _ F1 _ (J1.new hl _) k1 (J1.b.fnone hl) (J1.b.h0 hl) upd_same rr (own_ne J1 hl) h1⟩
  · cases r1 with
    | @lst a xs ds e rr => exact ⟨a, xs, rfl, .inl (sqL (J1.b.sub _ _ e)), fun l hl => fin l xs _ F1 _ (J1.new hl _) k1 (J1.b.fnone hl) (J1.b.h0 hl) upd_same rr (own_ne J1 hl) h1⟩
  · exact h1.elim
/-- x = e, e a new list -/
def psOwnN (i : Nat) (a : PTN) : PTS := fun P env => a env (fun ds => P.nx (env.set i (some (.own ds)))) P.ex
theorem pus_ownN {i : Nat} {x : Str} {e : Expr} {pos pos' : Pos} {pn : PTN} (hN : X.N.Nodup) (ha : PuN X c W e pn) (hi : X.N[i]? = some x := by rfl) (hx : Loc X.env.scope x := by first | exact .inl rfl | exact .inr rfl) (hs : swapsWith e (some (.Name x pos')) pos.line X.env = pure false := by rfl)
    (hf : X.fn x = true ∨ X.env.scope.names.lookup x = some .local := by first | exact .inl rfl | exact .inr rfl | assumption) : PuS X c W (.Assign [.Name x pos'] e pos) (psOwnN i pn) := by
  obtain ⟨ta, ha, ra⟩ := ha
  refine ⟨_, ps_set hN hi hx ha hs hf, fun H0 F0 env F σ H D P J L h => ra _ _ _ _ _ _ _ _ _ J L.ex h fun q ys ds F1 H1 J1 k1 f1 n1 h1 r1 ne hp => ?_⟩
  exact L.nx _ F1 _ _ (J1.own i f1 n1 h1 r1 fun j xs _ e1 e2 => ne j xs e1 e2) k1 hp
/-- x, y = e1, e2: new lists both -/
def psParNN (i j : Nat) (a b : PTN) : PTS := fun P env => a env (fun ds => b (noOwn env) (fun es => P.nx ((env.set i (some (.own ds))).set j (some (.own es)))) ENo) P.ex
/-- the second one data -/
def psParNE (i j : Nat) (a : PTN) (b : PTE) : PTS := fun P env => a env (fun ds => b (noOwn env) (fun s => (match s with | .d _ => True | _ => False) ∧ P.nx ((env.set i (some (.own ds))).set j (some s))) ENo) P.ex
theorem Rel.keepN {H0 F0 F1 H1 F2 H2 : Hp} {env : Ev} {σ : St} {q : Addr} {ys : List V} (J1 : Rel c H0 F0 env F1 σ H1) {env' : Ev} {σ' : St} (J2 : Rel c H1 F1 env' F2 σ' H2) (fq : F1 q = none) (hq : H1 q = some (.lst ys)) : F2 q = none ∧ H2 q = some (.lst ys) := by
  refine ⟨?_, J2.b.fr q _ (J1.b.noutL hq) (fun ps z => by cases z) hq⟩
  cases e : F2 q with
  | none => rfl
  | some o =>
    rcases J2.b.fN q (by rw [e]; simp) with z | z
    · exact absurd fq z
    · obtain ⟨ps, z⟩ := z _ hq; cases z
theorem pus_parNN {i j : Nat} {x y : Str} {a b : Expr} {pa pb : PTN} {px py pt pos : Pos} {kt k2 pt2} (hc : X.calm = true) (hN : X.N.Nodup) (ha : PuN X c W a pa) (hb : PuN X c W b pb) (hi : X.N[i]? = some x := by rfl) (hj : X.N[j]? = some y := by rfl) (hij : i ≠ j := by decide)
    (hx : X.env.scope.names.lookup x = some .local := by rfl) (hy : X.env.scope.names.lookup y = some .local := by rfl) (h1 : starEach [a, b] X.env = (false, eval a X.env) :: starEach [b] X.env := by rfl) (h2 : starEach [b] X.env = (false, eval b X.env) :: starEach [] X.env := by rfl)
    (hw : swappedStores [.Tuple [.Name x px, .Name y py] kt pt] (.Tuple [a, b] k2 pt2) X.env = pure (some [x, y]) := by rfl)
    (hs : swapsWithSole [.Tuple [.Name x px, .Name y py] kt pt] (.Tuple [a, b] k2 pt2) pos.line X.env = pure false := by rfl) :
    PuS X c W (.Assign [.Tuple [.Name x px, .Name y py] kt pt] (.Tuple [a, b] k2 pt2) pos) (psParNN i j pa pb) := by
  obtain ⟨ta, ha, ra⟩ := ha
  obtain ⟨tb, hb, rb⟩ := hb
  refine ⟨_, ps_par hc hN hi hj hij hx hy (pa_cons ha (pa_cons hb pa_nil h2) h1) hw hs, fun H0 F0 env F σ H D P J L h => ra _ _ _ _ _ _ _ _ _ J L.ex h fun q ys ds F1 H1 J1 k1 f1 n1 g1 r1 ne hp => ?_⟩
  refine rb _ _ _ _ _ _ _ _ _ J1.inner link_no hp fun q2 zs es F2 H2 J2 k2' f2 n2 g2 r2 _ hp2 => ?_
  obtain ⟨f3, g3⟩ := Rel.keepN J1 J2 f1 g1
  have J3 := J1.after J2.b
  have qq : q2 ≠ q := fun z => by
    subst z
    obtain ⟨ps, z⟩ := n2 _ g1
    cases z
  have n3 : Nw H0 q2 := fun o e => by
    by_cases m : ∃ ps, o = .tbl ps
    · exact m
    · exact n2 o (J1.b.fr q2 o (J2.b.noutL g2) (fun ps z => m ⟨ps, z⟩) e)
  have J4 := J3.own (ds := ds) i f3 n1 g3 (r1.same k2') fun j' xs _ e1 e2 => ne j' xs e1 e2
  have J5 := J4.own (ds := es) j f2 n3 g2 r2 fun j' xs hj' e1 e2 => by
    by_cases hi' : i = j'
    · subst hi'
      rw [List.getElem?_set_self (by have := (List.getElem?_eq_some_iff.mp e2).1; simpa using this)] at e2
      exact qq (V.ref.inj (Option.some.inj (Option.some.inj e2))).symm
    · rw [List.getElem?_set_ne hi'] at e1 e2
      obtain ⟨ov, e3, p, us, rfl, _, _, b3, _⟩ := J1.get e1
      rw [e2] at e3
      cases e3
      obtain ⟨ps, z⟩ := n2 _ b3
      cases z
  exact ⟨_, _, rfl, L.nx _ F2 _ _ J5 (same_trans k1 k2') hp2⟩
theorem pus_parNE {i j : Nat} {x y : Str} {a b : Expr} {pa : PTN} {pb : PTE} {px py pt pos : Pos} {kt k2 pt2} (hc : X.calm = true) (hN : X.N.Nodup) (ha : PuN X c W a pa) (hb : PuE X c W b pb) (hi : X.N[i]? = some x := by rfl) (hj : X.N[j]? = some y := by rfl) (hij : i ≠ j := by decide)
    (hx : X.env.scope.names.lookup x = some .local := by rfl) (hy : X.env.scope.names.lookup y = some .local := by rfl) (h1 : starEach [a, b] X.env = (false, eval a X.env) :: starEach [b] X.env := by rfl) (h2 : starEach [b] X.env = (false, eval b X.env) :: starEach [] X.env := by rfl)
    (hw : swappedStores [.Tuple [.Name x px, .Name y py] kt pt] (.Tuple [a, b] k2 pt2) X.env = pure (some [x, y]) := by rfl)
    (hs : swapsWithSole [.Tuple [.Name x px, .Name y py] kt pt] (.Tuple [a, b] k2 pt2) pos.line X.env = pure false := by rfl) :
    PuS X c W (.Assign [.Tuple [.Name x px, .Name y py] kt pt] (.Tuple [a, b] k2 pt2) pos) (psParNE i j pa pb) := by
  obtain ⟨ta, ha, ra⟩ := ha
  obtain ⟨tb, hb, rb⟩ := hb
  refine ⟨_, ps_par hc hN hi hj hij hx hy (pa_cons ha (pa_cons hb pa_nil h2) h1) hw hs, fun H0 F0 env F σ H D P J L h => ra _ _ _ _ _ _ _ _ _ J L.ex h fun q ys ds F1 H1 J1 k1 f1 n1 g1 r1 ne hp => ?_⟩
  refine rb _ _ _ _ _ _ _ _ _ J1.inner link_no hp fun v s F2 H2 J2 k2' rv hp2 => ?_
  obtain ⟨f3, g3⟩ := Rel.keepN J1 J2 f1 g1
  have J3 := J1.after J2.b
  have J4 := J3.own (ds := ds) i f3 n1 g3 (r1.same k2') fun j' xs _ e1 e2 => ne j' xs e1 e2
  exact ⟨_, _, rfl, L.nx _ F2 _ _ (J4.set j rv) (same_trans k1 k2') hp2.2⟩
end
end Px
namespace Px
open PySem PySem.Spec PyProof.Rows L2 Lx
/-! ### enumerate of a tuple -/
theorem meets_enum1 {v : Value} {o : Obj} {Hz : Heap → Prop} (B : Begins v o Hz) :
    Meets (Builtin.«enumerate.__new__» ⟨[.type "enumerate", v], []⟩) (fun _ R s => Hz s.heap ∧ R (.ok (.ret (.ref (s.heap.push o).objs.size))) { s with heap := (s.heap.push o).push { cls := .type "enumerate", data := .fields #[.none, .bool false, .ref s.heap.objs.size, rawInt 0, .none, .none] } }) :=
  .of_wp fun prog w A R s hh => by
    obtain ⟨hp, gs, dn, tk, os⟩ := s
    obtain ⟨hz, hh⟩ := hh
    have hsub := sub_enumerate
    have it1 {A' : Around} {E : Value → Shared → Prop} {Q : Value → Shared → Prop} (q : Q (.ref hp.objs.size) ⟨hp.push o, gs, dn, tk, os⟩) : wpAny (model prog w) A' (pyIter v) Q E ⟨hp, gs, dn, tk, os⟩ := B.iter prog w _ _ ⟨hp, gs, dn, tk, os⟩ _ hz q
    wp_walk using it1
    refine wpAny_stack_any fun st => wpAny_pure ?_
    split
    · rename_i c _ _ _ _ _
      cases (c == Value.type "enumerate") <;> (wp_walk using it1; exact ⟨_, rfl, hh⟩)
    · wp_walk using it1
      exact ⟨_, rfl, hh⟩
theorem enum_new {prog : Program} {w : World} {A : Around} {E : Value → Shared → Prop} {s : Shared} {v : Value} {o : Obj} {Hz : Heap → Prop} {Q : Value → Shared → Prop} (B : Begins v o Hz) (hz : Hz s.heap)
    (hQ : ∀ h' : Heap, IsEnum h' (s.heap.objs.size + 1) s.heap.objs.size 0 .none → h'.get? s.heap.objs.size = some o → (∀ b u, s.heap.get? b = some u → h'.get? b = some u) → Q (.ref (s.heap.objs.size + 1)) { s with heap := h' }) :
    wpAny (model prog w) A (call (.type "enumerate") [v]) Q E s := by
  have sz : (s.heap.push o).objs.size = s.heap.objs.size + 1 := Heap.size_push ..
  have keep : ∀ (o2 : Obj) b u, s.heap.get? b = some u → ((s.heap.push o).push o2).get? b = some u := fun o2 b u e => Heap.get?_push_of_some _ (Heap.get?_push_of_some _ e)
  have he : IsEnum ((s.heap.push o).push { cls := .type "enumerate", data := .fields #[.none, .bool false, .ref s.heap.objs.size, rawInt 0, .none, .none] }) (s.heap.objs.size + 1) s.heap.objs.size 0 .none := by
    rw [← sz]
    exact Heap.get?_push_size _ rfl
  refine callType_new F.called_enumerate (by decide) (F.typeCall_enumerate_1 _) (F.newCall_enumerate_1 _) (fun ob => F.args_object_init_2 ob _) F.entry_enumerate_new (meets_enum1 B) ⟨hz, ?_⟩
  show _ ∧ _
  rw [sz]
  exact ⟨⟨_, he, rfl⟩, hQ _ he (Heap.get?_push_of_some _ (Heap.get?_push_size _ B.free)) (keep _)⟩
/-- the tuple at a, each item in a new pair -/
def IteT (K : PySem.W.Frag) (a : Addr) : It :=
  ⟨fun i H => ∃ (xs : List V) (x : V), SqT K H a xs ∧ xs[i]? = some x, fun i H v H' => ∃ T x, v = .ref T ∧ H T = none ∧ H' = upd H T (.tup [.int (i : Nat), x]) ∧ ∀ xs, SqT K H a xs → xs[i]? = some x, fun i H => ∃ xs : List V, SqT K H a xs ∧ xs.length = i⟩
theorem turn_enumT {P : Program} {w : World} {K : PySem.W.Frag} {elts : List Expr} {kk : Nat} {tpos : Pos} (a e it : Addr) :
    Turn P w K (.Tuple elts kk tpos) (IteT K a) [e, it] e (fun i h => (∃ old, IsEnum h e it ((i : Nat) : Int) old) ∧ h.IsTupleIter it a i ∧ e ≠ it) where
  mem := List.mem_cons_self
  obj := fun i h st b hb => by
    obtain ⟨⟨old, he⟩, ⟨o, ho, hc, hd⟩, _⟩ := st
    rcases (show b = e ∨ b = it by simpa using hb) with rfl | rfl
    · exact ⟨_, he, fun v q => nomatch q⟩
    · exact ⟨o, ho, fun v q => by rw [hd] at q; cases q⟩
  keep := fun i h h' ⟨⟨old, he⟩, hi, hne⟩ k => ⟨⟨old, k e (by simp) _ he⟩, hi.at fun o q => k it (by simp) o q, hne⟩
  item := by
    intro X hP hw hK hc i pins s σ H E I hf st hg
    subst hP hw hK
    obtain ⟨⟨old, he⟩, hit, hne⟩ := st
    obtain ⟨xs, x, hq, hx⟩ := hg
    obtain ⟨its, rv, p, hz⟩ := I.tuple hq
    obtain ⟨u, hu, ru⟩ := rv.get hx
    have pt : s.heap.IsTuple a its.toArray := p
    have na : a ≠ it := fun z => by
      obtain ⟨o1, q1, c1, _⟩ := pt
      obtain ⟨o2, q2, c2, _⟩ := hit
      rw [z, q2] at q1
      cases q1
      exact absurd (Value.type.inj (c2.symm.trans c1)) (by decide)
    have nea : e ≠ a := fun z => by
      obtain ⟨o1, q1, c1, _⟩ := pt
      have q2 := he
      rw [z] at q2
      rw [show s.heap.get? a = _ from q2] at q1
      cases q1
      exact absurd (Value.type.inj c1) (by decide)
    have hel : e < s.heap.objs.size := Heap.lt_size he
    have hil : it < s.heap.objs.size := by obtain ⟨_, q, _⟩ := hit; exact Heap.lt_size q
    have hlt : i < its.toArray.size := by
      have := (List.getElem?_eq_some_iff.mp hu).1
      simpa using this
    have D := Draws.tuple (prog := X.prog) (w := X.w) (A := X.A.in1) (I.ok.hd hc) it a na its.toArray
    refine wpAny_pyNext_enum_itemC (i := i) (c := (i : Int)) D he ⟨hit, pt⟩ hlt hne (by simp [hne, nea]) fun y h' tk hy ho hst hT hsz hk => ?_
    have ey : y = u := by
      have hy' : its[i]? = some y := by simpa using hy
      rw [hu] at hy'
      exact (Option.some.inj hy').symm
    subst ey
    refine ⟨_, rfl, wpAny_letOwnedTupleGo_enum (s := { s with heap := h', toks := tk + 1 }) ho fun h2 he' sb => ?_⟩
    have hT2 : h2.get? s.heap.objs.size = some { cls := .type "tuple", data := .seq #[.int i tk, y] } := (sb.2 _ (Nat.ne_of_gt hel)).trans hT
    have new : ObjOk X.prog X.w (upd H s.heap.objs.size (.tup [.int (i : Nat), x])) h2 s.heap.objs.size (.tup [.int (i : Nat), x]) :=
      ⟨by show 2 ≤ sizeLine; decide, [.int i tk, y], .cons ⟨_, rfl⟩ (.cons ru .nil), ⟨_, hT2, rfl, _, rfl⟩⟩
    have I1 : Inv X pins σ (upd H s.heap.objs.size (.tup [.int (i : Nat), x])) { s with heap := h2, toks := tk + 1 } :=
      I.turnedNew (ch := [e, it]) (fun b ob hb q => (sb.2 b (fun z => hb (by simp [z]))).trans (hk b ob (fun z => hb (by simp [z])) (fun z => hb (by simp [z])) q)) hf (Nat.le_refl _) new
    refine ⟨.ref s.heap.objs.size, _, I1, rfl, ⟨_, x, rfl, I.hok.fresh (Nat.le_refl _), rfl, fun ys hy' => by rw [I.tuple_inj hy' hq]; exact hx⟩, ⟨⟨y, ?_⟩, hst.1.at fun o q => (sb.2 it (Ne.symm hne)).trans q, hne⟩, fun b hb => ?_⟩
    · rw [show ((i + 1 : Nat) : Int) = (i : Int) + 1 by omega]; exact he'
    · have hb' : b < s.heap.objs.size := by
        rcases (show b = e ∨ b = it by simpa using hb) with rfl | rfl
        · exact hel
        · exact hil
      rw [upd_ne (Nat.ne_of_lt hb')]
      exact (hf b hb).1
  done := by
    intro X hP hw hK hc i pins s σ H E I hf st hg
    subst hP hw hK
    obtain ⟨⟨old, he⟩, hit, hne⟩ := st
    obtain ⟨xs, hq, hx⟩ := hg
    obtain ⟨its, rv, p, hz⟩ := I.tuple hq
    have pt : s.heap.IsTuple a its.toArray := p
    have na : a ≠ it := fun z => by
      obtain ⟨o1, q1, c1, _⟩ := pt
      obtain ⟨o2, q2, c2, _⟩ := hit
      rw [z, q2] at q1
      cases q1
      exact absurd (Value.type.inj (c2.symm.trans c1)) (by decide)
    obtain ⟨f0, f1, f2, f3, f4, f5⟩ := hf it (by simp)
    have D := Draws.tuple (prog := X.prog) (w := X.w) (A := X.A.in1) (I.ok.hd hc) it a na its.toArray
    have hi : i = its.toArray.size := by rw [List.size_toArray, ← rv.length, hx]
    refine wpAny_pyNext_enum_endD (i := (i : Int)) D he ⟨by rw [← hi]; exact hit, pt⟩ fun h' eb => ⟨rfl, I.turned (t' := s.toks) (fun b o hb q => eb b o hb q) f0 f1 f3 f4 f5⟩
  self := fun A i s Q E st h => let ⟨⟨_, he⟩, _⟩ := st; wpAny_pyIter_enum he h
def iEnumT (K : PySem.W.Frag) (ta : TA) : TI := fun σ H R => ta σ H fun vs H1 => ∃ a xs, vs = [.ref a] ∧ SqT K H1 a xs ∧ R (IteT K a) H1
theorem pi_enumT {X : Cx} {e : Expr} {ta : TA} {p pos tpos : Pos} {elts : List Expr} {kk : Nat} (hg : Gl X "enumerate") (hm : X.mg "enumerate" = none) (ha : PA X [e] ta) (hs : starEach [e] X.env = [(false, eval e X.env)] := by rfl) :
    PI X (.Tuple elts kk tpos) (.Call (.Name "enumerate" p) [e] [] pos) (iEnumT X.K ta) := by
  refine ⟨fun pins s σ H R I h => Call_ (ld_blt I hg hm boot_enumerate (PyProof.Rows.callWith_type1 (thn (ha.run pos pins s σ H _ I h) fun us s1 z => ?_) hs rfl))⟩
  obtain ⟨vs, H1, I1, r1, a, xs, rfl, hq, q⟩ := z
  cases r1 with
  | cons r rr =>
    cases rr
    cases r
    obtain ⟨its, rv, p', hz⟩ := I1.tuple hq
    refine enum_new (begins_tuple a its.toArray) p' fun h' he hit hk => wpAny_pyIter_enum he ?_
    have I2 : Inv X pins σ H1 { s1 with heap := h' } := I1.kept (t' := s1.toks) hk
    refine ⟨s1.heap.objs.size + 1, [s1.heap.objs.size + 1, s1.heap.objs.size], _, _, H1, rfl, I2, turn_enumT a (s1.heap.objs.size + 1) s1.heap.objs.size, ⟨⟨.none, he⟩, ⟨_, hit, rfl, rfl⟩, Nat.succ_ne_self _⟩, fun b hb => ?_, q⟩
    have hle : s1.heap.objs.size ≤ b := by
      rcases (show b = s1.heap.objs.size + 1 ∨ b = s1.heap.objs.size by simpa using hb) with z | z
      · rw [z]; exact Nat.le_add_right _ _
      · exact Nat.le_of_eq z.symm
    exact I1.fpOk hle (I1.hok.fresh hle)
def enumD (ds : List PyData) : List PyData := (ds.zipIdx).map fun p => .tuple [.int (p.2 : Nat), p.1]
def iEnumP (a : PTA) : PTI := fun env R E => a env (fun ss => match ss with
  | [.d (.tuple ds)] => R (enumD ds)
  | _ => False) E
theorem enumD_at {ds : List PyData} {i : Nat} {d : PyData} (h : (enumD ds)[i]? = some d) : ∃ x, ds[i]? = some x ∧ d = .tuple [.int (i : Nat), x] := by
  unfold enumD at h
  rw [List.getElem?_map, List.getElem?_zipIdx] at h
  cases e : ds[i]? with
  | none => rw [e] at h; cases h
  | some x =>
    rw [e] at h
    refine ⟨x, rfl, ?_⟩
    have := Option.some.inj h
    simpa using this.symm
section
variable {X : Cx} {c : Cc} {W : WX}
theorem walk_enumT {K : PySem.W.Frag} {F : Hp} {a : Addr} {xs : List V} {ds : List PyData} (e : F a = some (.tup xs)) (r : RqAll F xs ds) : Walk c (IteT K a) F (enumD ds) where
  stop := fun H0 F0 env F' σ H J k => ⟨xs, sqT (J.b.sub _ _ (k _ _ e)), by rw [r.len]; unfold enumD; simp⟩
  go := fun H0 F0 env F' σ H i d J k h => by
    obtain ⟨x, hx, rfl⟩ := enumD_at h
    obtain ⟨v, e1, rv⟩ := r.get hx
    have q : SqT K H a xs := sqT (J.b.sub _ _ (k _ _ e))
    refine ⟨⟨xs, v, q, e1⟩, fun y H3 z => ?_⟩
    obtain ⟨T, v', rfl, hT, rfl, f1⟩ := z
    have g1 := f1 xs q
    rw [e1] at g1
    cases g1
    have k2 : Same F' (upd F' T (.tup [.int (i : Nat), v])) := same_upd (J.b.fnone hT)
    exact ⟨_, J.alloc hT _, k2, Rq.tup upd_same (.cons (Rq.int _) (.cons ((rv.same k).same k2) .nil))⟩
theorem pui_enumT {a : Expr} {p pos tpos : Pos} {elts : List Expr} {kk : Nat} {pa : PTA} (hm : X.mg "enumerate" = none) (ha : PuA X c W [a] pa) (hg : Gl X "enumerate" := by rfl) (hs : starEach [a] X.env = [(false, eval a X.env)] := by rfl) : PuI X c W (.Tuple elts kk tpos) (.Call (.Name "enumerate" p) [a] [] pos) (iEnumP pa) := by
  obtain ⟨ta, ha, ra⟩ := ha
  refine ⟨_, pi_enumT hg hm ha hs, fun H0 F0 env F σ H R E Q J L hp fin => ra _ _ _ _ _ _ _ _ _ J L hp fun vs ss F1 H1 J1 k1 r1 h1 => ?_⟩
  split at h1
  · obtain ⟨v, rfl, rv⟩ := rs1 r1
    cases rv with
    | tup e rr => exact ⟨_, _, rfl, sqT (J1.b.sub _ _ e), fin _ F1 H1 _ J1 k1 (walk_enumT e rr) h1⟩
  · exact h1.elim
/-! ### a <= b <= d -/
def pChain (r r' : POp) (a b d : PTE) : PTE := fun env R E => a env (fun x => b env (fun y => r x y fun z => bOf z fun k => (k = true → d env (fun w => r' y w R) E) ∧ (k = false → R (.d (.bool false)))) E) E
theorem rd_chain {r r' : R2} {pr pr' : POp} {ta tb td : TE} {pa pb pd : PTE} (hr : ROp c r pr) (hr' : ROp c r' pr') (ra : Rd c W ta pa) (rb : Rd c W tb pb) (rd : Rd c W td pd) : Rd c W (tChain r r' ta tb td) (pChain pr pr' pa pb pd) := by
  refine fun H0 F0 env F σ H R E Q J L hp fin => ra _ _ _ _ _ _ _ _ _ J L hp fun x sx F1 H1 J1 k1 r1 h1 => ?_
  refine rb _ _ _ _ _ _ _ _ _ J1 L h1 fun y sy F2 H2 J2 k2 r2 h2 => ?_
  refine hr _ _ _ _ _ _ _ _ _ _ _ _ J2 (r1.same k2) r2 h2 fun z s F3 H3 J3 k3 rz h3 => ?_
  obtain ⟨k, rfl, h3⟩ := bOf_d h3
  have k13 := same_trans k1 (same_trans k2 k3)
  refine ⟨k, rq_bl rz, ?_⟩
  cases k with
  | true =>
    rw [if_pos rfl]
    refine rd _ _ _ _ _ _ _ _ _ J3 L (h3.1 rfl) fun w sw F4 H4 J4 k4 r4 h4 => ?_
    exact hr' _ _ _ _ _ _ _ _ _ _ _ _ J4 (r2.same (same_trans k3 k4)) r4 h4 fun v s F5 H5 J5 k5 rv q => fin v s F5 H5 J5 (same_trans k13 (same_trans k4 k5)) rv q
  | false =>
    rw [if_neg (by simp)]
    exact fin _ (.d _) F3 H3 J3 k13 (Rq.bl _) (h3.2 rfl)
theorem pu_chain {op op' : CmpOp} {r r' : R2} {pr pr' : POp} {a b d : Expr} {pos : Pos} {pa pb pd : PTE} (ho : OpR X (compareOp op) r) (hr : ROp c r pr) (ho' : OpR X (compareOp op') r') (hr' : ROp c r' pr') (ha : PuE X c W a pa) (hb : PuE X c W b pb) (hd : PuE X c W d pd)
    (hm : lastMarks [op, op'] [b, d] = false := by with_unfolding_all rfl) : PuE X c W (.Compare a [op, op'] [b, d] pos) (pChain pr pr' pa pb pd) := by
  obtain ⟨ta, ha, ra⟩ := ha
  obtain ⟨tb, hb, rb⟩ := hb
  obtain ⟨td, hd, rd⟩ := hd
  exact ⟨_, pe_chain ho ho' ha hb hd hm, rd_chain hr hr' ra rb rd⟩
theorem pt_chain' {op op' : CmpOp} {r r' : R2} {pr pr' : POp} {a b d : Expr} {pos : Pos} {pa pb pd : PTE} (ho : OpR X (compareOp op) r) (hr : ROp c r pr) (ho' : OpR X (compareOp op') r') (hr' : ROp c r' pr') (ha : PuE X c W a pa) (hb : PuE X c W b pb) (hd : PuE X c W d pd)
    (hm : lastMarks [op, op'] [b, d] = false := by with_unfolding_all rfl) : PuT X c W (.Compare a [op, op'] [b, d] pos) (ptB (pChain pr pr' pa pb pd)) := by
  obtain ⟨ta, ha, ra⟩ := ha
  obtain ⟨tb, hb, rb⟩ := hb
  obtain ⟨td, hd, rd⟩ := hd
  exact ⟨_, pt_chain ho ho' ha hb hd hm, rd_test (rd_chain hr hr' ra rb rd)⟩
/-! ### tuples and lists, so many times -/
theorem tuple_mul1 (l : Addr) (items : Array Value) (n : Nat) (dd : Option Addr) (sl : Array (Option Value)) (u : Tok) :
    Meets (Builtin.«tuple.__mul__» ⟨[.ref l, .int 1 u], []⟩) (fun _ R s => s.heap.get? l = some { cls := .type "tuple", dict := dd, data := .seq items n, slots := sl } ∧ R (.ok (.ret (Value.ref l))) s) :=
  .of_wp fun prog w A R s hh => by
    obtain ⟨hp, gs, dn, tk, os⟩ := s
    obtain ⟨hl, hh⟩ := hh
    have f1 := AutoSeq1.idx_int
    wp_walk using wpAny_loadPart' hl
    exact ⟨_, rfl, hh⟩
/-- t * 1 -/
def rRep1 (K : PySem.W.Frag) : R2 := fun x y H Q => ∃ l xs, x = .ref l ∧ y = .int 1 ∧ SqT K H l xs ∧ Q x H
theorem op_rep1 : OpR X (binaryOp .Mult) (rRep1 X.K) := by
  intro pins s σ H x y v u Q I rx ry h
  obtain ⟨l, xs, rfl, rfl, hT, q⟩ := h
  cases rx
  obtain ⟨t, rfl⟩ := ry
  obtain ⟨its, r, ⟨⟨cls, dd, data, sl⟩, ho, hc, n, hd⟩, hs⟩ := I.tuple hT
  simp only at hc hd
  subst hc hd
  refine wpAny_binaryOp_repeat_ref (T := "tuple") (U := "int") (by decide) ⟨_, ho, rfl⟩ (fun s' => typeIs_int s' 1 t) noFill_tuple_mul F.fills_int_mul F.slot_int_rmul repeat_tuple F.slot_int_index.lookup
    (call_meets F.slot_int_rmul (typeIs_int s 1 t) F.entry_int_rmul (F.args_int_rmul_2 _ _) (int_rmul_tuple 1 t l its.toArray n dd sl)
      ⟨ho, rfl, ⟨_, ho, rfl⟩, call_meets F.slot_tuple_mul ⟨_, ho, rfl⟩ F.entry_tuple_mul (F.args_tuple_mul_2 _ _) (tuple_mul1 l its.toArray n dd sl t) ⟨ho, ?_⟩⟩)
  exact ⟨.ref l, H, I, rfl, q⟩
def repD (n : Nat) (ds : List PyData) : List PyData := (List.replicate n ds).flatten
/-- a sequence so many times; (1 <= n), a tuple not empty -/
def oRep : POp := fun x y R => match x, y with
  | .d (.tuple ds), .d (.int k) => 1 ≤ k ∧ k ≤ 1000 ∧ ds ≠ [] ∧ ds.length ≤ 1000 ∧ R (.d (.tuple (repD k.toNat ds)))
  | .d (.list ds), .d (.int k) => 0 ≤ k ∧ k ≤ 1000 ∧ ds.length ≤ 1000 ∧ R (.d (.list (repD k.toNat ds)))
  | _, _ => False
theorem rep_rel {F : Hp} {xs : List V} {ds : List PyData} (r : RqAll F xs ds) : ∀ n : Nat, RqAll F (List.replicate n xs).flatten (repD n ds)
  | 0 => .nil
  | n + 1 => by
    unfold repD
    rw [List.replicate_succ, List.replicate_succ, List.flatten_cons, List.flatten_cons]
    exact r.app (rep_rel r n)
def rRepA (K : PySem.W.Frag) : R2 := fun x y H Q => rRep1 K x y H Q ∨ (rRepT K x y H Q ∨ rRep x y H Q)
theorem op_repA : OpR X (binaryOp .Mult) (rRepA X.K) := op_rep1.or (op_repT.or op_rep)
theorem ro_rep {K : PySem.W.Frag} : ROp c (rRepA K) oRep := by
  intro H0 F0 env F σ H x y sx sy R Q J rx ry hp fin
  unfold oRep at hp
  split at hp
  · rename_i ds k
    obtain ⟨h1, h2, h3, h4, hp⟩ := hp
    cases ry
    cases rx with
    | @tup a xs _ e rr =>
      by_cases hk : k = 1
      · subst hk
        have e1 : repD (1 : Int).toNat ds = ds := by simp [repD]
        rw [e1] at hp
        exact .inl ⟨a, xs, rfl, rfl, sqT (J.b.sub _ _ e), fin _ (.d _) F H J (same_refl F) (Rq.tup e rr) hp⟩
      · have hne : xs ≠ [] := fun z => h3 (List.eq_nil_of_length_eq_zero (by rw [← rr.len, z]; rfl))
        refine .inr (.inl ⟨a, k, xs, rfl, rfl, sqT (J.b.sub _ _ e), hne, by omega, h2, by rw [rr.len]; exact h4, fun p hn => ?_⟩)
        have k2 : Same F (upd F p (.tup (List.replicate k.toNat xs).flatten)) := same_upd (J.b.fnone hn)
        exact fin (.ref p) (.d _) _ _ (J.alloc hn _) k2 (Rq.tup upd_same ((rep_rel rr _).same k2)) hp
  · rename_i ds k
    obtain ⟨h1, h2, h4, hp⟩ := hp
    cases ry
    cases rx with
    | @lst a xs _ e rr =>
      refine .inr (.inr ⟨a, k, xs, rfl, rfl, J.b.sub _ _ e, by omega, by omega, ?_, fun p hn => ?_⟩)
      · rw [rr.len, sizeLine_eq]
        have : ds.length * k.toNat ≤ 1000 * 1000 := Nat.mul_le_mul h4 (by omega)
        omega
      · have k2 : Same F (upd F p (.lst (List.replicate k.toNat xs).flatten)) := same_upd (J.b.fnone hn)
        exact fin (.ref p) (.d _) _ _ (J.alloc hn _) k2 (Rq.lst upd_same ((rep_rel rr _).same k2)) hp
  · exact hp.elim
end
end Px
namespace Px
open PySem PySem.Spec PyProof.Rows L2 Lx
/-! ### one's own list lent to an expression -/
mutual
/-- neither lists nor dicts in it -/
def noL : PyData → Bool
  | .list _ => false
  | .dict _ => false
  | .tuple xs => noLs xs
  | _ => true
def noLs : List PyData → Bool
  | [] => true
  | x :: xs => noL x && noLs xs
end
/-- all but q -/
def without (F : Hp) (q : Addr) : Hp := fun b => if b = q then none else F b
theorem without_ne {F : Hp} {q b : Addr} (h : b ≠ q) : without F q b = F b := if_neg h
theorem without_same {F : Hp} {q : Addr} : without F q q = none := if_pos rfl
mutual
theorem Rq.without {F : Hp} {q : Addr} {ys : List V} (hq : F q = some (.lst ys)) : ∀ {v : V} {d : PyData}, Rq F v d → noL d = true → Rq (Px.without F q) v d
  | _, _, .non, _ => .non
  | _, _, .bl b, _ => .bl b
  | _, _, .int i, _ => .int i
  | _, _, .str x, _ => .str x
  | _, _, .lst e r, h => by simp [noL] at h
  | _, _, .tup e r, h => .tup (by rw [without_ne fun z => by rw [z, hq] at e; cases e]; exact e) (RqAll.without hq r (by simpa [noL] using h))
  | _, _, .dct e q r, h => by simp [noL] at h
theorem RqAll.without {F : Hp} {q : Addr} {ys : List V} (hq : F q = some (.lst ys)) : ∀ {vs : List V} {ds : List PyData}, RqAll F vs ds → noLs ds = true → RqAll (Px.without F q) vs ds
  | _, _, .nil, _ => .nil
  | _, _, .cons a b, h => by
    rw [noLs, Bool.and_eq_true] at h
    exact .cons (Rq.without hq a h.1) (RqAll.without hq b h.2)
end
section
variable {c : Cc} {H0 F0 F H : Hp} {env : Ev} {σ : St}
/-- lent: for the time of an inner step all see the list; then it is one's own again -/
theorem Rel.lend (R : Rel c H0 F0 env F σ H) {i : Nat} {ds : List PyData} (h : nth env i = some (.own ds)) : ∃ (q : Addr) (ys : List V) (F1 : Hp), F1 q = some (.lst ys) ∧ F q = none ∧ Rel c H F1 (noOwn (env.set i (some (.d (.list ds))))) F1 σ H ∧
    ∀ F' H', Bas c H F1 F' H' → F' q = some (.lst ys) ∧ Rel c H0 F0 env (Px.without F' q) σ H' ∧ Same F (Px.without F' q) := by
  obtain ⟨ov, e1, q, ys, e2, hF, h0, hq, r⟩ := R.get (nth_eq _ _ h)
  subst e2
  have k : Same F (upd F q (.lst ys)) := same_upd hF
  obtain ⟨F2, R2, _⟩ := R.show h
  refine ⟨q, ys, upd F q (.lst ys), upd_same, hF, ?_, fun F' H' A => ?_⟩
  · have R3 : Rel c H0 F0 (env.set i (some (.d (.list ds)))) (upd F q (.lst ys)) σ H := by
      refine ⟨R.b.freeze hq hF h0, R2.len, fun j ov s' e3 e4 => ?_, fun j l p xs zs e3 e4 e5 e6 => R2.sep j l p xs zs e3 e4 e5 e6⟩
      by_cases hij : i = j
      · subst hij
        have h1 : i < env.length := by
          have := (List.getElem?_eq_some_iff.mp e4).1
          simpa using this
        rw [List.getElem?_set_self h1] at e4
        cases e4
        rw [e1] at e3
        cases e3
        exact ⟨.ref q, rfl, Rq.lst upd_same (r.same k)⟩
      · rw [List.getElem?_set_ne hij] at e4
        have ne : ∀ (xs : List PyData), env[j]? = some (some (.own xs)) → σ[j]? ≠ some (some (.ref q)) := fun xs e z => hij (R.sep i j q ds xs (nth_eq _ _ h) e e1 z)
        have r2 := R.sl j ov s' e3 e4
        cases s' with
        | none => exact True.intro
        | some s' =>
          cases s' with
          | d x => obtain ⟨v, e, rv⟩ := r2; exact ⟨v, e, rv.same k⟩
          | raw v => exact r2
          | exc p C fs => exact ⟨r2.1, r2.2.same k⟩
          | obj C fs => exact ⟨r2.choose, r2.choose_spec.1, r2.choose_spec.2.same k⟩
          | slf x C fs =>
            obtain ⟨dx, gs, e, a1, a2, a3, a4, a5⟩ := r2
            have np : x ≠ q := fun z => by rw [z, hq] at a3; cases a3
            exact ⟨dx, gs, e, by rw [upd_ne np]; exact a1, a2, a3, a4, a5.same k⟩
          | own xs =>
            obtain ⟨p, us, e, a1, a2, a3, a4⟩ := r2
            have np : p ≠ q := fun z => ne xs e4 (by rw [e3, e, z])
            exact ⟨p, us, e, by rw [upd_ne np]; exact a1, a2, a3, a4.same k⟩
    exact R3.inner
  · have fq : F' q = some (.lst ys) := A.fF q _ upd_same
    have nq : ∀ {b u}, F b = some u → b ≠ q := fun e z => by rw [z, hF] at e; cases e
    have kG : Same F (Px.without F' q) := fun b u e => by rw [without_ne (nq e)]; exact A.fF b u (by rw [upd_ne (nq e)]; exact e)
    have B : Bas c H0 F0 (Px.without F' q) H' := by
      refine ⟨fun b u e => ?_, fun b hb => ?_, ?_, A.tab, fun b o n m e => A.fr b o n m (R.b.fr b o n m e), same_trans R.b.fF kG, fun b n => ?_, fun b ps e => ?_, R.b.ou⟩
      · by_cases z : b = q
        · rw [z, without_same] at e; cases e
        · rw [without_ne z] at e; exact A.sub b u e
      · by_cases z : b = q
        · rw [z, without_same]
        · rw [without_ne z]; exact A.fx b hb
      · obtain ⟨ns, a, d, k, f, e1', e3⟩ := A.pen
        refine ⟨ns, a, d, k, f, e1', ?_⟩
        obtain ⟨ns0, _, _, _, _, _, e0⟩ := R.b.pen
        rw [without_ne (nq e0)]; exact e3
      · have n' : F' b ≠ none := fun z => n (by by_cases y : b = q <;> simp [Px.without, y, z])
        have bq : b ≠ q := fun z => n (by rw [z, without_same])
        rcases A.fN b n' with z | z
        · rw [upd_ne bq] at z
          exact R.b.fN b z
        · refine .inr fun o e => ?_
          by_cases m : ∃ ps, o = .tbl ps
          · exact m
          · exact absurd (z o (R.b.fr b o (fun hb => n' (A.fx b hb)) (fun ps h => m ⟨ps, h⟩) e)) m
      · by_cases z : b = q
        · rw [z, without_same] at e; cases e
        · rw [without_ne z] at e; exact A.fT b ps e
    refine ⟨fq, ?_, kG⟩
    refine R.move B kG fun b o ho e1 e2 e3 => ⟨?_, A.fr b _ (R.b.noutO ho e3) ho.nt e3⟩
    by_cases z : b = q
    · rw [z, without_same]
    · rw [without_ne z]
      cases e : F' b with
      | none => rfl
      | some o' =>
        rcases A.fN b (by rw [e]; simp) with z' | z'
        · rw [upd_ne z] at z'; exact absurd e1 z'
        · obtain ⟨ps, z'⟩ := z' _ e3; exact absurd z' (ho.nt ps)
end
/-- the own list i stands as data within e; what comes of e holds no list -/
def pLend (i : Nat) (pe : PTE) : PTE := fun env R E => match nth env i with
  | some (.own ds) => pe (noOwn (env.set i (some (.d (.list ds))))) (fun s => match s with
    | .d d => noL d = true ∧ R (.d d)
    | _ => False) ENo
  | _ => False
def pLendN (i : Nat) (pn : PTN) : PTN := fun env R E => match nth env i with
  | some (.own ds) => pn (noOwn (env.set i (some (.d (.list ds))))) (fun es => noLs es = true ∧ R es) ENo
  | _ => False
section
variable {X : Cx} {c : Cc} {W : WX}
theorem rd_lend (i : Nat) {t : TE} {pe : PTE} (r : Rd c W t pe) : Rd c W t (pLend i pe) := by
  refine fun H0 F0 env F σ H R E Q J L h fin => ?_
  unfold pLend at h
  split at h
  · rename_i ds hn
    obtain ⟨q, ys, F1, f1, fq, J1, back⟩ := J.lend hn
    refine r _ _ _ _ _ _ _ _ _ J1 link_no h fun v s F2 H2 J2 k2 rv h2 => ?_
    split at h2
    · obtain ⟨f2, J3, k3⟩ := back F2 H2 J2.b
      exact fin v (.d _) _ H2 J3 k3 (Rq.without f2 rv h2.1) h2.2
    · exact h2.elim
  · exact h.elim
theorem pu_lend (i : Nat) {e : Expr} {pe : PTE} (h : PuE X c W e pe) : PuE X c W e (pLend i pe) := let ⟨t, ht, r⟩ := h; ⟨t, ht, rd_lend i r⟩
theorem rdN_lend (i : Nat) {t : TE} {pn : PTN} (r : RdN c W t pn) : RdN c W t (pLendN i pn) := by
  refine fun H0 F0 env F σ H R E Q J L h fin => ?_
  unfold pLendN at h
  split at h
  · rename_i ds hn
    obtain ⟨q, ys, F1, f1, fq, J1, back⟩ := J.lend hn
    refine r _ _ _ _ _ _ _ _ _ J1 link_no h fun p zs es F2 H2 J2 k2 fp np hp rz ne h2 => ?_
    obtain ⟨f2, J3, k3⟩ := back F2 H2 J2.b
    have pq : p ≠ q := fun z => by rw [z, f2] at fp; cases fp
    have n0 : Nw H0 p := fun o e => by
      by_cases m : ∃ ps, o = .tbl ps
      · exact m
      · exact np o (J.b.fr p o (J2.b.noutL hp) (fun ps z => m ⟨ps, z⟩) e)
    refine fin p zs es _ H2 J3 k3 (by rw [without_ne pq]; exact fp) n0 hp (rz.without f2 h2.1) (fun j xs e1 e2 => ?_) h2.2
    obtain ⟨ov, e3, p', us, e4, _, _, hq', _⟩ := J.get e1
    rw [e2] at e3
    cases e3
    cases e4
    obtain ⟨ps, z⟩ := np _ hq'
    cases z
  · exact h.elim
theorem pun_lend (i : Nat) {e : Expr} {pn : PTN} (h : PuN X c W e pn) : PuN X c W e (pLendN i pn) := let ⟨t, ht, r⟩ := h; ⟨t, ht, rdN_lend i r⟩

/-! ### list(range(..)) -/
def RdRg (c : Cc) (W : WX) (t : St → Hp → (Int → Int → Hp → Prop) → Prop) (pt : Ev → (Int → Int → Prop) → XP → Prop) : Prop := ∀ (H0 F0 : Hp) (env : Ev) (F : Hp) (σ : St) (H : Hp) (R : Int → Int → Prop) (E : XP) (Q : Int → Int → Hp → Prop), Rel c H0 F0 env F σ H → LinkX c H0 F0 W E → pt env R E →
  (∀ a b F' H', Rel c H0 F0 env F' σ H' → Same F F' → R a b → Q a b H') → t σ H Q
def PuRg (X : Cx) (c : Cc) (W : WX) (e : Expr) (pt : Ev → (Int → Int → Prop) → XP → Prop) : Prop := ∃ t, PRg X e t ∧ RdRg c W t pt
def pRg1 (pa : PTE) : Ev → (Int → Int → Prop) → XP → Prop := fun env R E => pa env (fun s => match s with | .d (.int n) => R 0 n | _ => False) E
def pRg2 (pa pb : PTE) : Ev → (Int → Int → Prop) → XP → Prop := fun env R E => pa env (fun s => pb env (fun u => match s, u with | .d (.int a), .d (.int b) => R a b | _, _ => False) E) E
theorem purg_1 {a : Expr} {p pos : Pos} {pa : PTE} (hm : X.mg "range" = none) (ha : PuE X c W a pa) (hg : Gl X "range" := by rfl) (na : starEach [a] X.env = (false, eval a X.env) :: starEach [] X.env := by rfl) : PuRg X c W (.Call (.Name "range" p) [a] [] pos) (pRg1 pa) := by
  obtain ⟨ta, ha, ra⟩ := ha
  refine ⟨_, prg_1 hg hm ha na, fun H0 F0 env F σ H R E Q J L h fin => ra _ _ _ _ _ _ _ _ _ J L h fun v s F1 H1 J1 k1 r1 h1 => ?_⟩
  split at h1
  · cases r1
    exact ⟨_, rfl, fin _ _ F1 H1 J1 k1 h1⟩
  · exact h1.elim
theorem purg_2 {a b : Expr} {p pos : Pos} {pa pb : PTE} (hm : X.mg "range" = none) (ha : PuE X c W a pa) (hb : PuE X c W b pb) (hg : Gl X "range" := by rfl) (na : starEach [a, b] X.env = (false, eval a X.env) :: starEach [b] X.env := by rfl)
    (nb : starEach [b] X.env = (false, eval b X.env) :: starEach [] X.env := by rfl) (hp : (backTo pos (starEach [b] X.env)).any (·.1) = false := by rfl) : PuRg X c W (.Call (.Name "range" p) [a, b] [] pos) (pRg2 pa pb) := by
  obtain ⟨ta, ha, ra⟩ := ha
  obtain ⟨tb, hb, rb⟩ := hb
  refine ⟨_, prg_2 hg hm ha hb na nb hp, fun H0 F0 env F σ H R E Q J L h fin => ra _ _ _ _ _ _ _ _ _ J L h fun v s F1 H1 J1 k1 r1 h1 => ?_⟩
  refine rb _ _ _ _ _ _ _ _ _ J1 L h1 fun w u F2 H2 J2 k2 r2 h2 => ?_
  split at h2
  · cases r1
    cases r2
    exact ⟨_, _, rfl, rfl, fin _ _ F2 H2 J2 (same_trans k1 k2) h2⟩
  · exact h2.elim
def rgD (a b : Int) : List PyData := rangeD a (b - a).toNat
theorem rel_rg {F : Hp} (a b : Int) : RqAll F (rgV a b) (rgD a b) := by
  unfold rgV rgD rangeD
  generalize List.range (b - a).toNat = l
  induction l with
  | nil => exact .nil
  | cons x l ih => exact .cons (.int _) ih
def pLr (pt : Ev → (Int → Int → Prop) → XP → Prop) : PTE := fun env R E => pt env (fun a b => (-1000 ≤ a ∧ a ≤ 1000 ∧ -1000 ≤ b ∧ b ≤ 1000) ∧ R (.d (.list (rgD a b)))) E
theorem pu_listRg {e : Expr} {p pos : Pos} {pt : Ev → (Int → Int → Prop) → XP → Prop} (hc : X.calm = true) (hm : X.mg "list" = none) (he : PuRg X c W e pt) (hg : Gl X "list" := by rfl) (na : starEach [e] X.env = (false, eval e X.env) :: starEach [] X.env := by rfl) : PuE X c W (.Call (.Name "list" p) [e] [] pos) (pLr pt) := by
  obtain ⟨t, ht, rt⟩ := he
  refine ⟨_, pe_listRg hc hg hm ht na, fun H0 F0 env F σ H R E Q J L h fin => rt _ _ _ _ _ _ _ _ _ J L h fun a b F1 H1 J1 k1 h1 => ?_⟩
  obtain ⟨⟨b1, b2, b3, b4⟩, h1⟩ := h1
  refine ⟨⟨by omega, by omega, by omega, by omega, by omega⟩, fun q hq => ?_⟩
  have k2 : Same F1 (upd F1 q (.lst (rgV a b))) := same_upd (J1.b.fnone hq)
  exact fin (.ref q) (.d _) _ _ (J1.alloc hq _) (same_trans k1 k2) (Rq.lst upd_same (rel_rg a b)) h1
end

/-! ### zip(t, l) -/
def ItzTL (K : PySem.W.Frag) (a b : Addr) : It :=
  ⟨fun i H => ∃ (us vs : List V) (u v : V), SqT K H a us ∧ SqL K H b vs ∧ us[i]? = some u ∧ vs[i]? = some v,
    fun i H r H' => ∃ T u v, r = .ref T ∧ H T = none ∧ H' = upd H T (.tup [u, v]) ∧ (∀ us, SqT K H a us → us[i]? = some u) ∧ ∀ vs, SqL K H b vs → vs[i]? = some v,
    fun i H => ∃ us vs : List V, SqT K H a us ∧ SqL K H b vs ∧ (us.length ≤ i ∨ vs.length ≤ i)⟩
theorem turn_zipTL {P : Program} {w : World} {K : PySem.W.Frag} {elts : List Expr} {kk : Nat} {tpos : Pos} {a b : Addr} {n : Nat} (ha : a < n) (hb : b < n) :
    Turn P w K (.Tuple elts kk tpos) (ItzTL K a b) (zFive n) (n + 4) (fun i h => IsZip h (n + 4) (n + 2) (n + 3) .none ∧ IsPair h (n + 2) (.ref n) (.ref (n + 1)) ∧ (∃ x y, IsPair h (n + 3) x y) ∧ h.IsTupleIter n a i ∧ h.IsListIter (n + 1) b i) where
  mem := List.mem_cons_self
  obj := fun i h st d hd => by
    obtain ⟨q1, q2, ⟨x, y, q3⟩, ⟨o1, e1, _, f1⟩, ⟨o2, e2, _, f2⟩⟩ := st
    simp only [List.mem_cons, List.not_mem_nil, or_false] at hd
    rcases hd with rfl | rfl | rfl | rfl | rfl
    · exact ⟨_, q1, fun v z => nomatch z⟩
    · exact ⟨_, q2, fun v z => nomatch z⟩
    · exact ⟨_, q3, fun v z => nomatch z⟩
    · exact ⟨o1, e1, fun v z => by rw [f1] at z; cases z⟩
    · exact ⟨o2, e2, fun v z => by rw [f2] at z; cases z⟩
  keep := fun i h g st k => by
    obtain ⟨q1, q2, ⟨x, y, q3⟩, q4, q5⟩ := st
    exact ⟨k _ (by simp) _ q1, k _ (by simp) _ q2, ⟨x, y, k _ (by simp) _ q3⟩, q4.at fun o e => k _ (by simp) o e, q5.at fun o e => k _ (by simp) o e⟩
  item := by
    intro X hP hw hK hc i pins s σ H E I hf st hg
    subst hP hw hK
    obtain ⟨q1, q2, ⟨x0, y0, q3⟩, q4, q5⟩ := st
    obtain ⟨us, vs, u, v, su, sv, eu, ev⟩ := hg
    obtain ⟨its, ru, pu, _⟩ := I.tuple su
    obtain ⟨jts, rv, pv, _⟩ := I.list sv
    obtain ⟨cu, hcu, rcu⟩ := ru.get eu
    obtain ⟨cv, hcv, rcv⟩ := rv.get ev
    have D := PySem.W.ktu_apart n a b ha hb
    have small : ∀ d ∈ zFive n, d < s.heap.objs.size := fun d hd => by
      simp only [List.mem_cons, List.not_mem_nil, or_false] at hd
      rcases hd with rfl | rfl | rfl | rfl | rfl
      · exact Heap.lt_size q1
      · exact Heap.lt_size q2
      · exact Heap.lt_size q3
      · obtain ⟨_, e, _⟩ := q4; exact Heap.lt_size e
      · obtain ⟨_, e, _⟩ := q5; exact Heap.lt_size e
    refine zu_next D q1 q2 q3 (src_tuple its.toArray D.l1i1) (src_list jts.toArray D.l2i2) ⟨q4, pu⟩ ⟨q5, pv.isList⟩ (x := cu) (y := cv) (by simpa using hcu) (by simpa using hcv) fun g gz gu g1 g2 gp gs gk => ?_
    refine ⟨_, rfl, wpAny_letOwnedTupleGo_zip (s := { s with heap := g }) gz fun g' gz' sb => ?_⟩
    have big : ∀ d ∈ zFive n, s.heap.objs.size ≠ d := fun d hd => Nat.ne_of_gt (small d hd)
    have gp' : g'.get? s.heap.objs.size = some { cls := .type "tuple", data := .seq #[cu, cv] } := (sb.2 _ (big _ (by simp))).trans gp
    have new : ObjOk X.prog X.w (upd H s.heap.objs.size (.tup [u, v])) g' s.heap.objs.size (.tup [u, v]) := ⟨by show 2 ≤ sizeLine; decide, [cu, cv], .cons rcu (.cons rcv .nil), ⟨_, gp', rfl, _, rfl⟩⟩
    have J := I.turnedNew (t' := s.toks) (ch := zFive n) (fun d o hd q => (sb.2 d fun z => hd (by simp [z])).trans (gk d o (fun z => hd (by simp [z])) (fun z => hd (by simp [z])) (fun z => hd (by simp [z])) (fun z => hd (by simp [z])) q)) hf (Nat.le_refl _) new
    refine ⟨.ref s.heap.objs.size, _, J, rfl, ⟨_, u, v, rfl, I.hok.fresh (Nat.le_refl _), rfl, fun l hl => by rw [I.tuple_inj hl su]; exact eu, fun l hl => by rw [I.list_inj hl sv]; exact ev⟩, ⟨gz', ?_, ⟨cu, cv, ?_⟩, ?_, ?_⟩, fun d hd => ?_⟩
    · exact (sb.2 _ D.TIz).trans (gk _ _ D.TIz D.TITO D.TIi1 D.TIi2 q2)
    · exact (sb.2 _ D.TOz).trans gu
    · exact g1.1.at fun o q => (sb.2 _ D.i1z).trans q
    · exact g2.1.at fun o q => (sb.2 _ D.i2z).trans q
    · rw [upd_ne fun z => big d hd z.symm]
      exact (hf d hd).1
  done := by
    intro X hP hw hK hc i pins s σ H E I hf st hg
    subst hP hw hK
    obtain ⟨q1, q2, ⟨x0, y0, q3⟩, q4, q5⟩ := st
    obtain ⟨us, vs, su, sv, hend⟩ := hg
    obtain ⟨its, ru, pu, _⟩ := I.tuple su
    obtain ⟨jts, rv, pv, _⟩ := I.list sv
    have l1 := ru.length
    have l2 := rv.length
    have D := PySem.W.ktu_apart n a b ha hb
    have he : its.toArray[i]? = none ∨ jts.toArray[i]? = none := hend.imp (fun q => by simp; omega) fun q => by simp; omega
    exact zu_stop (I.ok.hd hc) D q1 q2 q3 (src_tuple its.toArray D.l1i1) (src_list jts.toArray D.l2i2) ⟨q4, pu⟩ ⟨q5, pv.isList⟩ he fun g gk => ⟨rfl, I.turnedL (t' := s.toks) (ch := zFive n) (fun d o hd q => gk d o (fun z => hd (by simp [z])) (fun z => hd (by simp [z])) (fun z => hd (by simp [z])) (fun z => hd (by simp [z])) q) hf⟩
  self := fun A i s Q E st h => wpAny_pyIter_zip st.1 h
abbrev zr1 (h : Heap) (a : Addr) : Heap := h.push { cls := .type "tuple_iterator", data := .fields #[.ref a, .int 0 0] }
abbrev zr2 (h : Heap) (a b : Addr) : Heap := (zr1 h a).push { cls := .type "list_iterator", data := .fields #[.ref b, .int 0 0] }
abbrev zr3 (h : Heap) (a b : Addr) : Heap := (zr2 h a b).push { cls := .type "tuple", data := .seq #[.ref h.objs.size, .ref (zr1 h a).objs.size] }
abbrev zr4 (h : Heap) (a b : Addr) : Heap := (zr3 h a b).push { cls := .type "tuple", data := .seq #[.none, .none] }
abbrev zr5 (h : Heap) (a b : Addr) : Heap := (zr4 h a b).push { cls := .type "zip", data := .fields #[.none, .bool false, .bool false, .ref (zr2 h a b).objs.size, .ref (zr3 h a b).objs.size] }
theorem zr_meets (a b : Addr) (us vs : Array Value) : Meets (Builtin.«zip.__new__» ⟨[.type "zip", .ref a, .ref b], []⟩) (fun _ R s => s.heap.IsTuple a us ∧ s.heap.IsList b vs ∧ R (.ok (.ret (.ref (zr4 s.heap a b).objs.size))) { s with heap := zr5 s.heap a b }) :=
  .of_wp fun prog w A R s h => by
    obtain ⟨hp, g, d, tk, os⟩ := s
    obtain ⟨pa, pb, h⟩ := h
    have hsub := sub_zip
    have la : Heap.IsTuple (Shared.heap ⟨hp, g, d, tk, os⟩) a us := pa
    have tb : Heap.IsList (Shared.heap ⟨hp.push { cls := .type "tuple_iterator", data := .fields #[.ref a, .int 0 0] }, g, d, tk, os⟩) b vs := Heap.IsList.push pb _
    wp_walk using wpAny_pyIter_tuple la, wpAny_pyIter_list tb
    exact ⟨_, rfl, h⟩
theorem zr_call {prog : Program} {w : World} {A : Around} {E : Value → Shared → Prop} {s : Shared} {a b : Addr} {us vs : Array Value} {Q : Value → Shared → Prop} (pa : s.heap.IsTuple a us) (pb : s.heap.IsList b vs) {n : Nat} (hn : s.heap.objs.size = n)
    (fin : ∀ g, IsZip g (n + 4) (n + 2) (n + 3) .none → IsPair g (n + 2) (.ref n) (.ref (n + 1)) → IsPair g (n + 3) .none .none → g.IsTupleIter n a 0 → g.IsListIter (n + 1) b 0 → (∀ d o, s.heap.get? d = some o → g.get? d = some o) → Q (.ref (n + 4)) { s with heap := g }) :
    wpAny (model prog w) A (call (.type "zip") [.ref a, .ref b]) Q E s := by
  have e1 : (zr1 s.heap a).objs.size = n + 1 := by rw [Heap.size_push, hn]
  have e2 : (zr2 s.heap a b).objs.size = n + 2 := by rw [Heap.size_push, e1]
  have e3 : (zr3 s.heap a b).objs.size = n + 3 := by rw [Heap.size_push, e2]
  have e4 : (zr4 s.heap a b).objs.size = n + 4 := by rw [Heap.size_push, e3]
  have up : ∀ (h : Heap) (o : Obj) (d : Addr) (u : Obj), h.get? d = some u → (h.push o).get? d = some u := fun h o d u q => Heap.get?_push_of_some _ q
  have r5 : (zr5 s.heap a b).get? (zr4 s.heap a b).objs.size = some _ := Heap.get?_push_size _ rfl
  have r4 : (zr5 s.heap a b).get? (zr3 s.heap a b).objs.size = some _ := up _ _ _ _ (Heap.get?_push_size _ rfl)
  have r3 : (zr5 s.heap a b).get? (zr2 s.heap a b).objs.size = some _ := up _ _ _ _ (up _ _ _ _ (Heap.get?_push_size _ rfl))
  have r2 : (zr5 s.heap a b).get? (zr1 s.heap a).objs.size = some _ := up _ _ _ _ (up _ _ _ _ (up _ _ _ _ (Heap.get?_push_size _ rfl)))
  have r1 : (zr5 s.heap a b).get? s.heap.objs.size = some _ := up _ _ _ _ (up _ _ _ _ (up _ _ _ _ (up _ _ _ _ (Heap.get?_push_size _ rfl))))
  rw [e4, e3, e2] at r5
  rw [e3] at r4
  rw [e2, e1, hn] at r3
  rw [e1] at r2
  rw [hn] at r1
  refine callType_new F.called_zip (by decide) (F.typeCall_zip_2 _ _) (F.newCall_zip_2 _ _) (fun obj => F.args_object_init_3 obj _ _) F.entry_zip_new (zr_meets a b us vs) ⟨pa, pb, ?_⟩
  show _ ∧ _
  rw [e4]
  exact ⟨⟨_, r5, rfl⟩, fin _ r5 r3 r4 ⟨_, r1, rfl, rfl⟩ ⟨_, r2, rfl, rfl⟩ fun d o q => up _ _ _ _ (up _ _ _ _ (up _ _ _ _ (up _ _ _ _ (up _ _ _ _ q))))⟩
section
variable {X : Cx} {c : Cc} {W : WX} {e e2 : Expr} {p pos tpos : Pos} {elts : List Expr} {kk : Nat}
def iZr (K : PySem.W.Frag) (ta : TA) : TI := fun σ H R => ta σ H fun ws H1 => ∃ a b us vs, ws = [.ref a, .ref b] ∧ SqT K H1 a us ∧ SqL K H1 b vs ∧ R (ItzTL K a b) H1
theorem pi_zr {ta : TA} (hg : Gl X "zip") (hm : X.mg "zip" = none) (ha : PA X [e, e2] ta)
    (hs : starEach [e, e2] X.env = (false, eval e X.env) :: starEach [e2] X.env := by rfl) (hpl : (backTo pos (starEach [e2] X.env)).any (·.1) = false := by rfl) : PI X (.Tuple elts kk tpos) (.Call (.Name "zip" p) [e, e2] [] pos) (iZr X.K ta) := by
  refine ⟨fun pins s σ H R I h => ?_⟩
  refine Call_ (ld_blt I hg hm PyProof.Rows.boot_zip (PyProof.Rows.callWith_type1 (thn (ha.run pos pins s σ H _ I h) fun cs s1 ⟨ws, H1, I1, r1, q1⟩ => ?_) hs hpl))
  obtain ⟨a, b, us, vs, ew, sa, sb, q⟩ := q1
  subst ew
  obtain ⟨u1, u2, rfl, ra, rb⟩ := vals2 r1
  cases ra
  cases rb
  have fresh : ∀ d ∈ zFive s1.heap.objs.size, FpOk X pins H1 d := fun d hd => by
    have hle : s1.heap.objs.size ≤ d := by
      simp only [List.mem_cons, List.not_mem_nil, or_false] at hd
      rcases hd with rfl | rfl | rfl | rfl | rfl
      · exact Nat.le_add_right _ 4
      · exact Nat.le_add_right _ 2
      · exact Nat.le_add_right _ 3
      · exact Nat.le_refl _
      · exact Nat.le_add_right _ 1
    exact I1.fpOk hle (I1.hok.fresh hle)
  obtain ⟨its, _, pa, _⟩ := I1.tuple sa
  obtain ⟨jts, _, pb, _⟩ := I1.list sb
  refine zr_call (show s1.heap.IsTuple a its.toArray from pa) pb.isList rfl fun g gz gi gu g1 g2 gk => wpAny_pyIter_zip gz ?_
  exact ⟨s1.heap.objs.size + 4, zFive s1.heap.objs.size, _, _, H1, rfl, I1.kept (t' := s1.toks) gk, turn_zipTL pa.lt pb.lt, ⟨gz, gi, ⟨_, _, gu⟩, g1, g2⟩, fresh, q⟩
theorem walk_ztl {K : PySem.W.Frag} {F : Hp} {a b : Addr} {xs ys : List V} {ds es : List PyData} (ea : F a = some (.tup xs)) (ra : RqAll F xs ds) (eb : F b = some (.lst ys)) (rb : RqAll F ys es) : Walk c (ItzTL K a b) F (zipD ds es) where
  stop := fun H0 F0 env F' σ H J k => ⟨xs, ys, sqT (J.b.sub _ _ (k _ _ ea)), sqL (J.b.sub _ _ (k _ _ eb)), by rw [ra.len, rb.len]; exact zipD_end⟩
  go := fun H0 F0 env F' σ H i d J k h => by
    obtain ⟨x, y, h1, h2, rfl⟩ := zipD_at h
    obtain ⟨v, e1, rv⟩ := ra.get h1
    obtain ⟨w, e2, rw⟩ := rb.get h2
    have qa : SqT K H a xs := sqT (J.b.sub _ _ (k _ _ ea))
    have qb : SqL K H b ys := sqL (J.b.sub _ _ (k _ _ eb))
    refine ⟨⟨xs, ys, v, w, qa, qb, e1, e2⟩, fun z H3 hy => ?_⟩
    obtain ⟨T, v', w', rfl, hT, rfl, f1, f2⟩ := hy
    have g1 := f1 xs qa
    have g2 := f2 ys qb
    rw [e1] at g1
    rw [e2] at g2
    cases g1
    cases g2
    have k2 : Same F' (upd F' T (.tup [v, w])) := same_upd (J.b.fnone hT)
    exact ⟨_, J.alloc hT _, k2, Rq.tup upd_same (.cons ((rv.same k).same k2) (.cons ((rw.same k).same k2) .nil))⟩
def iZipTL (a : PTA) : PTI := fun env R E => a env (fun ss => match ss with
  | [.d (.tuple ds), .d (.list es)] => R (zipD ds es)
  | _ => False) E
theorem pui_zipTL {pa : PTA} (hm : X.mg "zip" = none) (ha : PuA X c W [e, e2] pa) (hg : Gl X "zip" := by rfl)
    (hs : starEach [e, e2] X.env = (false, eval e X.env) :: starEach [e2] X.env := by rfl) (hpl : (backTo pos (starEach [e2] X.env)).any (·.1) = false := by rfl) :
    PuI X c W (.Tuple elts kk tpos) (.Call (.Name "zip" p) [e, e2] [] pos) (iZipTL pa) := by
  obtain ⟨ta, ha, ra⟩ := ha
  refine ⟨_, pi_zr hg hm ha hs hpl, fun H0 F0 env F σ H R E Q J L hp fin => ra _ _ _ _ _ _ _ _ _ J L hp fun vs ss F1 H1 J1 k1 r1 h1 => ?_⟩
  split at h1
  · obtain ⟨v, w, rfl, rv, rw⟩ := rs2 r1
    cases rv with
    | tup ea ra =>
      cases rw with
      | lst eb rb => exact ⟨_, _, _, _, rfl, sqT (J1.b.sub _ _ ea), sqL (J1.b.sub _ _ eb), fin _ F1 H1 _ J1 k1 (walk_ztl ea ra eb rb) h1⟩
  · exact h1.elim
end
end Px
namespace Px
open PySem PySem.Spec PyProof.Rows L2 Lx
/-- a comprehension within a comprehension -/
theorem relabel_lk {env : Env} : ∀ {names : List (Str × NameKind)} {x : Str}, names.lookup x = some .cell ∨ names.lookup x = some .free →
    (names.map fun (n, k) => if (k == NameKind.free && env.scope.kind == .function && env.kindOf n == some .cell) then (n, NameKind.cell) else (n, k)).lookup x = some .cell ∨ (names.map fun (n, k) => if (k == NameKind.free && env.scope.kind == .function && env.kindOf n == some .cell) then (n, NameKind.cell) else (n, k)).lookup x = some .free
  | [], _, h => by simp at h
  | (n, k) :: r, x, h => by
    have ih := @relabel_lk env r x
    show List.lookup x ((if (k == NameKind.free && env.scope.kind == .function && env.kindOf n == some .cell) = true then (n, NameKind.cell) else (n, k)) :: _) = _ ∨ List.lookup x ((if (k == NameKind.free && env.scope.kind == .function && env.kindOf n == some .cell) = true then (n, NameKind.cell) else (n, k)) :: _) = _
    rw [List.lookup_cons] at h
    cases e : x == n with
    | true =>
      rw [e] at h
      split
      · rw [List.lookup_cons, e]; exact .inl rfl
      · rw [List.lookup_cons, e]; exact h
    | false =>
      rw [e] at h
      split <;> (rw [List.lookup_cons, e]; exact ih h)
theorem blkOk_in {X : Cx} {scope0 scope : Scope} {i : CI} {own : List (Str × Nat)} {N : List Str} (h : blkC N scope0 scope own = true) : BlkOk N (i.blk X scope0).env.scope scope own := by
  have B := blkOk_by h
  exact ⟨B.kind, B.uniq, B.ix, fun y hy e => relabel_lk (B.free y hy e), B.own⟩
/-! ### x = [..] on one line -/
section
variable {X : Cx} {c : Cc} {W : WX}
theorem pus_setLc {i : Nat} {y : Str} {py : Pos} {elt tg iter : Expr} {scope : Scope} {own : List (Str × Nat)} {pos spos : Pos} {pi : PTI} {pg : PTG} {is : List Nat} {pe : PTE} (hc : X.calm = true) (hN : X.N.Nodup) (hi : PuI X c W tg iter pi) (ok : BlkOk X.N X.env.scope scope own) (hg : ∀ i : CI, PuG (i.blk X scope) c tg pg is)
    (he : ∀ i : CI, PuE (i.blk X scope) c WNo elt pe) (hy : X.N[i]? = some y := by rfl) (hyl : X.env.scope.names.lookup y = some .local := by rfl) (hk : X.env.scope.kind = .function := by rfl) (hl : (py.line == pos.line) = true := by rfl)
    (hz : (scope.names.any fun (n, k) => n == y && (k == .local || k == .cell)) = false := by rfl) (hsub : ∀ i ∈ is, i ∈ own.map (·.2) := by decide) (hs : ∀ x, foldedSetIterable iter X.env x = pure x := by intro _; rfl) : PuS X c W (.Assign [.Name y py] (.ListComp elt [⟨tg, iter, [], 0⟩] scope pos) spos) (psSet i (pLc pi pg pYes pe (own.map (·.2)))) := by
  obtain ⟨wi, hi, ri⟩ := hi
  obtain ⟨g, hg, rg⟩ := unifG hg
  obtain ⟨te, he, re⟩ := unifE he
  have rd := rd_lc (W := W) ri rg hsub (fun H0 F0 env F σ H R E Q J L hp fin => fin true F H J (same_refl F) hp) re
  refine ⟨_, ps_setLc hc hN hy hyl (sw_true hk hyl hl hz) hi ok (fun s H C cl fp => hg ⟨s, H, C, cl, fp⟩) (fun _ _ _ _ _ => pts_nil) (fun s H C cl fp => he ⟨s, H, C, cl, fp⟩) hs, fun H0 F0 env F σ H D P J L h => ?_⟩
  exact rd _ _ _ _ _ _ _ _ _ J L.ex h fun v s F1 H1 J1 k1 r1 h1 => L.nx _ F1 _ H1 (J1.set i r1) k1 h1
/-- the list one's own; j is lent to the comprehension -/
theorem pus_ownLc {i : Nat} (j : Nat) {y : Str} {py : Pos} {elt tg iter : Expr} {scope : Scope} {own : List (Str × Nat)} {pos spos : Pos} {pi : PTI} {pg : PTG} {is : List Nat} {pe : PTE} (hc : X.calm = true) (hN : X.N.Nodup) (hi : PuI X c W tg iter pi) (ok : BlkOk X.N X.env.scope scope own) (hg : ∀ i : CI, PuG (i.blk X scope) c tg pg is)
    (he : ∀ i : CI, PuE (i.blk X scope) c WNo elt pe) (hy : X.N[i]? = some y := by rfl) (hyl : X.env.scope.names.lookup y = some .local := by rfl) (hk : X.env.scope.kind = .function := by rfl) (hl : (py.line == pos.line) = true := by rfl)
    (hz : (scope.names.any fun (n, k) => n == y && (k == .local || k == .cell)) = false := by rfl) (hsub : ∀ i ∈ is, i ∈ own.map (·.2) := by decide) (hs : ∀ x, foldedSetIterable iter X.env x = pure x := by intro _; rfl) : PuS X c W (.Assign [.Name y py] (.ListComp elt [⟨tg, iter, [], 0⟩] scope pos) spos) (psOwnN i (pLendN j (pLcN pi pg pYes pe (own.map (·.2))))) := by
  obtain ⟨wi, hi, ri⟩ := hi
  obtain ⟨g, hg, rg⟩ := unifG hg
  obtain ⟨te, he, re⟩ := unifE he
  have rd := rdN_lend j (rd_lcN (W := W) ri rg hsub (fun H0 F0 env F σ H R E Q J L hp fin => fin true F H J (same_refl F) hp) re)
  refine ⟨_, ps_setLc hc hN hy hyl (sw_true hk hyl hl hz) hi ok (fun s H C cl fp => hg ⟨s, H, C, cl, fp⟩) (fun _ _ _ _ _ => pts_nil) (fun s H C cl fp => he ⟨s, H, C, cl, fp⟩) hs, fun H0 F0 env F σ H D P J L h => ?_⟩
  refine rd _ _ _ _ _ _ _ _ _ J L.ex h fun q ys ds F1 H1 J1 k1 f1 n1 h1 r1 ne hp => ?_
  exact L.nx _ F1 _ _ (J1.own i f1 n1 h1 r1 fun j xs _ e1 e2 => ne j xs e1 e2) k1 hp
end
/-! a method's contract -/
section
variable {P : Program} {w : World} {K : PySem.W.Frag} {mg : Str → Option Value} {base : Heap} {y qual : Str} {st : Stmt} {N ps : List Str} {k : Nat} {sp : PSp} {c : Cc} {f : Addr} {fd : FuncData}
theorem keepM (Fu : Fun K y qual st f fd) (S : FnScope N ps (defScope st))
    (hbody : ∀ (f : Addr) (cdv : Value) (A : Around) (outer : List Env) (s : Shared) (H : Hp) (E : XK), Room k (A.deeper (envOfC qual (defScope st) s.heap.objs.size f cdv)) →
      ∃ pt, PuSs (cxOf (L2.CX P w) P w K mg base N qual (defScope st) f cdv A outer s H E) c (WF E) (defBody st) pt ∧ ∀ ss R EX, ss.length = ps.length → sp ss R EX → pt (pdOf R EX) (startP N ss)) :
    FnOk P w K mg base (L2.CX P w) (k + 1) f fd ps (lift c ps.length sp) := by
  refine Fu.okX S (fun vs H Q E h => ?_) (fun cdv A outer s H vs Q E hr h => ?_)
  · obtain ⟨F, ss, R, EX, _, rs, hl, _⟩ := h
    rw [rs.len, hl]
  · obtain ⟨G, ss, R, EX, B, rs, hl, hp, hq, he⟩ := h
    obtain ⟨pt, ⟨t, ht, hrd⟩, hpure⟩ := hbody f cdv A outer s H E hr
    refine ⟨t, ht, hrd H G (startP N ss) G (L2.start N vs) H _ (pdOf R EX) (rel_start B rs N) ⟨?_, ?_, ?_, ?_, ?_⟩ (hpure ss R EX hl hp)⟩
    · exact fun env' F' σ' H' J _ q => hq .non (.d .none) F' H' J.b Rq.non q
    · exact fun v s F' H' B' rv q => hq v s F' H' B' rv q
    · exact fun env' F' σ' H' J _ q => q.elim
    · exact fun env' F' σ' H' J _ q => q.elim
    · exact fun env' F' σ' H' C d ds J x q => he C d ds F' H' J.b x q
end
end Px
namespace Px
open PySem PySem.Spec PyProof.Rows L2 Lx
/-! ### steps: comprehensions that map, fields, loops that fold -/
theorem lc_map {g : PTG} {pe : PTE} {envI : Ev} {ds : List PyData} {K : List PyData → Prop} (f : PyData → PyData) (hl : ds.length ≤ 1000000) (hs : ∀ d ∈ ds, ∀ R : Sl → Prop, R (.d (f d)) → g (.d d) envI fun env1 => pe env1 R ENo) (hK : K (ds.map f)) : pLcL g pYes pe envI ds [] K := by
  refine pLcL_ind (fun i acc => acc = (ds.take i).map f) rfl (fun i d acc N hi hacc hN => ?_) fun acc h => ?_
  · subst hacc
    have hlt := (List.getElem?_eq_some_iff.mp hi).1
    have hm : d ∈ ds := List.mem_of_getElem? hi
    have he : ds.take (i + 1) = ds.take i ++ [d] := by rw [List.take_add_one, hi]; rfl
    have key : ∀ (R : Sl → Prop), R (.d (f d)) → g (.d d) envI fun env1 => pYes env1 (fun b => (b = true → pe env1 R ENo) ∧ (b = false → N ((ds.take i).map f))) ENo := by
      intro R hR
      have := hs d hm R hR
      have e : (fun env1 => pYes env1 (fun b => (b = true → pe env1 R ENo) ∧ (b = false → N ((ds.take i).map f))) ENo) = fun env1 => pe env1 R ENo := by
        funext env1
        exact propext ⟨fun h => h.1 rfl, fun h => ⟨fun _ => h, fun z => Bool.noConfusion z⟩⟩
      rw [e]; exact this
    refine key _ ⟨by rw [List.length_map, List.length_take]; omega, hN _ ?_⟩
    rw [he, List.map_append]; rfl
  · subst h
    rw [List.take_length]; exact hK
theorem lc_mapT {g : PTG} {pe : PTE} {envI : Ev} {K : List PyData → Prop} {α : Type} (t f : α → PyData) {xs : List α} (hl : xs.length ≤ 1000000) (hs : ∀ x ∈ xs, ∀ R : Sl → Prop, R (.d (f x)) → g (.d (t x)) envI fun env1 => pe env1 R ENo) (hK : K (xs.map f)) : pLcL g pYes pe envI (xs.map t) [] K := by
  have go : ∀ (xs : List α) (acc : List PyData), acc.length + xs.length ≤ 1000000 → (∀ x ∈ xs, ∀ R : Sl → Prop, R (.d (f x)) → g (.d (t x)) envI fun env1 => pe env1 R ENo) → K (acc ++ xs.map f) → pLcL g pYes pe envI (xs.map t) acc K := by
    intro xs
    induction xs with
    | nil => intro acc _ _ hK; simpa [pLcL] using hK
    | cons x xs ih =>
      intro acc hl hs hK
      have hl' : acc.length + (xs.length + 1) ≤ 1000000 := hl
      rw [List.map_cons]
      unfold pLcL
      have key : ∀ (R : Sl → Prop) (N : Prop), R (.d (f x)) → g (.d (t x)) envI fun env1 => pYes env1 (fun b => (b = true → pe env1 R ENo) ∧ (b = false → N)) ENo := by
        intro R N hR
        have := hs x List.mem_cons_self R hR
        have e : (fun env1 => pYes env1 (fun b => (b = true → pe env1 R ENo) ∧ (b = false → N)) ENo) = fun env1 => pe env1 R ENo := by
          funext env1
          exact propext ⟨fun h => h.1 rfl, fun h => ⟨fun _ => h, fun z => Bool.noConfusion z⟩⟩
        rw [e]; exact this
      refine key _ _ ⟨by omega, ih (acc ++ [f x]) (by rw [List.length_append]; simp only [List.length_cons, List.length_nil]; omega) (fun y hy => hs y (List.mem_cons_of_mem _ hy)) ?_⟩
      rw [List.append_assoc]; exact hK
  exact go xs [] (by simpa using hl) hs (by simpa using hK)
/-- each item one of many -/
theorem lc_rel {g : PTG} {pe : PTE} {envI : Ev} {ds : List PyData} {K : List PyData → Prop} {α : Type} (t : α → PyData) (P : Nat → α → Prop) (hl : ds.length ≤ 1000000) (hs : ∀ (i : Nat) (d : PyData), ds[i]? = some d → ∀ R : Sl → Prop, (∀ x, P i x → R (.d (t x))) → g (.d d) envI fun env1 => pe env1 R ENo)
    (hK : ∀ xs : List α, xs.length = ds.length → (∀ i x, xs[i]? = some x → P i x) → K (xs.map t)) : pLcL g pYes pe envI ds [] K := by
  refine pLcL_ind (fun i acc => ∃ xs : List α, acc = xs.map t ∧ xs.length = i ∧ ∀ j x, xs[j]? = some x → P j x) ⟨[], rfl, rfl, fun j x h => by simp at h⟩ (fun i d acc N hi hacc hN => ?_) fun acc h => ?_
  · obtain ⟨xs, rfl, hx, hp⟩ := hacc
    have hlt := (List.getElem?_eq_some_iff.mp hi).1
    have key : ∀ (R : Sl → Prop), (∀ x, P i x → R (.d (t x))) → g (.d d) envI fun env1 => pYes env1 (fun b => (b = true → pe env1 R ENo) ∧ (b = false → N (xs.map t))) ENo := by
      intro R hR
      have := hs i d hi R hR
      have e : (fun env1 => pYes env1 (fun b => (b = true → pe env1 R ENo) ∧ (b = false → N (xs.map t))) ENo) = fun env1 => pe env1 R ENo := by
        funext env1
        exact propext ⟨fun h => h.1 rfl, fun h => ⟨fun _ => h, fun z => Bool.noConfusion z⟩⟩
      rw [e]; exact this
    refine key _ fun x hx' => ⟨by rw [List.length_map]; omega, hN _ ⟨xs ++ [x], by rw [List.map_append]; rfl, by rw [List.length_append, hx]; rfl, fun j y hj => ?_⟩⟩
    rcases Nat.lt_or_ge j xs.length with h1 | h1
    · rw [List.getElem?_append_left h1] at hj; exact hp j y hj
    · rw [List.getElem?_append_right h1] at hj
      have : j - xs.length = 0 := by
        rcases Nat.eq_zero_or_pos (j - xs.length) with z | z
        · exact z
        · rw [List.getElem?_eq_none (by simp; omega)] at hj; cases hj
      rw [this] at hj
      cases hj
      rw [show j = i by omega]; exact hx'
  · obtain ⟨xs, rfl, hx, hp⟩ := h
    exact hK xs hx hp
theorem fld_i {C : Addr} {i : Nat} {fns : List Str} {f : Str} {pa : PTE} {P : PD} {env : Ev} {x : Addr} {ds : FD} (d : PyData) (hn : nth env i = some (.slf x C ds)) (h1 : ∀ R : Sl → Prop, R (.d d) → pa env R P.ex) (hf : f ∉ ds.map (·.1)) (hm : f ∈ fns) (hl : ds.length < 1000) (hS : noS (env.set i none) = true)
    (h2 : P.nx (env.set i (some (.slf x C (ds ++ [(f, d)]))))) : ofC C i (psFld i fns f pa) P env := by
  refine ⟨⟨x, ds, hn⟩, h1 _ ?_⟩
  show match nth env i with | some (.slf y C ds) => _ | _ => False
  rw [hn]
  exact ⟨hf, hm, hl, hS, h2⟩
theorem seq_i {a b : PTS} {P : PD} {env : Ev} (h : a { P with nx := b P } env) : psSeq a b P env := h
/-- a loop that steps from st a to st (f a d) -/
theorem for_fold {g : PTG} {B : PTS} {P : PD} {α : Type} (E : Nat → α → Ev → Prop) (f : α → PyData → α) {ds : List PyData} {a0 : α} {env : Ev} (h0 : E 0 a0 env)
    (hs : ∀ (i : Nat) (d : PyData) (env : Ev) (N : Ev → Prop), ds[i]? = some d → E i ((ds.take i).foldl f a0) env → (∀ env', E (i + 1) (f ((ds.take i).foldl f a0) d) env' → N env') → g (.d d) env fun env' => B { P with nx := N, ct := N, bk := P.nx } env')
    (he : ∀ env, E ds.length (ds.foldl f a0) env → P.nx env) : pForL g B ds P env := by
  refine pForL_ind (fun i env => E i ((ds.take i).foldl f a0) env) h0 (fun i d env N hi hE hN => hs i d env N hi hE fun env' h => hN env' ?_) fun env h => ?_
  · have e : ds.take (i + 1) = ds.take i ++ [d] := by rw [List.take_add_one, hi]; rfl
    rw [e, List.foldl_append]
    exact h
  · rw [List.take_length] at h; exact he env h
theorem for_foldT {g : PTG} {B : PTS} {P : PD} {α β : Type} (t : β → PyData) (E : Nat → α → Ev → Prop) (f : α → β → α) {xs : List β} {a0 : α} {env : Ev} (h0 : E 0 a0 env)
    (hs : ∀ (i : Nat) (x : β) (env : Ev) (N : Ev → Prop), xs[i]? = some x → E i ((xs.take i).foldl f a0) env → (∀ env', E (i + 1) (f ((xs.take i).foldl f a0) x) env' → N env') → g (.d (t x)) env fun env' => B { P with nx := N, ct := N, bk := P.nx } env')
    (he : ∀ env, E xs.length (xs.foldl f a0) env → P.nx env) : pForL g B (xs.map t) P env := by
  refine pForL_ind (fun i env => E i ((xs.take i).foldl f a0) env) h0 (fun i d env N hi hE hN => ?_) fun env h => ?_
  · rw [List.getElem?_map] at hi
    cases e : xs[i]? with
    | none => rw [e] at hi; cases hi
    | some x =>
      rw [e] at hi
      cases hi
      refine hs i x env N e hE fun env' h => hN env' ?_
      have e : xs.take (i + 1) = xs.take i ++ [x] := by rw [List.take_add_one, e]; rfl
      rw [e, List.foldl_append]
      exact h
  · rw [List.length_map, List.take_length] at h; exact he env h
theorem for_step {pi : PTI} {g : PTG} {B rest : PTS} {P : PD} {env : Ev} (ds : List PyData) (h1 : ∀ R : List PyData → Prop, R ds → pi env R P.ex) (h2 : pForL g B ds { P with nx := rest P } env) : psSeq (psFor pi g B) rest P env := h1 _ h2
theorem for_last {pi : PTI} {g : PTG} {B : PTS} {P : PD} {env : Ev} (ds : List PyData) (h1 : ∀ R : List PyData → Prop, R ds → pi env R P.ex) (h2 : pForL g B ds P env) : psFor pi g B P env := h1 _ h2
end Px
namespace Px
open PySem PySem.Spec PyProof.Rows L2 Lx
/-! ### sorted(t), t a tuple of ints -/
section
variable {prog : Program} {w : World} {A : Around} {E : Value → Shared → Prop} {s : Shared}
/-- the heap with the list that a tuple was gathered in -/
abbrev gatH (h : Heap) (its : List Value) : Heap := (h.push (seqObj "list" #[] 0)).update h.objs.size (Obj.mapSeq fun z => z ++ its.toArray)
theorem gather_tup {t : Addr} {its : List Value} {Q : List Value → Shared → Prop} (ht : s.heap.IsTuple t its.toArray) (hz : its.length ≤ sizeLine) (hQ : Q its { s with heap := gatH s.heap its }) : wpAny (model prog w) A (collect (.ref t)) Q E s := by
  obtain ⟨ob, e1, e2, k, e3⟩ := id ht
  unfold collect
  refine wpAny_bind (wpAny_runValue (codeAny_builtin entry_proto_collect' ?_))
  show wpAny _ _ (newList [] >>= fun nl => again (.builtin "list.__iadd__" ⟨[nl, .ref t], []⟩)) _ _ s
  refine wpAny_bind (wpAny_newList ?_)
  refine wpAny_pure ⟨Code.quiet_builtin _ (by decide +kernel), codeAny_builtin entry_list_iadd' ?_⟩
  have g0 : (s.heap.push (seqObj "list" #[] 0)).get? s.heap.objs.size = some (seqObj "list" #[] 0) := Heap.get?_push_size _ rfl
  have g1 : (s.heap.push (seqObj "list" #[] 0)).get? t = some ob := Heap.get?_push_of_some _ e1
  show wpAny _ _ (Builtin.List.listExtendWith (Value.ref s.heap.objs.size) (Value.ref t) (Value.ref s.heap.objs.size)) _ _ ({ s with heap := s.heap.push (seqObj "list" #[] 0) } : Shared)
  unfold Builtin.List.listExtendWith
  refine wpAny_bind (wpAny_typeOf (T := "tuple") ⟨ob, g1, e2⟩ ?_)
  have tt : (Value.type "tuple" == Value.type "list" || Value.type "tuple" == Value.type "tuple") = true := by rfl
  rw [if_pos (by simpa using tt)]
  refine wpAny_bind (listItems_at g1 e3 ?_)
  refine wpAny_bind (listItems_at (n := 0) (xs := #[]) g0 rfl ?_)
  rw [if_neg (by simp)]
  refine wpAny_bind (listUpdate_at (n := 0) (xs := #[]) g0 rfl ?_ (Nat.zero_le _) (by
    show ((#[] : Array Value) ++ its.toArray).size ≤ sizeLine + 1
    simp only [Array.size_append, List.size_toArray, List.length_nil]
    omega))
  refine wpAny_pure ?_
  show wpAny (model prog w) A (load s.heap.objs.size >>= fun o => match o.data with | .seq xs _ => pure xs.toList | _ => unsupported "internal:collect") Q E ({ s with heap := gatH s.heap its } : Shared)
  refine wpAny_bind (wpAny_load (get?_update_seq g0 _) ?_)
  show wpAny _ _ (pure ((#[] : Array Value) ++ its.toArray).toList) Q E _
  have el : ((#[] : Array Value) ++ its.toArray).toList = its := by simp
  rw [el]
  exact wpAny_pure hQ
theorem sorted_tup {t : Addr} {vs : List Value} {ns : List Int} {Q : Value → Shared → Prop} (ht : s.heap.IsTuple t vs.toArray) (hI : IntsAre vs ns) (hz : vs.length ≤ sizeLine)
    (h : ∀ (out : List Value) (h' : Heap) (p : Addr) (ep : Nat), SrtO.Srtd SrtO.ltIv out → SrtO.Stb SrtO.ltIv out vs → (∀ b o, s.heap.get? b = some o → h'.get? b = some o) → s.heap.objs.size ≤ p → h'.get? p = some (seqObj "list" out.toArray ep) → Q (.ref p) { s with heap := h' }) :
    wpAny (model prog w) A (call (.builtin "sorted") [.ref t]) Q E s := by
  refine Calls.call_function_entry kind_sorted plain_sorted entry_sorted (args_sorted1 _) ?_
  unfold Builtin.«sorted»
  refine wpAny_bind (m := checkCount "sorted" 1 1 _) (wpAny_pure ?_)
  refine wpAny_bind (gather_tup ht hz ?_)
  refine wpAny_bind (wpAny_newList ?_ hz)
  have z1 : (gatH s.heap vs).objs.size = s.heap.objs.size + 1 := by rw [Heap.size_update, Heap.size_push]
  have z2 : ((gatH s.heap vs).push (seqObj "list" vs.toArray 0)).get? (s.heap.objs.size + 1) = some (seqObj "list" vs.toArray 0) := by
    rw [← z1]; exact Heap.get?_push_size _ rfl
  have old : ∀ b o, s.heap.get? b = some o → ((gatH s.heap vs).push (seqObj "list" vs.toArray 0)).get? b = some o := fun b o q => by
    have lt : b < s.heap.objs.size := Heap.lt_size q
    refine Heap.get?_push_of_some _ ?_
    rw [Heap.get?_update_ne _ _ _ _ (Nat.ne_of_lt lt)]
    exact Heap.get?_push_of_some _ q
  show wpAny _ _ _ _ _ ({ s with heap := (gatH s.heap vs).push (seqObj "list" vs.toArray 0) } : Shared)
  rw [z1]
  refine wpAny_bind (wpAny_holding (wpAny_call_entry slot_list_sort ⟨_, z2, rfl⟩ entry_list_sort (SrtO.list_sort_ord SrtO.swo_int z2 hz (fun h2 => SrtO.ints_sortable hI h2) fun out hs hb => ⟨_, rfl, ?_⟩) (args_list_sort _)))
  obtain ⟨ep, e⟩ := sortedHeap_at (out := out.toArray) z2
  refine wpAny_pure ⟨_, rfl, h out _ _ ep hs hb (fun b o q => ?_) (Nat.le_succ _) e⟩
  have lt : b < s.heap.objs.size := Heap.lt_size q
  rw [sortedHeap_old (Nat.ne_of_lt (Nat.lt_succ_of_lt lt)) (by rw [Heap.size_push, z1]; exact Nat.lt_succ_of_lt (Nat.lt_succ_of_lt lt))]
  exact old b o q
end
def rSort2 (K : PySem.W.Frag) : List V → Hp → VK → Prop := fun vs H Q => ∃ (a : Addr) (ns : List Int), vs = [V.ref a] ∧ (SqL K H a (ns.map V.int) ∨ SqT K H a (ns.map V.int)) ∧
  ∀ (ns' : List Int) (p : Addr), ns'.Perm ns → ns'.Pairwise (· ≤ ·) → H p = none → Q (.ref p) (upd H p (.lst (ns'.map V.int)))
theorem cr_sorted2 {X : Cx} : CallR X (.builtin "sorted") (rSort2 X.K) := by
  intro pins s σ H vs us Q I r h
  obtain ⟨a, ns, rfl, hs | hs, q⟩ := h
  · exact cr_sortedI pins s σ H _ us Q I r ⟨a, ns, rfl, hs, q⟩
  · obtain ⟨its, rv, pt, hz⟩ := I.tuple hs
    rw [Vals.ref1 r]
    have hi := rv.ints
    refine sorted_tup (show s.heap.IsTuple a its.toArray from pt) hi (by rw [← rv.length]; exact hz) fun out h' p ep h1 h2 keep le e => ?_
    obtain ⟨k1, k2, k3⟩ := SrtO.ints_out hi h1 h2
    have hlen : ((out.map SrtO.iv).map V.int).length ≤ sizeLine := by
      rw [List.length_map, k2.length_eq]
      rw [List.length_map] at hz
      exact hz
    exact ⟨.ref p, upd H p (.lst ((out.map SrtO.iv).map V.int)), I.laid (t' := s.toks) keep le ⟨hlen, out, ep, vals_of_ints k1, e⟩, rfl, q _ _ k2 k3 (I.hok.fresh le)⟩
def intsD (ns : List Int) : List PyData := ns.map PyData.int
theorem rel_ints {F : Hp} : ∀ ns : List Int, RqAll F (ns.map V.int) (intsD ns)
  | [] => .nil
  | n :: ns => .cons (.int n) (rel_ints ns)
theorem ints_of {F : Hp} : ∀ {vs : List V} {ns : List Int}, RqAll F vs (intsD ns) → vs = ns.map V.int
  | _, [], h => by cases h; rfl
  | _, n :: ns, h => by
    cases h with
    | cons a b =>
      cases a
      rw [ints_of b]
      rfl
def bSorted : PB := fun ss R => ∃ (x : PyData) (ns : List Int), ss = [.d x] ∧ (x = .list (intsD ns) ∨ x = .tuple (intsD ns)) ∧ ∀ ns' : List Int, ns'.Perm ns → ns'.Pairwise (· ≤ ·) → R (.d (.list (intsD ns')))
theorem rb_sorted {c : Cc} {K : PySem.W.Frag} : RB c (rSort2 K) bSorted := by
  intro H0 F0 env F σ H vs ss R Q J r h fin
  obtain ⟨x, ns, rfl, hx, h⟩ := h
  obtain ⟨v, rfl, rv⟩ := rs1 r
  have go : ∀ (a : Addr), (SqL K H a (ns.map V.int) ∨ SqT K H a (ns.map V.int)) → rSort2 K [V.ref a] H Q := fun a hs => ⟨a, ns, rfl, hs, fun ns' p h1 h2 hp => fin (.ref p) (.d _) _ _ (J.alloc hp _) (same_upd (J.b.fnone hp)) (Rq.lst upd_same (rel_ints ns')) (h ns' h1 h2)⟩
  rcases hx with rfl | rfl
  · cases rv with
    | lst e rr => rw [ints_of rr] at e; exact go _ (.inl (sqL (J.b.sub _ _ e)))
  · cases rv with
    | tup e rr => rw [ints_of rr] at e; exact go _ (.inr (sqT (J.b.sub _ _ e)))
/-! ### a list of one's own by a comprehension, nothing lent -/
section
variable {X : Cx} {c : Cc} {W : WX}
theorem pus_ownLc0 {i : Nat} {y : Str} {py : Pos} {elt tg iter : Expr} {scope : Scope} {own : List (Str × Nat)} {pos spos : Pos} {pi : PTI} {pg : PTG} {is : List Nat} {pe : PTE} (hc : X.calm = true) (hN : X.N.Nodup) (hi : PuI X c W tg iter pi) (ok : BlkOk X.N X.env.scope scope own) (hg : ∀ i : CI, PuG (i.blk X scope) c tg pg is)
    (he : ∀ i : CI, PuE (i.blk X scope) c WNo elt pe) (hy : X.N[i]? = some y := by rfl) (hyl : X.env.scope.names.lookup y = some .local := by rfl) (hk : X.env.scope.kind = .function := by rfl) (hl : (py.line == pos.line) = true := by rfl)
    (hz : (scope.names.any fun (n, k) => n == y && (k == .local || k == .cell)) = false := by rfl) (hsub : ∀ i ∈ is, i ∈ own.map (·.2) := by decide) (hs : ∀ x, foldedSetIterable iter X.env x = pure x := by intro _; rfl) : PuS X c W (.Assign [.Name y py] (.ListComp elt [⟨tg, iter, [], 0⟩] scope pos) spos) (psOwnN i (pLcN pi pg pYes pe (own.map (·.2)))) := by
  obtain ⟨wi, hi, ri⟩ := hi
  obtain ⟨g, hg, rg⟩ := unifG hg
  obtain ⟨te, he, re⟩ := unifE he
  have rd := rd_lcN (W := W) ri rg hsub (fun H0 F0 env F σ H R E Q J L hp fin => fin true F H J (same_refl F) hp) re
  refine ⟨_, ps_setLc hc hN hy hyl (sw_true hk hyl hl hz) hi ok (fun s H C cl fp => hg ⟨s, H, C, cl, fp⟩) (fun _ _ _ _ _ => pts_nil) (fun s H C cl fp => he ⟨s, H, C, cl, fp⟩) hs, fun H0 F0 env F σ H D P J L h => ?_⟩
  refine rd _ _ _ _ _ _ _ _ _ J L.ex h fun q ys ds F1 H1 J1 k1 f1 n1 h1 r1 ne hp => ?_
  exact L.nx _ F1 _ _ (J1.own i f1 n1 h1 r1 fun j xs _ e1 e2 => ne j xs e1 e2) k1 hp
/-! ### a comprehension over a tuple of whatever: the list one's own -/
def pLcLS (g : PTG) (pe : PTE) (envI : Ev) : List Sl → List PyData → (List PyData → Prop) → Prop
  | [], acc, K => K acc
  | d :: l, acc, K => g d envI fun env1 => pe env1 (fun s => match s with
      | .d x => acc.length ≤ 1000000 ∧ pLcLS g pe envI l (acc ++ [x]) K
      | _ => False) ENo
def pLcSN (it : PTIs) (g : PTG) (pe : PTE) (vs : List Nat) : PTN := fun env R E => it env (fun ds => pLcLS g pe (wipeE (noOwn env) vs) ds [] R) E
theorem rd_lcSN {wi : TI} {pi : PTIs} {g : TG} {pg : PTG} {is : List Nat} {tt : TT} {te : TE} {pe : PTE} {vs : List Nat} (ri : RdIs c W wi pi) (rg : RdG c g pg is) (hsub : ∀ i ∈ is, i ∈ vs) (rt : RdT c WNo tt pYes) (re : Rd c WNo te pe) : RdN c W (tLc wi g tt te vs) (pLcSN pi pg pe vs) := by
  intro H0 F0 env F σ H R E Q J L hp fin
  refine ri _ _ _ _ _ _ _ _ _ J L hp fun I F1 H1 ds J1 k1 wk h1 => ?_
  intro D hD
  have hown := own_ne J1 hD
  have J2 := J1.new hD (.lst [])
  have h0 : Nw H0 D := J1.b.h0 hD
  have fD : F1 D = none := J1.b.fnone hD
  refine ⟨fun i m H => i + m = ds.length ∧ ∃ (F' : Hp) (acc : List V) (ad : List PyData), Rel c H0 F0 env F' σ H ∧ Same F1 F' ∧ F' D = none ∧ H D = some (.lst acc) ∧ RqAll F' acc ad ∧ pLcLS pg pe (wipeE (noOwn env) vs) (ds.drop i) ad R,
    ⟨ds.length, by omega, F1, [], [], J2, same_refl F1, fD, upd_same, .nil, by simpa using h1⟩, ?_⟩
  rintro i m H2 ⟨hm, F2, acc, ad, J3, k2, fD2, hD2, ra, h2⟩
  cases m with
  | zero =>
    have hi : i = ds.length := by omega
    subst hi
    rw [List.drop_length] at h2
    refine .inl ⟨wk.stop _ _ _ _ _ _ J3 k2, ?_⟩
    exact fin D acc ad F2 H2 J3 (same_trans k1 k2) fD2 h0 hD2 ra hown h2
  | succ m =>
    have hi : i < ds.length := by omega
    have ed : ds.drop i = ds[i] :: ds.drop (i + 1) := List.drop_eq_getElem_cons hi
    rw [ed] at h2
    obtain ⟨go, yl⟩ := wk.go _ _ _ _ _ _ i ds[i] J3 k2 (List.getElem?_eq_getElem hi)
    refine .inr ⟨go, fun H' => ∃ (F' : Hp) (acc : List V) (ad : List PyData), Rel c H0 F0 env F' σ H' ∧ Same F1 F' ∧ F' D = none ∧ H' D = some (.lst acc) ∧ RqAll F' acc ad ∧ pLcLS pg pe (wipeE (noOwn env) vs) (ds.drop (i + 1)) ad R,
      fun H' ⟨a1, a2, a3, a4⟩ => ⟨m, by omega, by omega, a1, a2, a3, a4⟩, fun x H3 hy => ?_⟩
    have JI := (J3.inner).wipe vs
    obtain ⟨F3, J4, k3, r3⟩ := (wk.go _ _ _ _ _ _ i ds[i] JI k2 (List.getElem?_eq_getElem hi)).2 x H3 hy
    refine rg _ _ _ _ _ _ _ ds[i] _ _ J4 r3 h2 fun env4 σ4 J5 l4 o4 h4 => ?_
    refine ⟨wipe_eq (by rw [l4, L2.wipe_length]) fun j hj => o4 j fun z => hj (hsub j z), ?_⟩
    refine rt _ _ _ _ _ _ (fun b => b = true) ENo _ J5 link_no rfl fun b F5 H5 J6 k5 hb => ?_
    cases hb
    have nD : ∀ {G H' : Hp} {e : Ev} {τ : St}, Rel c H2 F2 e G τ H' → H' D = some (.lst acc) ∧ G D = none := fun {G H' e τ} J' => by
      refine ⟨J'.b.fr D _ (J3.b.noutL hD2) (fun ps z => by cases z) hD2, ?_⟩
      cases e' : G D with
      | none => rfl
      | some o =>
        rcases J'.b.fN D (by rw [e']; simp) with z | z
        · exact absurd fD2 z
        · obtain ⟨ps, z⟩ := z _ hD2; cases z
    show te σ4 H5 _
    refine re _ _ _ _ _ _ _ _ _ J6 link_no h4 fun v s F7 H7 J7 k7 r7 h7 => ?_
    have B := J7.b
    have k6 : Same F2 F7 := B.fF
    split at h7
    · have J8 := (J3.after B).wrAt (zs := acc ++ [v]) (nD J7).1 (nD J7).2 h0 hown
      refine ⟨acc, (nD J7).1, ?_, F7, acc ++ [v], _, J8, same_trans k2 k6, (nD J7).2, upd_same, (ra.same k6).app (.cons r7 .nil), h7.2⟩
      rw [ra.len]
      exact Nat.lt_of_le_of_lt h7.1 (by decide)
    · exact h7.elim
/-- x = [e for y in (f, g, ..)] on one line, x one's own -/
theorem pus_ownLcS {i : Nat} {y : Str} {py : Pos} {elt tg iter : Expr} {scope : Scope} {own : List (Str × Nat)} {pos spos : Pos} {pi : PTIs} {pg : PTG} {is : List Nat} {pe : PTE} (hc : X.calm = true) (hN : X.N.Nodup) (hi : PuIs X c W tg iter pi) (ok : BlkOk X.N X.env.scope scope own) (hg : ∀ i : CI, PuG (i.blk X scope) c tg pg is)
    (he : ∀ i : CI, PuE (i.blk X scope) c WNo elt pe) (hy : X.N[i]? = some y := by rfl) (hyl : X.env.scope.names.lookup y = some .local := by rfl) (hk : X.env.scope.kind = .function := by rfl) (hl : (py.line == pos.line) = true := by rfl)
    (hz : (scope.names.any fun (n, k) => n == y && (k == .local || k == .cell)) = false := by rfl) (hsub : ∀ i ∈ is, i ∈ own.map (·.2) := by decide) (hs : ∀ x, foldedSetIterable iter X.env x = pure x := by intro _; rfl) : PuS X c W (.Assign [.Name y py] (.ListComp elt [⟨tg, iter, [], 0⟩] scope pos) spos) (psOwnN i (pLcSN pi pg pe (own.map (·.2)))) := by
  obtain ⟨wi, hi, ri⟩ := hi
  obtain ⟨g, hg, rg⟩ := unifG hg
  obtain ⟨te, he, re⟩ := unifE he
  have rd := rd_lcSN (W := W) ri rg hsub (fun H0 F0 env F σ H R E Q J L hp fin => fin true F H J (same_refl F) hp) re
  refine ⟨_, ps_setLc hc hN hy hyl (sw_true hk hyl hl hz) hi ok (fun s H C cl fp => hg ⟨s, H, C, cl, fp⟩) (fun _ _ _ _ _ => pts_nil) (fun s H C cl fp => he ⟨s, H, C, cl, fp⟩) hs, fun H0 F0 env F σ H D P J L h => ?_⟩
  refine rd _ _ _ _ _ _ _ _ _ J L.ex h fun q ys ds F1 H1 J1 k1 f1 n1 h1 r1 ne hp => ?_
  exact L.nx _ F1 _ _ (J1.own i f1 n1 h1 r1 fun j xs _ e1 e2 => ne j xs e1 e2) k1 hp

/-! ### a def held in a name, each by its own contract -/
def pCallRf (i n : Nat) (ok : Addr → Prop) (sp : Addr → PSp) (a : PTA) : PTE := fun env R E => ∃ f, nth env i = some (.raw (.ref f)) ∧ ok f ∧ a env (fun ss => ss.length = n ∧ sp f ss R (E env)) E
theorem pe_callRawF {k i : Nat} {ok : Addr → Prop} {sp : Addr → Sp} {E : St → XK} {x : Str} {e : Expr} {es : List Expr} {t : TA} {p pos : Pos} (hf : ∀ f, ok f → (∃ fd ps, FnOk X.prog X.w X.K X.mg X.base (L2.CX X.prog X.w) k f fd ps (sp f) ∧ Binds X.K fd ps []) ∧ PySem.W.keepIn X.K (.ref f) = true) (hr : Room k X.A) (hx : ∀ σ, PassesAt (L2.CX X.prog X.w) X σ (E σ)) (hN : X.N[i]? = some x) (hv : Vis X.env.scope x) (ha : PA X (e :: es) t)
    (hd : (x == ("__debug__" : Str)) = false := by decide) (hcd : (x == ("__classdict__" : Str)) = false := by decide)
    (he : starEach (e :: es) X.env = (false, eval e X.env) :: starEach es X.env := by rfl) (hpl : (backTo pos (starEach es X.env)).any (·.1) = false := by rfl) : PE X (.Call (.Name x p) (e :: es) [] pos) (fun σ H Q => ∃ f, σ[i]? = some (some (.ref f)) ∧ ok f ∧ t σ H fun vs H1 => sp f vs H1 Q (E σ)) := by
  refine ⟨fun pins s σ H Q I h => ?_⟩
  obtain ⟨f, hs, hok, h⟩ := h
  obtain ⟨⟨fd, ps, F, hb⟩, hk⟩ := hf f hok
  refine wpAny_Call_Name_kw (thn ((pe_var (pos := p) (i := i) hN hv hd hcd).run pins s σ H (fun v H1 => v = .ref f ∧ H1 = H) I ⟨.ref f, hs, rfl, rfl⟩) fun u s1 z => ?_)
  obtain ⟨v, H1, I1, r1, ev, eH⟩ := z
  subst ev
  rw [eH] at I1
  cases r1
  exact PySem.W.callWith_K (h₀ := X.base) I.ok.mod.kin hk (thn (ha.run pos pins s1 σ H _ I1 h) fun us s2 ⟨vs, H2, I2, r, q⟩ => ⟨I2.kIn, run_fnS F hr hb (hx σ) I2 r q⟩) he hpl
theorem pu_callRf {k i n : Nat} {ok : Addr → Prop} {sp : Addr → PSp} {x : Str} {e : Expr} {es : List Expr} {pa : PTA} {p pos : Pos} (hf : ∀ f, ok f → (∃ fd ps, FnOk X.prog X.w X.K X.mg X.base (L2.CX X.prog X.w) k f fd ps (lift c n (sp f)) ∧ Binds X.K fd ps []) ∧ PySem.W.keepIn X.K (.ref f) = true) (hr : Room k X.A) (tk : Takes X W) (ha : PuA X c W (e :: es) pa)
    (hN : X.N[i]? = some x := by rfl) (hv : Vis X.env.scope x := by first | exact Or.inl rfl | exact Or.inr (Or.inl rfl) | exact Or.inr (Or.inr rfl)) (hd : (x == ("__debug__" : Str)) = false := by decide) (hcd : (x == ("__classdict__" : Str)) = false := by decide)
    (he : starEach (e :: es) X.env = (false, eval e X.env) :: starEach es X.env := by rfl) (hpl : (backTo pos (starEach es X.env)).any (·.1) = false := by rfl) : PuE X c W (.Call (.Name x p) (e :: es) [] pos) (pCallRf i n ok sp pa) := by
  obtain ⟨ta, ha, ra⟩ := ha
  refine ⟨_, pe_callRawF (sp := fun f => lift c n (sp f)) hf hr (fun σ => passAt tk σ) hN hv ha hd hcd he hpl, fun H0 F0 env F σ H R E Q J L hp fin => ?_⟩
  obtain ⟨f, hn, hok, h⟩ := hp
  obtain ⟨ov, e1, e2⟩ := J.get (nth_eq _ _ hn)
  have e2 : ov = some (.ref f) := e2
  exact ⟨f, by rw [e1, e2], hok, rd_call ra _ _ _ _ _ _ _ _ _ J L h fin⟩
/-! ### two fors in a comprehension -/
def pLcL2 (g : PTG) (pi1 : PTI) (g1 : PTG) (pe : PTE) (vs1 : List Nat) (envI : Ev) : List PyData → List PyData → (List PyData → Prop) → Prop
  | [], acc, K => K acc
  | d :: l, acc, K => g (.d d) envI fun env1 => pi1 env1 (fun ds1 => pLcL g1 pYes pe (wipeE (noOwn env1) vs1) ds1 acc fun acc' => pLcL2 g pi1 g1 pe vs1 envI l acc' K) ENo
def pLc2 (it : PTI) (g : PTG) (pi1 : PTI) (g1 : PTG) (pe : PTE) (vs vs1 : List Nat) : PTE := fun env R E => it env (fun ds => pLcL2 g pi1 g1 pe vs1 (wipeE (noOwn env) vs) ds [] fun es => R (.d (.list es))) E
/-- slots without one's own things, seen from a heap behind -/
theorem Rel.at {H0 F0 F H H' F' : Hp} {env : Ev} {σ : St} (R : Rel c H0 F0 env F σ H) (k : Same F F') (B : Bas c H' F' F' H') : Rel c H' F' (noOwn env) F' σ H' := by
  have no : ∀ (i : Nat) (xs : List PyData), (noOwn env)[i]? ≠ some (some (.own xs)) := fun i xs h => by
    unfold noOwn at h
    rw [List.getElem?_map] at h
    cases e : env[i]? with
    | none => rw [e] at h; cases h
    | some s =>
      rw [e] at h
      have h' : noOwn1 s = some (.own xs) := Option.some.inj h
      cases s with
      | none => cases h'
      | some s => cases s <;> simp [noOwn1] at h'
  refine ⟨B, by unfold noOwn; rw [List.length_map]; exact R.len, fun i ov s e1 e2 => ?_, fun i j q xs ys e1 _ _ _ => absurd e1 (no i xs)⟩
  cases s with
  | none => exact True.intro
  | some s =>
    unfold noOwn at e2
    rw [List.getElem?_map] at e2
    cases e : env[i]? with
    | none => rw [e] at e2; cases e2
    | some s' =>
      rw [e] at e2
      have h' : noOwn1 s' = some s := Option.some.inj e2
      cases s' with
      | none => cases h'
      | some s' =>
        have r := R.sl i ov _ e1 e
        cases s' with
        | own xs => cases h'
        | d x => cases h'; exact ⟨r.choose, r.choose_spec.1, r.choose_spec.2.same k⟩
        | raw v => cases h'; exact r
        | exc p C ds => cases h'; exact ⟨r.1, r.2.same k⟩
        | obj C ds => cases h'; exact ⟨r.choose, r.choose_spec.1, r.choose_spec.2.same k⟩
        | slf x C ds => cases h'
theorem rd_lc2 {wi wi1 : TI} {pi pi1 : PTI} {g g1 : TG} {pg pg1 : PTG} {is is1 : List Nat} {tt tt1 : TT} {te : TE} {pe : PTE} {vs vs1 : List Nat} (ri : RdI c W wi pi) (rg : RdG c g pg is) (hsub : ∀ i ∈ is, i ∈ vs) (rt : RdT c WNo tt pYes) (ri1 : RdI c WNo wi1 pi1) (rg1 : RdG c g1 pg1 is1) (hsub1 : ∀ i ∈ is1, i ∈ vs1) (rt1 : RdT c WNo tt1 pYes)
    (re : Rd c WNo te pe) : Rd c W (tLc2 wi g tt wi1 g1 tt1 te vs vs1) (pLc2 pi pg pi1 pg1 pe vs vs1) := by
  intro H0 F0 env F σ H R E Q J L hp fin
  refine ri _ _ _ _ _ _ _ _ _ J L hp fun I F1 H1 ds J1 k1 wk h1 => ?_
  intro D hD
  have hown := own_ne J1 hD
  have J2 := J1.new hD (.lst [])
  have h0 : Nw H0 D := J1.b.h0 hD
  have fD : F1 D = none := J1.b.fnone hD
  have step : ∀ {H2 F2 G H' : Hp} {acc : List V} {e : Ev} {τ : St} {env2 : Ev} {σ2 : St}, Rel c H0 F0 env2 F2 σ2 H2 → H2 D = some (.lst acc) → F2 D = none → Rel c H2 F2 e G τ H' → H' D = some (.lst acc) ∧ G D = none := fun {H2 F2 G H' acc e τ env2 σ2} J3 hD2 fD2 J' => by
    refine ⟨J'.b.fr D _ (J3.b.noutL hD2) (fun ps z => by cases z) hD2, ?_⟩
    cases e' : G D with
    | none => rfl
    | some o =>
      rcases J'.b.fN D (by rw [e']; simp) with z | z
      · exact absurd fD2 z
      · obtain ⟨ps, z⟩ := z _ hD2; cases z
  refine ⟨fun i m H => i + m = ds.length ∧ ∃ (F' : Hp) (acc : List V) (ad : List PyData), Rel c H0 F0 env F' σ H ∧ Same F1 F' ∧ F' D = none ∧ H D = some (.lst acc) ∧ RqAll F' acc ad ∧ pLcL2 pg pi1 pg1 pe vs1 (wipeE (noOwn env) vs) (ds.drop i) ad fun es => R (.d (.list es)),
    ⟨ds.length, by omega, F1, [], [], J2, same_refl F1, fD, upd_same, .nil, by simpa using h1⟩, ?_⟩
  rintro i m H2 ⟨hm, F2, acc, ad, J3, k2, fD2, hD2, ra, h2⟩
  cases m with
  | zero =>
    have hi : i = ds.length := by omega
    subst hi
    rw [List.drop_length] at h2
    refine .inl ⟨wk.stop _ _ _ _ _ _ J3 k2, ?_⟩
    have k3 : Same F2 (upd F2 D (.lst acc)) := same_upd fD2
    exact fin (.ref D) (.d (.list ad)) _ H2 (J3.freezeAt hD2 fD2 h0 hown) (same_trans k1 (same_trans k2 k3)) (Rq.lst upd_same (ra.same k3)) h2
  | succ m =>
    have hi : i < ds.length := by omega
    have ed : ds.drop i = ds[i] :: ds.drop (i + 1) := List.drop_eq_getElem_cons hi
    rw [ed] at h2
    obtain ⟨go, yl⟩ := wk.go _ _ _ _ _ _ i ds[i] J3 k2 (List.getElem?_eq_getElem hi)
    refine .inr ⟨go, fun H' => ∃ (F' : Hp) (acc : List V) (ad : List PyData), Rel c H0 F0 env F' σ H' ∧ Same F1 F' ∧ F' D = none ∧ H' D = some (.lst acc) ∧ RqAll F' acc ad ∧ pLcL2 pg pi1 pg1 pe vs1 (wipeE (noOwn env) vs) (ds.drop (i + 1)) ad fun es => R (.d (.list es)),
      fun H' ⟨a1, a2, a3, a4⟩ => ⟨m, by omega, by omega, a1, a2, a3, a4⟩, fun x H3 hy => ?_⟩
    have JI := (J3.inner).wipe vs
    obtain ⟨F3, J4, k3, r3⟩ := (wk.go _ _ _ _ _ _ i ds[i] JI k2 (List.getElem?_eq_getElem hi)).2 x H3 hy
    refine rg _ _ _ _ _ _ _ (.d ds[i]) _ _ J4 r3 h2 fun env4 σ4 J5 l4 o4 h4 => ?_
    refine ⟨wipe_eq (by rw [l4, L2.wipe_length]) fun j hj => o4 j fun z => hj (hsub j z), ?_⟩
    refine rt _ _ _ _ _ _ (fun b => b = true) ENo _ J5 link_no rfl fun b F5 H5 J6 k5 hb => ?_
    cases hb
    show wi1 σ4 H5 _
    refine ri1 _ _ _ _ _ _ _ _ _ J6 link_no (show pi1 env4 _ ENo from h4) fun I1 F6 H6 ds1 J7 k6 wk1 h6 => ?_
    obtain ⟨d6, f6⟩ := step J3 hD2 fD2 J7
    have k26 : Same F2 F6 := J7.b.fF
    refine ⟨fun j k H => j + k = ds1.length ∧ ∃ (F' : Hp) (acc : List V) (ad : List PyData), Rel c H0 F0 env F' σ H ∧ Same F1 F' ∧ Same F6 F' ∧ F' D = none ∧ H D = some (.lst acc) ∧ RqAll F' acc ad ∧ pLcL pg1 pYes pe (wipeE (noOwn env4) vs1) (ds1.drop j) ad fun acc' => pLcL2 pg pi1 pg1 pe vs1 (wipeE (noOwn env) vs) (ds.drop (i + 1)) acc' fun es => R (.d (.list es)),
      ⟨ds1.length, by omega, F6, acc, ad, J3.after J7.b, same_trans k2 k26, same_refl F6, f6, d6, ra.same k26, by simpa using h6⟩, ?_⟩
    rintro j k H8 ⟨hk, F8, acc8, ad8, J8, k8, k68, fD8, hD8, ra8, h8⟩
    cases k with
    | zero =>
      have hj : j = ds1.length := by omega
      subst hj
      rw [List.drop_length] at h8
      exact .inl ⟨wk1.stop _ _ _ _ _ _ J8 k68, F8, acc8, ad8, J8, k8, fD8, hD8, ra8, h8⟩
    | succ k =>
      have hj : j < ds1.length := by omega
      rw [show ds1.drop j = ds1[j] :: ds1.drop (j + 1) from List.drop_eq_getElem_cons hj] at h8
      obtain ⟨go1, _⟩ := wk1.go _ _ _ _ _ _ j ds1[j] J8 k68 (List.getElem?_eq_getElem hj)
      refine .inr ⟨go1, fun H' => ∃ (F' : Hp) (acc : List V) (ad : List PyData), Rel c H0 F0 env F' σ H' ∧ Same F1 F' ∧ Same F6 F' ∧ F' D = none ∧ H' D = some (.lst acc) ∧ RqAll F' acc ad ∧ pLcL pg1 pYes pe (wipeE (noOwn env4) vs1) (ds1.drop (j + 1)) ad fun acc' => pLcL2 pg pi1 pg1 pe vs1 (wipeE (noOwn env) vs) (ds.drop (i + 1)) acc' fun es => R (.d (.list es)),
        fun H' ⟨a1, a2, a3, a4⟩ => ⟨k, by omega, by omega, a1, a2, a3, a4⟩, fun x1 H9 hy1 => ?_⟩
      have JJ := (J7.at k68 J8.b.here).wipe vs1
      obtain ⟨F9, J9, k9, r9⟩ := (wk1.go _ _ _ _ _ _ j ds1[j] JJ k68 (List.getElem?_eq_getElem hj)).2 x1 H9 hy1
      refine rg1 _ _ _ _ _ _ _ (.d ds1[j]) _ _ J9 r9 h8 fun env10 σ10 J10 l10 o10 h10 => ?_
      refine ⟨wipe_eq (by rw [l10, L2.wipe_length]) fun j hj => o10 j fun z => hj (hsub1 j z), ?_⟩
      refine rt1 _ _ _ _ _ _ (fun b => b = true) ENo _ J10 link_no rfl fun b F11 H11 J11 k11 hb => ?_
      cases hb
      show te σ10 H11 _
      have h10 := h10.1 rfl
      refine re _ _ _ _ _ _ _ _ _ J11 link_no h10 fun v s F12 H12 J12 k12 r12 h12 => ?_
      have B := J12.b
      have kk : Same F8 F12 := B.fF
      obtain ⟨d12, f12⟩ := step J8 hD8 fD8 J12
      split at h12
      · have J13 := (J8.after B).wrAt (zs := acc8 ++ [v]) d12 f12 h0 hown
        refine ⟨acc8, d12, ?_, F12, acc8 ++ [v], _, J13, same_trans k8 kk, same_trans k68 kk, f12, upd_same, (ra8.same kk).app (.cons r12 .nil), h12.2⟩
        rw [ra8.len]
        exact Nat.lt_of_le_of_lt h12.1 (by decide)
      · exact h12.elim
theorem pu_lc2 {elt tg iter tg1 iter1 : Expr} {scope : Scope} {own : List (Str × Nat)} (vs1 : List Nat) {pos : Pos} {pi pi1 : PTI} {pg pg1 : PTG} {is is1 : List Nat} {pe : PTE} (hc : X.calm = true) (hN : X.N.Nodup) (hi : PuI X c W tg iter pi) (ok : BlkOk X.N X.env.scope scope own) (hg : ∀ i : CI, PuG (i.blk X scope) c tg pg is)
    (hi1 : ∀ i : CI, PuI (i.blk X scope) c WNo tg1 iter1 pi1) (hg1 : ∀ i : CI, PuG (i.blk X scope) c tg1 pg1 is1) (he : ∀ i : CI, PuE (i.blk X scope) c WNo elt pe) (hsub : ∀ i ∈ is, i ∈ own.map (·.2) := by decide) (hsub1 : ∀ i ∈ is1, i ∈ vs1 := by decide) (hv : ∀ i ∈ vs1, i ∈ own.map (·.2) := by decide)
    (hs : ∀ x, foldedSetIterable iter X.env x = pure x := by intro _; rfl) (hs1 : ∀ env x, foldedSetIterable iter1 env x = pure x := by intro _ _; rfl) : PuE X c W (.ListComp elt [⟨tg, iter, [], 0⟩, ⟨tg1, iter1, [], 0⟩] scope pos) (pLc2 pi pg pi1 pg1 pe (own.map (·.2)) vs1) := by
  obtain ⟨wi, hi, ri⟩ := hi
  obtain ⟨g, hg, rg⟩ := unifG hg
  obtain ⟨te, he, re⟩ := unifE he
  obtain ⟨g1, hg1, rg1⟩ := unifG hg1
  obtain ⟨wi1, hi1, ri1⟩ : ∃ w1, (∀ i : CI, PI (i.blk X scope) tg1 iter1 w1) ∧ RdI c WNo w1 pi1 :=
    ⟨fun σ H Q => ∀ i, (hi1 i).choose σ H Q, fun i => ⟨fun pins s σ H Q I q => (hi1 i).choose_spec.1.run pins s σ H Q I (q i)⟩, fun H0 F0 env F σ H R E Q J L hp fin i => (hi1 i).choose_spec.2 H0 F0 env F σ H R E Q J L hp fin⟩
  have yes : ∀ {W : WX}, RdT c W _ pYes := fun H0 F0 env F σ H R E Q J L hp fin => fin true F H J (same_refl F) hp
  exact ⟨_, pe_lc2 hc hN hi ok hv (fun s H C cl fp => hg ⟨s, H, C, cl, fp⟩) (fun _ _ _ _ _ => pts_nil) (fun s H C cl fp => hi1 ⟨s, H, C, cl, fp⟩) (fun s H C cl fp => hg1 ⟨s, H, C, cl, fp⟩) (fun _ _ _ _ _ => pts_nil) (fun s H C cl fp => he ⟨s, H, C, cl, fp⟩) hs hs1,
    rd_lc2 ri rg hsub yes ri1 rg1 hsub1 yes re⟩
end
end Px
namespace Px
open PySem PySem.Spec PyProof.Rows L2 Lx
/-! ### tuple(range(..)) -/
section
variable {X : Cx} {c : Cc} {W : WX}
def pTr (pt : Ev → (Int → Int → Prop) → XP → Prop) : PTE := fun env R E => pt env (fun a b => (-1000 ≤ a ∧ a ≤ 1000 ∧ -1000 ≤ b ∧ b ≤ 1000) ∧ R (.d (.tuple (rgD a b)))) E
theorem pu_tupRg {e : Expr} {p pos : Pos} {pt : Ev → (Int → Int → Prop) → XP → Prop} (hc : X.calm = true) (hm : X.mg "tuple" = none) (he : PuRg X c W e pt) (hg : Gl X "tuple" := by rfl) (na : starEach [e] X.env = (false, eval e X.env) :: starEach [] X.env := by rfl) : PuE X c W (.Call (.Name "tuple" p) [e] [] pos) (pTr pt) := by
  obtain ⟨t, ht, rt⟩ := he
  refine ⟨_, pe_tupRg hc hg hm ht na, fun H0 F0 env F σ H R E Q J L h fin => rt _ _ _ _ _ _ _ _ _ J L h fun a b F1 H1 J1 k1 h1 => ?_⟩
  obtain ⟨⟨b1, b2, b3, b4⟩, h1⟩ := h1
  refine ⟨⟨by omega, by omega, by omega, by omega, by omega⟩, fun q hq => ?_⟩
  have k2 : Same F1 (upd F1 q (.tup (rgV a b))) := same_upd (J1.b.fnone hq)
  exact fin (.ref q) (.d _) _ _ (J1.alloc hq _) (same_trans k1 k2) (Rq.tup upd_same (rel_rg a b)) h1
end
/-! ### steps -/
theorem drop_i {pa : PTE} {rest : PTS} {P : PD} {env : Ev} (h : pa env (fun _ => rest P env) P.ex) : psSeq (psDrop pa) rest P env := h
theorem lcons_i {a : PTE} {as : PTA} {env : Ev} {R : List Sl → Prop} {E : XP} (v : Sl) (h1 : ∀ R : Sl → Prop, R v → a env R E) (h2 : as env (fun xs => R (v :: xs)) E) : pCons a as env R E := h1 _ h2
theorem bools_map {f : PyData → Bool} : ∀ l : List PyData, boolsOf (l.map fun d => .bool (f d)) = some (l.map f)
  | [] => rfl
  | d :: l => by rw [List.map_cons]; unfold boolsOf; rw [bools_map l]; rfl
theorem all_idmap {f : PyData → Bool} (l : List PyData) : (l.map f).all id = l.all f := by rw [List.all_map]; rfl
theorem lc_mapA {g : PTG} {pe : PTE} {envI : Ev} {K : List PyData → Prop} {α : Type} (t f : α → PyData) : ∀ {xs : List α} {acc : List PyData}, acc.length + xs.length ≤ 1000000 → (∀ x ∈ xs, ∀ R : Sl → Prop, R (.d (f x)) → g (.d (t x)) envI fun env1 => pe env1 R ENo) → K (acc ++ xs.map f) → pLcL g pYes pe envI (xs.map t) acc K := by
  intro xs
  induction xs with
  | nil => intro acc _ _ hK; simpa [pLcL] using hK
  | cons x xs ih =>
    intro acc hl hs hK
    have hl' : acc.length + (xs.length + 1) ≤ 1000000 := hl
    rw [List.map_cons]
    unfold pLcL
    have key : ∀ (R : Sl → Prop) (N : Prop), R (.d (f x)) → g (.d (t x)) envI fun env1 => pYes env1 (fun b => (b = true → pe env1 R ENo) ∧ (b = false → N)) ENo := by
      intro R N hR
      have := hs x List.mem_cons_self R hR
      have e : (fun env1 => pYes env1 (fun b => (b = true → pe env1 R ENo) ∧ (b = false → N)) ENo) = fun env1 => pe env1 R ENo := by
        funext env1
        exact propext ⟨fun h => h.1 rfl, fun h => ⟨fun _ => h, fun z => Bool.noConfusion z⟩⟩
      rw [e]; exact this
    refine key _ _ ⟨by omega, ih (acc := acc ++ [f x]) (by rw [List.length_append]; simp only [List.length_cons, List.length_nil]; omega) (fun y hy => hs y (List.mem_cons_of_mem _ hy)) ?_⟩
    rw [List.append_assoc]; exact hK
/-- two fors: what each item of the first gives, laid end to end -/
theorem lc2_flat {g : PTG} {pi1 : PTI} {g1 : PTG} {pe : PTE} {vs1 : List Nat} {envI : Ev} {α β : Type} (t : α → PyData) (u : β → PyData) (f : α → List β) (v : β → PyData) {m : Nat} : ∀ {xs : List α} {K : List PyData → Prop} {acc : List PyData}, acc.length + xs.length * m ≤ 1000000 → (∀ x ∈ xs, (f x).length ≤ m) →
    (∀ x ∈ xs, ∀ (acc : List PyData) (K : List PyData → Prop), acc.length + (f x).length ≤ 1000000 → K (acc ++ (f x).map v) → g (.d (t x)) envI fun env1 => pi1 env1 (fun ds1 => pLcL g1 pYes pe (wipeE (noOwn env1) vs1) ds1 acc K) ENo) →
    K (acc ++ (xs.flatMap f).map v) → pLcL2 g pi1 g1 pe vs1 envI (xs.map t) acc K
  | [], K, acc, _, _, _, hK => by simpa [pLcL2] using hK
  | x :: xs, K, acc, hl, hm, hs, hK => by
    have h1 := hm x List.mem_cons_self
    have hl2 : acc.length + (xs.length * m + m) ≤ 1000000 := by rw [← Nat.succ_mul]; exact hl
    rw [List.map_cons]
    unfold pLcL2
    refine hs x List.mem_cons_self acc _ (by omega) (lc2_flat t u f v (by rw [List.length_append, List.length_map]; omega) (fun y hy => hm y (List.mem_cons_of_mem _ hy)) (fun y hy => hs y (List.mem_cons_of_mem _ hy)) ?_)
    rw [List.append_assoc, ← List.map_append]
    exact hK
end Px
namespace Px
open PySem PySem.Spec PyProof.Rows L2 Lx
/-- an if whose condition may go either way -/
theorem if_any {t : PTT} {a rest : PTS} {P : PD} {env : Ev} (h1 : ∀ R : Bool → Prop, (∀ x, R x) → t env R P.ex) (hT : a { P with nx := rest P } env) (hF : rest P env) : psSeq (psIf t a psNext) rest P env := h1 _ fun x => ⟨fun _ => hT, fun _ => hF⟩
theorem ixN_nat {n : Nat} {r : Int} (h0 : 0 ≤ r) (h1 : r < (n : Int)) : ixN n r = some r.toNat := by
  unfold ixN
  rw [if_pos h0, if_pos h1]
theorem ixN_last {n : Nat} (h : 0 < n) : ixN n (-1) = some (n - 1) := by
  unfold ixN
  rw [if_neg (by decide), if_pos (by omega)]
  congr 1
  omega
theorem erase_perm {α : Type} : ∀ {l : List α} {n : Nat} {y : α}, l[n]? = some y → (y :: l.eraseIdx n).Perm l
  | [], n, y, h => by simp at h
  | a :: l, 0, y, h => by
    simp at h
    subst h
    exact List.Perm.refl _
  | a :: l, n + 1, y, h => by
    have h' : l[n]? = some y := by simpa using h
    rw [List.eraseIdx_cons_succ]
    exact (List.Perm.swap a y _).trans ((erase_perm h').cons a)
end Px
namespace Px
open PySem PySem.Spec PyProof.Rows L2 Lx
/-- a comprehension with an if -/
theorem lc_filt {g : PTG} {pt : PTT} {pe : PTE} {envI : Ev} {K : List PyData → Prop} {α : Type} (t f : α → PyData) (p : α → Bool) : ∀ {xs : List α} {acc : List PyData}, acc.length + xs.length ≤ 1000000 →
    (∀ x ∈ xs, ∀ (N : Ev → Prop), (∀ env1, (∀ R : Bool → Prop, R (p x) → pt env1 R ENo) → (∀ R : Sl → Prop, R (.d (f x)) → pe env1 R ENo) → N env1) → g (.d (t x)) envI N) → K (acc ++ (xs.filter p).map f) → pLcL g pt pe envI (xs.map t) acc K
  | [], acc, _, _, hK => by simpa [pLcL] using hK
  | x :: xs, acc, hl, hs, hK => by
    have hl' : acc.length + (xs.length + 1) ≤ 1000000 := hl
    rw [List.map_cons]
    unfold pLcL
    refine hs x List.mem_cons_self _ fun env1 h1 h2 => h1 _ ?_
    rw [List.filter_cons] at hK
    refine ⟨fun e => h2 _ ⟨by omega, lc_filt t f p (acc := acc ++ [f x]) (by rw [List.length_append]; simp only [List.length_cons, List.length_nil]; omega) (fun y hy => hs y (List.mem_cons_of_mem _ hy)) ?_⟩, fun e => lc_filt t f p (acc := acc) (by omega) (fun y hy => hs y (List.mem_cons_of_mem _ hy)) ?_⟩
    · rw [if_pos e, List.map_cons] at hK
      rw [List.append_assoc]; exact hK
    · rw [if_neg (by rw [e]; decide)] at hK
      exact hK
end Px
namespace K11
open PySem PySem.Spec PyProof.Rows L2 Lx Px
local macro_rules | `(tactic| walk_at "pv") => `(tactic| simp only [psSeq, psSet, psPar, psIf, psRet, psDrop, psCont, psNext, psAsg, psFor, psRaise, pVar, nth, pC, pOp, pUn, oI, oI0, uI, oAdd, oEq, oEqE, eqv_rat0, List.isEmpty_nil, List.isEmpty_cons, oNe, oIs, oNis, oIx, pNil, pCons, allD, pTup, pLst, pDisp0, bOf, ptB, ptAnd, ptOr, ptNot, pIf, pAndV, pOrV, pNotV, pCalln, pB, bInt, bAbs, bGcd, bLen, bList, bTuple, bRepr, bAll, uIsi, uIsi2, pgName, pgNil, pgCons, pgTup, Px.iR1, Px.iR2, Px.iS, Px.iZip, iZipU, pSl, pNo, pSome, pLc, pYes, noOwn, noOwn1, wipeE, pdOf, startP, List.set, List.map, List.append, List.cons_append, List.nil_append, List.length_cons, List.length_nil, List.replicate, Nat.reduceAdd, Nat.reduceSub, List.getElem?_cons_zero, List.getElem?_cons_succ, isNone, isBool, oSub, oMul, oDiv, oMod, oPow, oLt, oLe, oGt, oGe, at_0, at_1, okE_int, okE_bool, okE_none, okE_rat, eqv_int, eqv_ti, isTy_int_int, isTy_int_tup, isTy_tup_tup, isTy_tup_int, isTy_bool_int, true_and, and_true, beq_iff_eq, decide_eq_true_eq, decide_eq_false_iff_not, beq_eq_false_iff_ne, Bool.not_true, Bool.not_false, Bool.not_eq_true', Bool.not_eq_false', Nat.reduceLeDiff, Option.some.injEq, exists_eq_left', exists_eq_left, forall_const, true_imp_iff, Bool.false_eq_true, Bool.true_eq_false, false_imp_iff, reduceCtorEq])
local macro_rules | `(tactic| walk_at "pvs") => `(tactic| simp [isTy, tyN, at_0, at_1, okE_int, okE_bool, okE_none, eqv_int, oLt, oLe, oGt, oGe, oSub, oMul, oDiv, oMod, oI, oI0])

def topS (i : Nat) : Stmt := PySem.Challenge.pw_fracsteps_k11_whole_tables_of_stages.main.body.getD i (.Pass ⟨0, 0, 0, 0⟩)
structure Blt (mg : Str → Option Value) : Prop where
  b_int : mg "int" = none
  b_bool : mg "bool" = none
  b_str : mg "str" = none
  b_list : mg "list" = none
  b_tuple : mg "tuple" = none
  b_len : mg "len" = none
  b_range : mg "range" = none
  b_repr : mg "repr" = none
  b_isinstance : mg "isinstance" = none
  b_abs : mg "abs" = none
  b_all : mg "all" = none
  b_zip : mg "zip" = none
  g_gcd : mg "gcd" = some (.builtin "math.gcd")

abbrev s_is_integer : Stmt := topS 20
theorem sc_is_integer : FnScope ["value"] ["value"] (defScope s_is_integer) := ⟨rfl, rfl, rfl, by decide +kernel, rfl, by decide +kernel, by decide +kernel⟩
abbrev s_is_ratio : Stmt := topS 21
theorem sc_is_ratio : FnScope ["value"] ["value"] (defScope s_is_ratio) := ⟨rfl, rfl, rfl, by decide +kernel, rfl, by decide +kernel, by decide +kernel⟩
abbrev s_pair : Stmt := topS 22
theorem sc_pair : FnScope ["number"] ["number"] (defScope s_pair) := ⟨rfl, rfl, rfl, by decide +kernel, rfl, by decide +kernel, by decide +kernel⟩
abbrev s_in_lowest : Stmt := topS 23
theorem sc_in_lowest : FnScope ["top", "bottom", "by"] ["top", "bottom"] (defScope s_in_lowest) := ⟨rfl, rfl, rfl, by decide +kernel, rfl, by decide +kernel, by decide +kernel⟩
abbrev s_added : Stmt := topS 24
theorem sc_added : FnScope ["one", "other", "top", "bottom", "high", "low"] ["one", "other"] (defScope s_added) := ⟨rfl, rfl, rfl, by decide +kernel, rfl, by decide +kernel, by decide +kernel⟩
abbrev s_opposite : Stmt := topS 25
theorem sc_opposite : FnScope ["number"] ["number"] (defScope s_opposite) := ⟨rfl, rfl, rfl, by decide +kernel, rfl, by decide +kernel, by decide +kernel⟩
abbrev s_multiplied : Stmt := topS 26
theorem sc_multiplied : FnScope ["one", "other", "top", "bottom", "high", "low"] ["one", "other"] (defScope s_multiplied) := ⟨rfl, rfl, rfl, by decide +kernel, rfl, by decide +kernel, by decide +kernel⟩
def spU (C : PyData → Prop) (f : PyData → PyData) : PSp := fun ss R _ => ∃ x, ss = [.d x] ∧ C x ∧ R (.d (f x))
def spIsInt : PSp := fun ss R _ => ∃ x, ss = [.d x] ∧ R (.d (.bool (isIntD x)))
def spIsRat : PSp := fun ss R _ => ∃ x, ss = [.d x] ∧ R (.d (.bool (isRat x)))
def spPair : PSp := fun ss R _ => ∃ q : Rat, ss = [.d (ratD q)] ∧ R (.d (.tuple [.int q.num, .int (q.den : Nat)]))
def spLow : PSp := fun ss R _ => ∃ a b, ss = [.d (.int a), .d (.int b)] ∧ b ≠ 0 ∧ Bn 9000 b ∧ R (.d (ratD (Rat.divInt a b)))
def spR1 (f : Rat → PyData) : PSp := fun ss R _ => ∃ p, ss = [.d (ratD p)] ∧ R (.d (f p))
def spR2 (C : Rat → Rat → Prop) (f : Rat → Rat → PyData) : PSp := fun ss R _ => ∃ p q, ss = [.d (ratD p), .d (ratD q)] ∧ Br 4000 p ∧ Br 4000 q ∧ C p q ∧ R (.d (f p q))
def fAdd (p q : Rat) : PyData := ratD (p + q)
def fMul (p q : Rat) : PyData := ratD (p * q)
def fDiv (p q : Rat) : PyData := ratD (Rat.divInt (p.num * (q.den : Nat)) ((p.den : Nat) * q.num))
def fNeg (q : Rat) : PyData := ratD (-q)
def fSgn (q : Rat) : PyData := .int q.num.sign
def fLt (p q : Rat) : PyData := .bool (decide (p.num * (q.den : Nat) < q.num * (p.den : Nat)))
def C0 (_ _ : Rat) : Prop := True

section
variable {P : Program} {w : World} {K : PySem.W.Frag} {mg : Str → Option Value} {base : Heap} {c : Cc}

theorem d_is_integer (F : Has K mg "is_integer" s_is_integer) (T : Blt mg)  : KpO P w K mg base c 1 "is_integer" ["value"] (spIsInt) := by
  refine keepO F (fun _ _ _ _ _ _ us hl => match us, hl with | [_], _ => rfl) sc_is_integer (fun f cdv A outer s H E hr => ⟨_, (pus_one (pus_ret (pu_and (pu_isi isi_int T.b_isinstance T.b_int (by decide +kernel) (pu_var 0)) (pu_one (pu_not (pu_isi isi_bool T.b_isinstance T.b_bool (by decide +kernel) (pu_var 0))))))), fun ss R EX hl h => ?_⟩)
  obtain ⟨x, rfl, h⟩ := h
  walk_at "pv"
  cases x <;> simp_all [isTy, tyN, isIntD]
theorem d_is_ratio (F : Has K mg "is_ratio" s_is_ratio) (T : Blt mg) (D_is_integer : KpO P w K mg base c 1 "is_integer" ["value"] (spIsInt)) : KpO P w K mg base c 2 "is_ratio" ["value"] (spIsRat) := by
  refine keepO F (fun _ _ _ _ _ _ us hl => match us, hl with | [_], _ => rfl) sc_is_ratio (fun f cdv A outer s H E hr => ⟨_, (pus_cons (pus_if (pt_not' (pt_val' (pu_isi isi_tuple T.b_isinstance T.b_tuple (by decide +kernel) (pu_var 0)))) (pus_one (pus_ret (pu_callO D_is_integer hr takesF (pa_cons' (pu_var 0) pa_nil')))) pus_nil)
    (pus_cons (pus_if (PuW.pt (pw_or' (pt_cmp' (op_neD (hu64 hr)) ro_ne (pu_callB c_len rb_len T.b_len PySem.boot_len (pa_cons' (pu_var 0) pa_nil')) pu_int) (pw_or' (pt_not' (pt_val' (pu_callO D_is_integer hr takesF (pa_cons' (pu_ix (pu_var 0) pu_int) pa_nil')))) (pw_or1' (pt_not' (pt_val' (pu_callO D_is_integer hr takesF (pa_cons' (pu_ix (pu_var 0) pu_int) pa_nil')))))))) (pus_one (pus_ret pu_bl)) pus_nil)
    (pus_one (pus_ret (pu_and (pu_cmp op_gt ro_gt (pu_ix (pu_var 0) pu_int) pu_int) (pu_one (pu_cmp (op_eqD (hu64 hr)) ro_eq (pu_callF cr_gcd rb_gcd T.g_gcd (pa_cons' (pu_ix (pu_var 0) pu_int) (pa_cons' (pu_ix (pu_var 0) pu_int) pa_nil'))) pu_int))))))), fun ss R EX hl h => ?_⟩)
  obtain ⟨x, rfl, h⟩ := h
  cases x with
  | tuple ds =>
    rcases ds with _ | ⟨a, _ | ⟨b, _ | ⟨c, l⟩⟩⟩
    · walk_at "pv"
      simpa [isRat] using h
    · walk_at "pv"
      simpa [isRat] using h
    · walk_at "pv"
      cases a <;> cases b <;> simp [isRat, spIsInt, isIntD, at_0, at_1, oI0, eqv_int, bOf, okE_int] at h ⊢ <;> try exact h
      rename_i i j
      refine ⟨fun z => ?_, fun z => ?_⟩
      · have e2 : (((i.natAbs.gcd j.natAbs : Nat) : Int) == 1) = (i.natAbs.gcd j.natAbs == 1) := by rw [Bool.eq_iff_iff]; simp only [beq_iff_eq]; omega
        rw [e2]
        simpa [z] using h
      · simpa [show ¬ 1 < j by omega] using h
    · walk_at "pv"
      have e : ¬ ((((l.length + 1 + 1 + 1 : Nat) : Int)) = 2) := by omega
      simp [isRat] at h
      have e3 : ¬ ((l.length : Int) + 1 + 1 + 1 = 2) := by omega
      simp [e, e3, h]
  | _ =>
    walk_at "pv"
    simpa [isTy, tyN, isRat, spIsInt, isIntD] using h
theorem d_pair (F : Has K mg "pair" s_pair) (T : Blt mg)  : KpO P w K mg base c 1 "pair" ["number"] (spPair) := by
  refine keepO F (fun _ _ _ _ _ _ us hl => match us, hl with | [_], _ => rfl) sc_pair (fun f cdv A outer s H E hr => ⟨_, (pus_one (pus_ret (pu_if (pt_val' (pu_isi isi_int T.b_isinstance T.b_int (by decide +kernel) (pu_var 0))) (pu_tup (pa_cons' (pu_var 0) (pa_cons' pu_int pa_nil'))) (pu_var 0)))), fun ss R EX hl h => ?_⟩)
  obtain ⟨q, rfl, h⟩ := h
  walk_at "pv"
  rcases ratD_or q with ⟨i, e, e1, e2⟩ | ⟨a, b, e, e1, e2, e3⟩
  · rw [e1, e2] at h
    rw [e]
    simpa [isTy, tyN] using h
  · rw [e1, e2] at h
    rw [e]
    simpa [isTy, tyN] using h
theorem d_in_lowest (F : Has K mg "in_lowest" s_in_lowest) (T : Blt mg)  : KpO P w K mg base c 1 "in_lowest" ["top", "bottom"] (spLow) := by
  refine keepO F (fun _ _ _ _ _ _ us hl => match us, hl with | [_, _], _ => rfl) sc_in_lowest (fun f cdv A outer s H E hr => ⟨_, (pus_cons (pus_set (i := 2) sc_in_lowest.nd (pu_if (pt_cmp' op_gt ro_gt (pu_var 1) pu_int) (pu_callF cr_gcd rb_gcd T.g_gcd (pa_cons' (pu_var 0) (pa_cons' (pu_var 1) pa_nil'))) (pu_neg (pu_callF cr_gcd rb_gcd T.g_gcd (pa_cons' (pu_var 0) (pa_cons' (pu_var 1) pa_nil'))))))
    (pus_one (pus_ret (pu_if (pt_cmp' (op_eqD (hu64 hr)) ro_eq (pu_var 1) (pu_var 2)) (pu_op op_fdivZ ro_div (pu_var 0) (pu_var 2)) (pu_tup (pa_cons' (pu_op op_fdivZ ro_div (pu_var 0) (pu_var 2)) (pa_cons' (pu_op op_fdivZ ro_div (pu_var 1) (pu_var 2)) pa_nil'))))))), fun ss R EX hl h => ?_⟩)
  obtain ⟨a, b, rfl, hb, h9, h⟩ := h
  rw [low_ratD hb] at h
  have c1 := cdiv (a := a) hb h9
  walk_at "pv"
  refine ⟨fun h0 => ?_, fun h0 => ?_⟩
  · have eb : byOf a b = ((Nat.gcd a.natAbs b.natAbs : Nat) : Int) := if_pos h0
    rw [eb] at h c1
    exact ⟨fun z => ⟨c1 _, by rw [if_pos z] at h; exact h⟩, fun z => ⟨c1 _, c1 _, by rw [if_neg z] at h; exact h⟩⟩
  · have eb : byOf a b = -((Nat.gcd a.natAbs b.natAbs : Nat) : Int) := if_neg h0
    rw [eb] at h c1
    exact ⟨fun z => ⟨c1 _, by rw [if_pos z] at h; exact h⟩, fun z => ⟨c1 _, c1 _, by rw [if_neg z] at h; exact h⟩⟩
theorem d_added (F : Has K mg "added" s_added) (T : Blt mg) (D_pair : KpO P w K mg base c 1 "pair" ["number"] (spPair)) (D_in_lowest : KpO P w K mg base c 1 "in_lowest" ["top", "bottom"] (spLow)) : KpO P w K mg base c 2 "added" ["one", "other"] (spR2 C0 fAdd) := by
  refine keepO F (fun _ _ _ _ _ _ us hl => match us, hl with | [_, _], _ => rfl) sc_added (fun f cdv A outer s H E hr => ⟨_, (pus_cons (pus_if (PuW.pt (pw_and' (pt_val' (pu_isi isi_int T.b_isinstance T.b_int (by decide +kernel) (pu_var 0))) (pw_and1' (pt_val' (pu_isi isi_int T.b_isinstance T.b_int (by decide +kernel) (pu_var 1)))))) (pus_one (pus_ret (pu_op op_addU ro_add (pu_var 0) (pu_var 1)))) pus_nil)
    (pus_cons (pus_asg (pu_tup (pa_cons' (pu_callO D_pair hr takesF (pa_cons' (pu_var 0) pa_nil')) (pa_cons' (pu_callO D_pair hr takesF (pa_cons' (pu_var 1) pa_nil')) pa_nil'))) (pug_tup (n := 2) (by rfl) (pugs_cons (pug_tup (n := 2) (by rfl) (pugs_cons (pug_name (i := 2) sc_added.nd) (pugs_cons (pug_name (i := 3) sc_added.nd) pugs_nil))) (pugs_cons (pug_tup (n := 2) (by rfl) (pugs_cons (pug_name (i := 4) sc_added.nd) (pugs_cons (pug_name (i := 5) sc_added.nd) pugs_nil))) pugs_nil))))
    (pus_one (pus_ret (pu_callO D_in_lowest hr takesF (pa_cons' (pu_op op_addU ro_add (pu_op op_mulP ro_mul (pu_var 2) (pu_var 5)) (pu_op op_mulP ro_mul (pu_var 4) (pu_var 3))) (pa_cons' (pu_op op_mulP ro_mul (pu_var 3) (pu_var 5)) pa_nil'))))))), fun ss R EX hl h => ?_⟩)
  obtain ⟨p, q, rfl, hp, hq, _, h⟩ := h
  have hp1 := hp.1
  have hp2 := hp.2
  have hq1 := hq.1
  have hq2 := hq.2
  have dp := den_ne p
  have dq := den_ne q
  walk_at "pv"
  refine ⟨fun z => ⟨fun z' => ?_, fun _ => ?_⟩, fun _ => ?_⟩
  · rcases ratD_or p with ⟨i, e, e1, e2⟩ | ⟨a, b, e, e1, e2, e3⟩
    · rcases ratD_or q with ⟨j, e', e1', e2'⟩ | ⟨a', b', e', e1', e2', e3'⟩
      · rw [e, e']
        have e5 : fAdd p q = .int (i + j) := by
          unfold fAdd
          rw [← divInt_add, e1, e1', e2, e2']
          simp [ratD_int]
        rw [e5] at h
        exact h
      · rw [e'] at z'; cases z'
    · rw [e] at z; cases z
  all_goals
    refine ⟨p, rfl, ?_⟩
    refine ⟨q, rfl, ?_⟩
    walk_at "pv"
    refine ⟨cm hp1 hq2, cm hq1 hp2, cm hp2 hq2, _, _, rfl, Int.mul_ne_zero dp dq, bn_mul hp2 hq2, ?_⟩
    rw [divInt_add]
    exact h
theorem d_multiplied (F : Has K mg "multiplied" s_multiplied) (T : Blt mg) (D_pair : KpO P w K mg base c 1 "pair" ["number"] (spPair)) (D_in_lowest : KpO P w K mg base c 1 "in_lowest" ["top", "bottom"] (spLow)) : KpO P w K mg base c 2 "multiplied" ["one", "other"] (spR2 C0 fMul) := by
  refine keepO F (fun _ _ _ _ _ _ us hl => match us, hl with | [_, _], _ => rfl) sc_multiplied (fun f cdv A outer s H E hr => ⟨_, (pus_cons (pus_if (PuW.pt (pw_and' (pt_val' (pu_isi isi_int T.b_isinstance T.b_int (by decide +kernel) (pu_var 0))) (pw_and1' (pt_val' (pu_isi isi_int T.b_isinstance T.b_int (by decide +kernel) (pu_var 1)))))) (pus_one (pus_ret (pu_op op_mulP ro_mul (pu_var 0) (pu_var 1)))) pus_nil)
    (pus_cons (pus_asg (pu_tup (pa_cons' (pu_callO D_pair hr takesF (pa_cons' (pu_var 0) pa_nil')) (pa_cons' (pu_callO D_pair hr takesF (pa_cons' (pu_var 1) pa_nil')) pa_nil'))) (pug_tup (n := 2) (by rfl) (pugs_cons (pug_tup (n := 2) (by rfl) (pugs_cons (pug_name (i := 2) sc_multiplied.nd) (pugs_cons (pug_name (i := 3) sc_multiplied.nd) pugs_nil))) (pugs_cons (pug_tup (n := 2) (by rfl) (pugs_cons (pug_name (i := 4) sc_multiplied.nd) (pugs_cons (pug_name (i := 5) sc_multiplied.nd) pugs_nil))) pugs_nil))))
    (pus_one (pus_ret (pu_callO D_in_lowest hr takesF (pa_cons' (pu_op op_mulP ro_mul (pu_var 2) (pu_var 4)) (pa_cons' (pu_op op_mulP ro_mul (pu_var 3) (pu_var 5)) pa_nil'))))))), fun ss R EX hl h => ?_⟩)
  obtain ⟨p, q, rfl, hp, hq, _, h⟩ := h
  have hp1 := hp.1
  have hp2 := hp.2
  have hq1 := hq.1
  have hq2 := hq.2
  have dp := den_ne p
  have dq := den_ne q
  walk_at "pv"
  refine ⟨fun z => ⟨fun z' => ?_, fun _ => ?_⟩, fun _ => ?_⟩
  · rcases ratD_or p with ⟨i, e, e1, e2⟩ | ⟨a, b, e, e1, e2, e3⟩
    · rcases ratD_or q with ⟨j, e', e1', e2'⟩ | ⟨a', b', e', e1', e2', e3'⟩
      · rw [e, e']
        have e5 : fMul p q = .int (i * j) := by
          unfold fMul
          rw [← divInt_mul, e1, e1', e2, e2']
          simp [ratD_int]
        rw [e5] at h
        rw [e1] at hp1
        rw [e1'] at hq1
        exact ⟨cm hp1 hq1, h⟩
      · rw [e'] at z'; cases z'
    · rw [e] at z; cases z
  all_goals
    refine ⟨p, rfl, ?_⟩
    refine ⟨q, rfl, ?_⟩
    walk_at "pv"
    refine ⟨cm hp1 hq1, cm hp2 hq2, _, _, rfl, Int.mul_ne_zero dp dq, bn_mul hp2 hq2, ?_⟩
    rw [divInt_mul]
    exact h
theorem d_opposite (F : Has K mg "opposite" s_opposite) (T : Blt mg)  : KpO P w K mg base c 1 "opposite" ["number"] (spR1 fNeg) := by
  refine keepO F (fun _ _ _ _ _ _ us hl => match us, hl with | [_], _ => rfl) sc_opposite (fun f cdv A outer s H E hr => ⟨_, (pus_one (pus_ret (pu_if (pt_val' (pu_isi isi_int T.b_isinstance T.b_int (by decide +kernel) (pu_var 0))) (pu_neg (pu_var 0)) (pu_tup (pa_cons' (pu_neg (pu_ix (pu_var 0) pu_int)) (pa_cons' (pu_ix (pu_var 0) pu_int) pa_nil')))))), fun ss R EX hl h => ?_⟩)
  obtain ⟨q, rfl, h⟩ := h
  walk_at "pv"
  unfold fNeg at h
  rcases ratD_or q with ⟨i, e, e1, e2⟩ | ⟨a, b, e, e1, e2, e3⟩
  · rw [ratD_neg, if_pos e2, e1] at h
    rw [e]
    walk_at "pv"
    exact h
  · rw [ratD_neg, if_neg e3, e1, e2] at h
    rw [e]
    walk_at "pv"
    exact h
end
end K11
namespace K11
open PySem PySem.Spec PyProof.Rows L2 Lx Px
local macro_rules | `(tactic| walk_at "pv") => `(tactic| simp only [psSeq, psSet, psPar, psIf, psRet, psDrop, psCont, psNext, psAsg, psFor, psRaise, pVar, nth, pC, pOp, pUn, oI, oI0, uI, oAdd, oEq, oEqE, eqv_rat0, List.isEmpty_nil, List.isEmpty_cons, oNe, oIs, oNis, oIx, pNil, pCons, allD, pTup, pLst, pDisp0, bOf, ptB, ptAnd, ptOr, ptNot, pIf, pAndV, pOrV, pNotV, pCalln, pB, bInt, bAbs, bGcd, bLen, bList, bTuple, bRepr, bAll, uIsi, uIsi2, pgName, pgNil, pgCons, pgTup, Px.iR1, Px.iR2, Px.iS, Px.iZip, iZipU, pSl, pNo, pSome, pLc, pYes, noOwn, noOwn1, wipeE, pdOf, startP, List.set, List.map, List.append, List.cons_append, List.nil_append, List.length_cons, List.length_nil, List.replicate, Nat.reduceAdd, Nat.reduceSub, List.getElem?_cons_zero, List.getElem?_cons_succ, isNone, isBool, oSub, oMul, oDiv, oMod, oPow, oLt, oLe, oGt, oGe, at_0, at_1, okE_int, okE_bool, okE_none, okE_rat, eqv_int, eqv_ti, isTy_int_int, isTy_int_tup, isTy_tup_tup, isTy_tup_int, isTy_bool_int, true_and, and_true, beq_iff_eq, decide_eq_true_eq, decide_eq_false_iff_not, beq_eq_false_iff_ne, Bool.not_true, Bool.not_false, Bool.not_eq_true', Bool.not_eq_false', Nat.reduceLeDiff, Option.some.injEq, exists_eq_left', exists_eq_left, forall_const, true_imp_iff, Bool.false_eq_true, Bool.true_eq_false, false_imp_iff, reduceCtorEq])
local macro_rules | `(tactic| walk_at "pvs") => `(tactic| simp [isTy, tyN, at_0, at_1, okE_int, okE_bool, okE_none, eqv_int, oLt, oLe, oGt, oGe, oSub, oMul, oDiv, oMod, oI, oI0])

abbrev s_law_divisor : Stmt := topS 57
theorem sc_law_divisor : FnScope ["one", "other"] ["one", "other"] (defScope s_law_divisor) := ⟨rfl, rfl, rfl, by decide +kernel, rfl, by decide +kernel, by decide +kernel⟩
abbrev s_law_low : Stmt := topS 58
theorem sc_law_low : FnScope ["top", "bottom", "by"] ["top", "bottom"] (defScope s_law_low) := ⟨rfl, rfl, rfl, by decide +kernel, rfl, by decide +kernel, by decide +kernel⟩
abbrev s_law_pair : Stmt := topS 59
theorem sc_law_pair : FnScope ["number"] ["number"] (defScope s_law_pair) := ⟨rfl, rfl, rfl, by decide +kernel, rfl, by decide +kernel, by decide +kernel⟩
abbrev s_law_plus : Stmt := topS 60
theorem sc_law_plus : FnScope ["one", "other", "first", "second"] ["one", "other"] (defScope s_law_plus) := ⟨rfl, rfl, rfl, by decide +kernel, rfl, by decide +kernel, by decide +kernel⟩
abbrev s_law_opposite : Stmt := topS 61
theorem sc_law_opposite : FnScope ["number"] ["number"] (defScope s_law_opposite) := ⟨rfl, rfl, rfl, by decide +kernel, rfl, by decide +kernel, by decide +kernel⟩
abbrev s_law_minus : Stmt := topS 62
theorem sc_law_minus : FnScope ["one", "other"] ["one", "other"] (defScope s_law_minus) := ⟨rfl, rfl, rfl, by decide +kernel, rfl, by decide +kernel, by decide +kernel⟩
abbrev s_law_times : Stmt := topS 63
theorem sc_law_times : FnScope ["one", "other", "first", "second"] ["one", "other"] (defScope s_law_times) := ⟨rfl, rfl, rfl, by decide +kernel, rfl, by decide +kernel, by decide +kernel⟩
abbrev s_law_says : Stmt := topS 56
theorem sc_law_says : FnScope ["told", "due"] ["told", "due"] (defScope s_law_says) := ⟨rfl, rfl, rfl, by decide +kernel, rfl, by decide +kernel, by decide +kernel⟩
abbrev s_law_is : Stmt := topS 55
theorem sc_law_is : FnScope ["told", "due", "at"] ["told", "due"] (defScope s_law_is) := ⟨rfl, rfl, rfl, by decide +kernel, rfl, by decide +kernel, by decide +kernel⟩
/-- the fields of BadNumber(what, number) -/
def bn (x : Str) (d : PyData) : FD := [("number", d), ("what", .str x)]
def spNeed (C : Addr) : PSp := fun ss R EX => ∃ x y, ss = [.d x, .d y] ∧ (isRat x = false → EX C (bn "one" x)) ∧ (isRat x = true → isRat y = false → EX C (bn "other" y)) ∧ (isRat x = true → isRat y = true → R (.d .none))
def spChk (C : Addr) (f : Rat → Rat → PyData) : PSp := fun ss R EX => ∃ x y, ss = [.d x, .d y] ∧ (isRat x = false → EX C (bn "one" x)) ∧ (isRat x = true → isRat y = false → EX C (bn "other" y)) ∧ (∀ p q, x = ratD p → y = ratD q → Br 2000 p ∧ Br 2000 q ∧ R (.d (f p q)))
def spOver (C : Addr) : PSp := fun ss R EX => ∃ x y, ss = [.d x, .d y] ∧ (isRat x = false → EX C (bn "one" x)) ∧ (isRat x = true → isRat y = false → EX C (bn "other" y)) ∧ (∀ p, x = ratD p → y = .int 0 → EX C (bn "other" y)) ∧ (∀ p q, x = ratD p → y = ratD q → q.num ≠ 0 → Br 2000 p ∧ Br 2000 q ∧ R (.d (fDiv p q)))
def spSign (C : Addr) : PSp := fun ss R EX => ∃ x, ss = [.d x] ∧ (isRat x = false → EX C (bn "one" x)) ∧ (∀ p, x = ratD p → R (.d (fSgn p)))
def spRatio (C : Addr) : PSp := fun ss R EX => ∃ x y, ss = [.d x, .d y] ∧ (isIntD x = false → EX C (bn "top" x)) ∧ (isIntD x = true → (isIntD y = false ∨ y = .int 0) → EX C (bn "bottom" y)) ∧
  (∀ a b, x = .int a → y = .int b → b ≠ 0 → Bn 9000 b ∧ R (.d (ratD (Rat.divInt a b))))
def fSub (p q : Rat) : PyData := ratD (p + -q)
theorem br_mono {a n : Nat} {q : Rat} (h : Br a q) (hn : a ≤ n := by decide) : Br n q := ⟨bn_mono h.1 hn, bn_mono h.2 hn⟩
theorem br_neg {a : Nat} {q : Rat} (h : Br a q) : Br a (-q) := ⟨bn_neg h.1, h.2⟩

section
variable {P : Program} {w : World} {K : PySem.W.Frag} {mg : Str → Option Value} {base : Heap} {c : Cc}

end
end K11
namespace K11
open PySem PySem.Spec PyProof.Rows L2 Lx Px
local macro_rules | `(tactic| walk_at "pv") => `(tactic| simp only [psSeq, psSet, psPar, psIf, psRet, psDrop, psCont, psNext, psAsg, psFor, psRaise, pVar, nth, pC, pOp, pUn, oI, oI0, uI, oAdd, oEq, oEqE, eqv_rat0, List.isEmpty_nil, List.isEmpty_cons, oNe, oIs, oNis, oIx, pNil, pCons, allD, pTup, pLst, pDisp0, bOf, ptB, ptAnd, ptOr, ptNot, pIf, pAndV, pOrV, pNotV, pCalln, pB, bInt, bAbs, bGcd, bLen, bList, bTuple, bRepr, bAll, uIsi, uIsi2, pgName, pgNil, pgCons, pgTup, Px.iR1, Px.iR2, Px.iS, Px.iZip, iZipU, pSl, pNo, pSome, pLc, pYes, noOwn, noOwn1, wipeE, pdOf, startP, List.set, List.map, List.append, List.cons_append, List.nil_append, List.length_cons, List.length_nil, List.replicate, Nat.reduceAdd, Nat.reduceSub, List.getElem?_cons_zero, List.getElem?_cons_succ, isNone, isBool, oSub, oMul, oDiv, oMod, oPow, oLt, oLe, oGt, oGe, at_0, at_1, okE_int, okE_bool, okE_none, okE_rat, eqv_int, eqv_ti, isTy_int_int, isTy_int_tup, isTy_tup_tup, isTy_tup_int, isTy_bool_int, true_and, and_true, beq_iff_eq, decide_eq_true_eq, decide_eq_false_iff_not, beq_eq_false_iff_ne, Bool.not_true, Bool.not_false, Bool.not_eq_true', Bool.not_eq_false', Nat.reduceLeDiff, Option.some.injEq, exists_eq_left', exists_eq_left, forall_const, true_imp_iff, Bool.false_eq_true, Bool.true_eq_false, false_imp_iff, reduceCtorEq])
local macro_rules | `(tactic| walk_at "pvs") => `(tactic| simp [isTy, tyN, at_0, at_1, okE_int, okE_bool, okE_none, eqv_int, oLt, oLe, oGt, oGe, oSub, oMul, oDiv, oMod, oI, oI0])

def spGcd : PSp := fun ss R _ => ∃ a b, ss = [.d (.int a), .d (.int b)] ∧ R (.d (.int ((Nat.gcd a.natAbs b.natAbs : Nat) : Int)))
def spNever : PSp := fun _ _ _ => False
def spList : PSp := fun ss R _ => ∃ x, ss = [.d x] ∧ R (.d (.bool (isTy "list" x || isTy "tuple" x)))
def spIsI : PSp := fun ss R _ => ∃ i : Int, ss = [.d (.int i), .d (.int i)] ∧ R (.d (.bool true))
def spIsR : PSp := fun ss R _ => ∃ q : Rat, ss = [.d (ratD q), .d (ratD q)] ∧ R (.d (.bool true))
def spSays : PSp := fun ss R _ => ∃ b : Bool, ss = [.d (.bool b), .d (.bool b)] ∧ R (.d (.bool true))
theorem fmod_nat (x m : Nat) : ((x : Nat) : Int).fmod (m : Nat) = ((x % m : Nat) : Int) := by
  rw [Int.fmod_eq_emod_of_nonneg _ (by omega)]
  omega

section
variable {P : Program} {w : World} {K : PySem.W.Frag} {mg : Str → Option Value} {base : Heap} {c : Cc}

theorem kp_never {x : Str} {st : Stmt} {ps : List Str} (F : Has K mg x st) (b : BindsBy x st ps) : Kp P w K mg base c 0 x ps spNever := by
  obtain ⟨f, fd, F, hm⟩ := F
  refine ⟨f, fd, ⟨fun vs H Q E h => ?_, fun A outer s H args us vs Q E _ _ _ _ _ h => ?_⟩, hm, F.kp, F.binds b⟩
  · obtain ⟨_, _, _, _, _, _, _, z, _⟩ := h
    exact z.elim
  · obtain ⟨_, _, _, _, _, _, _, z, _⟩ := h
    exact z.elim
theorem d_law_divisor (F : Has K mg "_law_divisor" s_law_divisor) (T : Blt mg)  : Kp P w K mg base c 1 "_law_divisor" ["one", "other"] (spGcd) := by
  refine keepP F (fun _ _ _ _ _ _ us hl => match us, hl with | [_, _], _ => rfl) sc_law_divisor (fun f cdv A outer s H E hr hg => ⟨_, (pus_cons (pus_par (i := 0) (j := 1) rfl sc_law_divisor.nd (pa_cons' (pu_callB c_abs rb_abs T.b_abs (by decide +kernel) (pa_cons' (pu_var 0) pa_nil')) (pa_cons' (pu_callB c_abs rb_abs T.b_abs (by decide +kernel) (pa_cons' (pu_var 1) pa_nil')) pa_nil')))
    (pus_cons (pus_while passF (pt_cmp' (op_neD (hu64 hr)) ro_ne (pu_var 1) pu_int) (pus_one (pus_par (i := 0) (j := 1) rfl sc_law_divisor.nd (pa_cons' (pu_var 1) (pa_cons' (pu_op op_modN ro_mod (pu_callTy c_int rb_int T.b_int (by decide +kernel) (pa_cons' (pu_var 0) pa_nil')) (pu_var 1)) pa_nil')))))
    (pus_one (pus_ret (pu_var 0))))), fun ss R EX hl h => ?_⟩)
  obtain ⟨a, b, rfl, h⟩ := h
  walk_at "pv"
  refine ⟨fun m env => ∃ x y : Nat, env = [some (.d (.int x)), some (.d (.int y))] ∧ Nat.gcd x y = Nat.gcd a.natAbs b.natAbs ∧ m = y, ⟨_, a.natAbs, b.natAbs, rfl, rfl, rfl⟩, ?_⟩
  rintro m env ⟨x, y, rfl, hg, rfl⟩
  walk_at "pv"
  refine ⟨fun z => ⟨z, x % m, Nat.mod_lt x (by omega), m, x % m, by rw [fmod_nat], ?_, rfl⟩, fun z => ?_⟩
  · rw [← hg, Nat.gcd_comm x m, Nat.gcd_rec m x, Nat.gcd_comm]
  · rw [← hg, show m = 0 by omega, Nat.gcd_zero_right] at h
    exact h
theorem d_law_low (F : Has K mg "_law_low" s_law_low) (T : Blt mg) (D_law_divisor : Kp P w K mg base c 1 "_law_divisor" ["one", "other"] (spGcd)) : Kp P w K mg base c 2 "_law_low" ["top", "bottom"] (spLow) := by
  refine keepP F (fun _ _ _ _ _ _ us hl => match us, hl with | [_, _], _ => rfl) sc_law_low (fun f cdv A outer s H E hr hg => ⟨_, (pus_cons (pus_set (i := 2) sc_law_low.nd (pu_call D_law_divisor hr hg takesF (pa_cons' (pu_var 0) (pa_cons' (pu_var 1) pa_nil'))))
    (pus_cons (pus_if (pt_cmp' op_lt ro_lt (pu_var 1) pu_int) (pus_one (pus_set (i := 2) sc_law_low.nd (pu_neg (pu_var 2)))) pus_nil)
    (pus_one (pus_ret (pu_if (pt_cmp' (op_eqD (hu64 hr)) ro_eq (pu_var 1) (pu_var 2)) (pu_op op_fdivZ ro_div (pu_var 0) (pu_var 2)) (pu_tup (pa_cons' (pu_op op_fdivZ ro_div (pu_var 0) (pu_var 2)) (pa_cons' (pu_op op_fdivZ ro_div (pu_var 1) (pu_var 2)) pa_nil')))))))), fun ss R EX hl h => ?_⟩)
  obtain ⟨a, b, rfl, hb, h9, h⟩ := h
  rw [low_ratD hb] at h
  have c1 := cdiv (a := a) hb h9
  walk_at "pv"
  refine ⟨a, b, rfl, ?_⟩
  walk_at "pv"
  refine ⟨fun h0 => ?_, fun h0 => ?_⟩
  · have eb : byOf a b = -((Nat.gcd a.natAbs b.natAbs : Nat) : Int) := if_neg (by omega)
    rw [eb] at h c1
    exact ⟨fun z => ⟨c1 _, by rw [if_pos z] at h; exact h⟩, fun z => ⟨c1 _, c1 _, by rw [if_neg z] at h; exact h⟩⟩
  · have eb : byOf a b = ((Nat.gcd a.natAbs b.natAbs : Nat) : Int) := if_pos (by omega)
    rw [eb] at h c1
    exact ⟨fun z => ⟨c1 _, by rw [if_pos z] at h; exact h⟩, fun z => ⟨c1 _, c1 _, by rw [if_neg z] at h; exact h⟩⟩
theorem d_law_pair (F : Has K mg "_law_pair" s_law_pair) (T : Blt mg)  : Kp P w K mg base c 1 "_law_pair" ["number"] (spPair) := by
  refine keepP F (fun _ _ _ _ _ _ us hl => match us, hl with | [_], _ => rfl) sc_law_pair (fun f cdv A outer s H E hr hg => ⟨_, (pus_one (pus_ret (pu_if (pt_val' (pu_isi isi_int T.b_isinstance T.b_int (by decide +kernel) (pu_var 0))) (pu_tup (pa_cons' (pu_var 0) (pa_cons' pu_int pa_nil'))) (pu_var 0)))), fun ss R EX hl h => ?_⟩)
  obtain ⟨q, rfl, h⟩ := h
  walk_at "pv"
  rcases ratD_or q with ⟨i, e, e1, e2⟩ | ⟨a, b, e, e1, e2, e3⟩
  · rw [e1, e2] at h
    rw [e]
    simpa [isTy, tyN] using h
  · rw [e1, e2] at h
    rw [e]
    simpa [isTy, tyN] using h
theorem d_law_plus (F : Has K mg "_law_plus" s_law_plus) (T : Blt mg) (D_law_pair : Kp P w K mg base c 1 "_law_pair" ["number"] (spPair)) (D_law_low : Kp P w K mg base c 2 "_law_low" ["top", "bottom"] (spLow)) : Kp P w K mg base c 3 "_law_plus" ["one", "other"] (spR2 C0 fAdd) := by
  refine keepP F (fun _ _ _ _ _ _ us hl => match us, hl with | [_, _], _ => rfl) sc_law_plus (fun f cdv A outer s H E hr hg => ⟨_, (pus_cons (pus_par (i := 2) (j := 3) rfl sc_law_plus.nd (pa_cons' (pu_call D_law_pair hr hg takesF (pa_cons' (pu_var 0) pa_nil')) (pa_cons' (pu_call D_law_pair hr hg takesF (pa_cons' (pu_var 1) pa_nil')) pa_nil')))
    (pus_one (pus_ret (pu_call D_law_low hr hg takesF (pa_cons' (pu_op op_addU ro_add (pu_op op_mulP ro_mul (pu_ix (pu_var 2) pu_int) (pu_ix (pu_var 3) pu_int)) (pu_op op_mulP ro_mul (pu_ix (pu_var 3) pu_int) (pu_ix (pu_var 2) pu_int))) (pa_cons' (pu_op op_mulP ro_mul (pu_ix (pu_var 2) pu_int) (pu_ix (pu_var 3) pu_int)) pa_nil')))))), fun ss R EX hl h => ?_⟩)
  obtain ⟨p, q, rfl, hp, hq, hc, h⟩ := h
  have hp1 := hp.1
  have hp2 := hp.2
  have hq1 := hq.1
  have hq2 := hq.2
  have dp := den_ne p
  have dq := den_ne q
  walk_at "pv"
  refine ⟨p, rfl, ?_⟩
  refine ⟨q, rfl, ?_⟩
  walk_at "pv"
  refine ⟨cm hp1 hq2, cm hq1 hp2, cm hp2 hq2, _, _, rfl, Int.mul_ne_zero dp dq, bn_mul hp2 hq2, ?_⟩
  rw [divInt_add]
  exact h
theorem d_law_times (F : Has K mg "_law_times" s_law_times) (T : Blt mg) (D_law_pair : Kp P w K mg base c 1 "_law_pair" ["number"] (spPair)) (D_law_low : Kp P w K mg base c 2 "_law_low" ["top", "bottom"] (spLow)) : Kp P w K mg base c 3 "_law_times" ["one", "other"] (spR2 C0 fMul) := by
  refine keepP F (fun _ _ _ _ _ _ us hl => match us, hl with | [_, _], _ => rfl) sc_law_times (fun f cdv A outer s H E hr hg => ⟨_, (pus_cons (pus_par (i := 2) (j := 3) rfl sc_law_times.nd (pa_cons' (pu_call D_law_pair hr hg takesF (pa_cons' (pu_var 0) pa_nil')) (pa_cons' (pu_call D_law_pair hr hg takesF (pa_cons' (pu_var 1) pa_nil')) pa_nil')))
    (pus_one (pus_ret (pu_call D_law_low hr hg takesF (pa_cons' (pu_op op_mulP ro_mul (pu_ix (pu_var 2) pu_int) (pu_ix (pu_var 3) pu_int)) (pa_cons' (pu_op op_mulP ro_mul (pu_ix (pu_var 2) pu_int) (pu_ix (pu_var 3) pu_int)) pa_nil')))))), fun ss R EX hl h => ?_⟩)
  obtain ⟨p, q, rfl, hp, hq, hc, h⟩ := h
  have hp1 := hp.1
  have hp2 := hp.2
  have hq1 := hq.1
  have hq2 := hq.2
  have dp := den_ne p
  have dq := den_ne q
  walk_at "pv"
  refine ⟨p, rfl, ?_⟩
  refine ⟨q, rfl, ?_⟩
  walk_at "pv"
  refine ⟨cm hp1 hq1, cm hp2 hq2, _, _, rfl, Int.mul_ne_zero dp dq, bn_mul hp2 hq2, ?_⟩
  rw [divInt_mul]
  exact h
theorem d_law_opposite (F : Has K mg "_law_opposite" s_law_opposite) (T : Blt mg)  : Kp P w K mg base c 1 "_law_opposite" ["number"] (spR1 fNeg) := by
  refine keepP F (fun _ _ _ _ _ _ us hl => match us, hl with | [_], _ => rfl) sc_law_opposite (fun f cdv A outer s H E hr hg => ⟨_, (pus_one (pus_ret (pu_if (pt_val' (pu_isi isi_int T.b_isinstance T.b_int (by decide +kernel) (pu_var 0))) (pu_neg (pu_var 0)) (pu_tup (pa_cons' (pu_neg (pu_ix (pu_var 0) pu_int)) (pa_cons' (pu_ix (pu_var 0) pu_int) pa_nil')))))), fun ss R EX hl h => ?_⟩)
  obtain ⟨q, rfl, h⟩ := h
  walk_at "pv"
  unfold fNeg at h
  rcases ratD_or q with ⟨i, e, e1, e2⟩ | ⟨a, b, e, e1, e2, e3⟩
  · rw [ratD_neg, if_pos e2, e1] at h
    rw [e]
    walk_at "pv"
    exact h
  · rw [ratD_neg, if_neg e3, e1, e2] at h
    rw [e]
    walk_at "pv"
    exact h
theorem d_law_minus (F : Has K mg "_law_minus" s_law_minus) (T : Blt mg) (D_law_plus : Kp P w K mg base c 3 "_law_plus" ["one", "other"] (spR2 C0 fAdd)) (D_law_opposite : Kp P w K mg base c 1 "_law_opposite" ["number"] (spR1 fNeg)) : Kp P w K mg base c 4 "_law_minus" ["one", "other"] (spR2 C0 fSub) := by
  refine keepP F (fun _ _ _ _ _ _ us hl => match us, hl with | [_, _], _ => rfl) sc_law_minus (fun f cdv A outer s H E hr hg => ⟨_, (pus_one (pus_ret (pu_call D_law_plus hr hg takesF (pa_cons' (pu_var 0) (pa_cons' (pu_call D_law_opposite hr hg takesF (pa_cons' (pu_var 1) pa_nil')) pa_nil'))))), fun ss R EX hl h => ?_⟩)
  obtain ⟨p, q, rfl, hp, hq, hc, h⟩ := h
  walk_at "pv"
  refine ⟨q, rfl, ?_⟩
  walk_at "pv"
  exact ⟨p, -q, rfl, hp, br_neg hq, True.intro, h⟩
theorem d_law_says (F : Has K mg "_law_says" s_law_says) (T : Blt mg)  : Kp P w K mg base c 1 "_law_says" ["told", "due"] (spSays) := by
  refine keepP F (fun _ _ _ _ _ _ us hl => match us, hl with | [_, _], _ => rfl) sc_law_says (fun f cdv A outer s H E hr hg => ⟨_, (pus_one (pus_ret (pu_if (pt_val' (pu_var 1)) (pu_cmp op_isC ro_is (pu_var 0) pu_bl) (pu_cmp op_isC ro_is (pu_var 0) pu_bl)))), fun ss R EX hl h => ?_⟩)
  obtain ⟨b, rfl, h⟩ := h
  walk_at "pv"
  cases b <;> simpa [isBool] using h
theorem d_law_is0 (F : Has K mg "_law_is" s_law_is) (T : Blt mg) (D_law_is : Kp P w K mg base c 0 "_law_is" ["told", "due"] (spNever))  : Kp P w K mg base c 1 "_law_is" ["told", "due"] (spIsI) := by
  refine keepP F (fun _ _ _ _ _ _ us hl => match us, hl with | [_, _], _ => rfl) sc_law_is (fun f cdv A outer s H E hr hg => ⟨_, (pus_cons (pus_if (pt_val' (pu_isi isi_tuple T.b_isinstance T.b_tuple (by decide +kernel) (pu_var 1))) (pus_cons (pus_if (PuW.pt (pw_or' (pt_not' (pt_val' (pu_isi isi_tuple T.b_isinstance T.b_tuple (by decide +kernel) (pu_var 0)))) (pw_or1' (pt_cmp' (op_neD (hu64 hr)) ro_ne (pu_callB c_len rb_len T.b_len PySem.boot_len (pa_cons' (pu_var 0) pa_nil')) (pu_callB c_len rb_len T.b_len PySem.boot_len (pa_cons' (pu_var 1) pa_nil')))))) (pus_one (pus_ret pu_bl)) pus_nil)
    (pus_one (pus_ret (pu_cmp (op_eqE (hu64 hr)) ro_eqE (pu_lcI (own := [("at", 2)]) rfl sc_law_is.nd (pui_range1 T.b_range (pa_cons' (pu_callB c_len rb_len T.b_len PySem.boot_len (pa_cons' (pu_var 1) pa_nil')) pa_nil')) (blkOk_by (by show blkC ["told", "due", "at"] (defScope s_law_is) _ _ = true; decide +kernel)) (fun ci => (pug_name (i := 2) sc_law_is.nd)) (fun ci => (pt_not' (pt_val' (pu_call D_law_is hr hg takes0 (pa_cons' (pu_ix (pu_var 0) (pu_var 2)) (pa_cons' (pu_ix (pu_var 1) (pu_var 2)) pa_nil')))))) (fun ci => (pu_var 2))) (pu_lstK pa_nilK))))) pus_nil)
    (pus_cons (pus_if (pt_cmp' op_isC ro_is (pu_var 1) pu_non) (pus_one (pus_ret (pu_cmp op_isC ro_is (pu_var 0) pu_non))) pus_nil)
    (pus_cons (pus_if (pt_cmp' op_isC ro_is (pu_var 1) pu_bl) (pus_one (pus_ret (pu_cmp op_isC ro_is (pu_var 0) pu_bl))) pus_nil)
    (pus_cons (pus_if (pt_cmp' op_isC ro_is (pu_var 1) pu_bl) (pus_one (pus_ret (pu_cmp op_isC ro_is (pu_var 0) pu_bl))) pus_nil)
    (pus_cons (pus_if (pt_val' (pu_isi isi_str T.b_isinstance T.b_str (by decide +kernel) (pu_var 1))) (pus_one (pus_ret (pu_and (pu_isi isi_str T.b_isinstance T.b_str (by decide +kernel) (pu_var 0)) (pu_one (pu_cmp (op_eqD (hu64 hr)) ro_eq (pu_var 0) (pu_var 1)))))) pus_nil)
    (pus_one (pus_ret (pu_and (pu_isi isi_int T.b_isinstance T.b_int (by decide +kernel) (pu_var 0)) (pu_and (pu_not (pu_isi isi_bool T.b_isinstance T.b_bool (by decide +kernel) (pu_var 0))) (pu_one (pu_cmp (op_eqD (hu64 hr)) ro_eq (pu_var 0) (pu_var 1)))))))))))), fun ss R EX hl h => ?_⟩)
  obtain ⟨i, rfl, h⟩ := h
  walk_at "pv"
  simpa [isTy, tyN, okE_int, eqv_int] using h
theorem d_law_is (F : Has K mg "_law_is" s_law_is) (T : Blt mg) (D_law_is : Kp P w K mg base c 1 "_law_is" ["told", "due"] (spIsI))  : Kp P w K mg base c 2 "_law_is" ["told", "due"] (spIsR) := by
  refine keepP F (fun _ _ _ _ _ _ us hl => match us, hl with | [_, _], _ => rfl) sc_law_is (fun f cdv A outer s H E hr hg => ⟨_, (pus_cons (pus_if (pt_val' (pu_isi isi_tuple T.b_isinstance T.b_tuple (by decide +kernel) (pu_var 1))) (pus_cons (pus_if (PuW.pt (pw_or' (pt_not' (pt_val' (pu_isi isi_tuple T.b_isinstance T.b_tuple (by decide +kernel) (pu_var 0)))) (pw_or1' (pt_cmp' (op_neD (hu64 hr)) ro_ne (pu_callB c_len rb_len T.b_len PySem.boot_len (pa_cons' (pu_var 0) pa_nil')) (pu_callB c_len rb_len T.b_len PySem.boot_len (pa_cons' (pu_var 1) pa_nil')))))) (pus_one (pus_ret pu_bl)) pus_nil)
    (pus_one (pus_ret (pu_cmp (op_eqE (hu64 hr)) ro_eqE (pu_lcI (own := [("at", 2)]) rfl sc_law_is.nd (pui_range1 T.b_range (pa_cons' (pu_callB c_len rb_len T.b_len PySem.boot_len (pa_cons' (pu_var 1) pa_nil')) pa_nil')) (blkOk_by (by show blkC ["told", "due", "at"] (defScope s_law_is) _ _ = true; decide +kernel)) (fun ci => (pug_name (i := 2) sc_law_is.nd)) (fun ci => (pt_not' (pt_val' (pu_call D_law_is hr hg takes0 (pa_cons' (pu_ix (pu_var 0) (pu_var 2)) (pa_cons' (pu_ix (pu_var 1) (pu_var 2)) pa_nil')))))) (fun ci => (pu_var 2))) (pu_lstK pa_nilK))))) pus_nil)
    (pus_cons (pus_if (pt_cmp' op_isC ro_is (pu_var 1) pu_non) (pus_one (pus_ret (pu_cmp op_isC ro_is (pu_var 0) pu_non))) pus_nil)
    (pus_cons (pus_if (pt_cmp' op_isC ro_is (pu_var 1) pu_bl) (pus_one (pus_ret (pu_cmp op_isC ro_is (pu_var 0) pu_bl))) pus_nil)
    (pus_cons (pus_if (pt_cmp' op_isC ro_is (pu_var 1) pu_bl) (pus_one (pus_ret (pu_cmp op_isC ro_is (pu_var 0) pu_bl))) pus_nil)
    (pus_cons (pus_if (pt_val' (pu_isi isi_str T.b_isinstance T.b_str (by decide +kernel) (pu_var 1))) (pus_one (pus_ret (pu_and (pu_isi isi_str T.b_isinstance T.b_str (by decide +kernel) (pu_var 0)) (pu_one (pu_cmp (op_eqD (hu64 hr)) ro_eq (pu_var 0) (pu_var 1)))))) pus_nil)
    (pus_one (pus_ret (pu_and (pu_isi isi_int T.b_isinstance T.b_int (by decide +kernel) (pu_var 0)) (pu_and (pu_not (pu_isi isi_bool T.b_isinstance T.b_bool (by decide +kernel) (pu_var 0))) (pu_one (pu_cmp (op_eqD (hu64 hr)) ro_eq (pu_var 0) (pu_var 1)))))))))))), fun ss R EX hl h => ?_⟩)
  obtain ⟨q, rfl, h⟩ := h
  rcases ratD_or q with ⟨i, e, e1, e2⟩ | ⟨a, b, e, e1, e2, e3⟩
  · rw [e]
    walk_at "pv"
    simpa [isTy, tyN, okE_int, eqv_int] using h
  · rw [e]
    walk_at "pv"
    have e4 : rangeD 0 (((([PyData.int a, PyData.int b] : List PyData).length : Nat) : Int)).toNat = [.int 0, .int 1] := rfl
    simp [pLcL, rangeD, List.range, List.range.loop]
    walk_at "pv"
    refine ⟨a, rfl, ?_⟩
    walk_at "pv"
    refine ⟨b, rfl, ?_⟩
    walk_at "pv"
    exact h
end
end K11
namespace K11
open PySem PySem.Spec PyProof.Rows L2 Lx Px
local macro_rules | `(tactic| walk_at "pv") => `(tactic| simp only [psSeq, psSet, psPar, psIf, psRet, psDrop, psCont, psNext, psAsg, psFor, psRaise, pVar, nth, pC, pOp, pUn, oI, oI0, uI, oAdd, oEq, oEqE, eqv_rat0, List.isEmpty_nil, List.isEmpty_cons, oNe, oIs, oNis, oIx, pNil, pCons, allD, pTup, pLst, pDisp0, bOf, ptB, ptAnd, ptOr, ptNot, pIf, pAndV, pOrV, pNotV, pCalln, pB, bInt, bAbs, bGcd, bLen, bList, bTuple, bRepr, bAll, uIsi, uIsi2, pgName, pgNil, pgCons, pgTup, Px.iR1, Px.iR2, Px.iS, Px.iZip, iZipU, pSl, pNo, pSome, pLc, pYes, noOwn, noOwn1, wipeE, pdOf, startP, List.set, List.map, List.append, List.cons_append, List.nil_append, List.length_cons, List.length_nil, List.replicate, Nat.reduceAdd, Nat.reduceSub, List.getElem?_cons_zero, List.getElem?_cons_succ, isNone, isBool, oSub, oMul, oDiv, oMod, oPow, oLt, oLe, oGt, oGe, at_0, at_1, okE_int, okE_bool, okE_none, okE_rat, eqv_int, eqv_ti, isTy_int_int, isTy_int_tup, isTy_tup_tup, isTy_tup_int, isTy_bool_int, true_and, and_true, beq_iff_eq, decide_eq_true_eq, decide_eq_false_iff_not, beq_eq_false_iff_ne, Bool.not_true, Bool.not_false, Bool.not_eq_true', Bool.not_eq_false', Nat.reduceLeDiff, Option.some.injEq, exists_eq_left', exists_eq_left, forall_const, true_imp_iff, Bool.false_eq_true, Bool.true_eq_false, false_imp_iff, reduceCtorEq])
local macro_rules | `(tactic| walk_at "pvs") => `(tactic| simp [isTy, tyN, at_0, at_1, okE_int, okE_bool, okE_none, eqv_int, oLt, oLe, oGt, oGe, oSub, oMul, oDiv, oMod, oI, oI0])
local macro_rules | `(tactic| walk_at "rd") => `(tactic| (with_reducible first
  | refine rr_seq ?_ | refine rr_asg ?_ | refine rr_n0 ?_ | refine rr_n1 ?_ | refine rr_n2 ?_ | refine rr_n3 ?_ | refine rr_n4 ?_ | refine rr_n5 ?_ | refine rr_n6 ?_ | refine rr_n7 ?_ | refine rr_n8 ?_ | refine rr_n9 ?_ | refine rr_n10 ?_ | refine rr_n11 ?_ | refine rr_n12 ?_ | refine rr_n13 ?_ | refine rr_drop ?_ | refine rr_ret ?_ | refine rr_ifs ?_ | refine rr_if ?_ | refine rr_test ?_ | refine rr_tB ?_ | refine rr_bl ?_
  | refine rr_and ?_ | refine rr_or ?_ | refine rr_not ?_ | refine rr_v0 ?_ | refine rr_v1 ?_ | refine rr_v2 ?_ | refine rr_v3 ?_ | refine rr_v4 ?_ | refine rr_v5 ?_ | refine rr_v6 ?_ | refine rr_v7 ?_ | refine rr_v8 ?_ | refine rr_v9 ?_ | refine rr_v10 ?_ | refine rr_v11 ?_ | refine rr_v12 ?_ | refine rr_v13 ?_ | refine rr_c ?_ | refine rr_op ?_ | refine rr_un ?_ | refine rr_i0 ?_ | refine rr_eqi ?_ | refine rr_nei ?_
  | refine rr_cons ?_ | refine rr_nil ?_ | refine rr_cb ?_ | refine rr_call ?_ | refine rr_tup ?_ | refine rr_lst ?_ | refine rr_lstN ?_ | refine rr_dget ?_ | refine rr_dput ?_ | refine rr_next ?_ | refine rr_int ?_ | refine rr_disp ?_ | refine rr_pcons ?_ | refine rr_pnil ?_ | refine rr_isN ?_ | refine rr_notN ?_ | refine rr_callR ?_ | refine rr_bm ?_ | refine rr_fldP ?_ | refine rr_rf ?_))
local macro_rules | `(tactic| walk_at "rds") => `(tactic| repeat walk_at "rd")

abbrev s_law_draw : Stmt := topS 52
theorem sc_law_draw : FnScope ["pen", "many", "blend", "cell", "digit"] ["pen", "many"] (defScope s_law_draw) := ⟨rfl, rfl, rfl, by decide +kernel, rfl, by decide +kernel, by decide +kernel⟩
abbrev s_law_pick : Stmt := topS 53
theorem sc_law_pick : FnScope ["pen", "some"] ["pen", "some"] (defScope s_law_pick) := ⟨rfl, rfl, rfl, by decide +kernel, rfl, by decide +kernel, by decide +kernel⟩
abbrev s_law_number : Stmt := topS 64
theorem sc_law_number : FnScope ["pen", "size"] ["pen", "size"] (defScope s_law_number) := ⟨rfl, rfl, rfl, by decide +kernel, rfl, by decide +kernel, by decide +kernel⟩
abbrev s_law_wide : Stmt := topS 65
theorem sc_law_wide : FnScope ["pen", "figures", "lap", "found", "top"] ["pen", "figures"] (defScope s_law_wide) := ⟨rfl, rfl, rfl, by decide +kernel, rfl, by decide +kernel, by decide +kernel⟩
abbrev s_law_size : Stmt := topS 66
theorem sc_law_size : FnScope ["pen"] ["pen"] (defScope s_law_size) := ⟨rfl, rfl, rfl, by decide +kernel, rfl, by decide +kernel, by decide +kernel⟩
theorem item_at {ns : List Int} {a : Int} (h0 : 0 ≤ a) (h : a < (ns.length : Int)) : ∃ x : Int, atI (ns.map V.int) a = some (.int x) := by
  have hk : a.toNat < ns.length := by omega
  have q : atI (ns.map V.int) ((a.toNat : Nat) : Int) = some (.int ns[a.toNat]) := atI_nat (by rw [List.getElem?_map, List.getElem?_eq_getElem hk] <;> rfl)
  rw [show ((a.toNat : Nat) : Int) = a by omega] at q
  exact ⟨_, q⟩

section
variable {P : Program} {w : World} {K : PySem.W.Frag} {mg : Str → Option Value} {base : Heap} {c : Cc}

theorem d_draw (F : Has K mg "_law_draw" s_law_draw) (T : Blt mg) : Keeps P w K mg base CX0 1 "_law_draw" ["pen", "many"] spDrawX := by
  refine keep0 F (fun _ _ _ _ _ _ us hl => match us, hl with | [_, _], _ => rfl) sc_law_draw (fun vs H Q E h => ?_) (fun f cdv A outer s H vs Q E hr hg h => ?_)
  · obtain ⟨p, m, l, ns, a, d, k, f, rfl, _⟩ := h
    rfl
  have hu := hu_of hr
  refine ⟨_, (pss_cons (ps_dput hu (pv 0) pe_str (pe_op op_add (pe_dget hu (pv 0) pe_str (fun _ _ => rfl)) pe_int) rfl)
    (pss_cons (ps_if (PW.pt (pw_and (pt_cmpR op_eq (pe_dget hu (pv 0) pe_str (fun _ _ => rfl)) pe_int (nomark _)) (pw_and1 (pt_cmpR op_lt (pe_dget hu (pv 0) pe_str (fun _ _ => rfl)) (pe_callB c_len (by rfl) T.b_len PySem.boot_len (pa_cons (pe_dget hu (pv 0) pe_str (fun _ _ => rfl)) pa_nil)) (nomark _))))) (pss_cons (ps_set (i := 3) sc_law_draw.nd rfl (.inl rfl) (pe_ix ix_list (pe_dget hu (pv 0) pe_str (fun _ _ => rfl)) (pe_dget hu (pv 0) pe_str (fun _ _ => rfl)) (fun _ _ => rfl)))
    (pss_cons (ps_dput hu (pv 0) pe_str (pe_op op_add (pe_dget hu (pv 0) pe_str (fun _ _ => rfl)) pe_int) rfl)
    (pss_one (ps_if (pt_cmpR op_ge (pv 3) (pe_op op_pow pe_int pe_int) (nomark _)) (pss_one (ps_dput hu (pv 0) pe_str (pe_op op_sub (pv 3) (pe_op op_pow pe_int pe_int)) rfl)) (pss_one (ps_dput hu (pv 0) pe_str (pe_op op_modN (pe_callTy c_int (by rfl) T.b_int (by decide +kernel) (pa_cons (pe_op op_add (pe_op op_mul (pe_dget hu (pv 0) pe_str (fun _ _ => rfl)) pe_int) (pv 3)) pa_nil)) pe_int) rfl)))))) pss_nil)
    (pss_cons (ps_if (pt_cmpR op_gt (pe_dget hu (pv 0) pe_str (fun _ _ => rfl)) pe_int (nomark _)) (pss_cons (ps_set (i := 4) sc_law_draw.nd rfl (.inl rfl) (pe_op op_modN (pe_callTy c_int (by rfl) T.b_int (by decide +kernel) (pa_cons (pe_dget hu (pv 0) pe_str (fun _ _ => rfl)) pa_nil)) (pv 1)))
    (pss_cons (ps_dput hu (pv 0) pe_str (pe_op op_fdivN (pe_dget hu (pv 0) pe_str (fun _ _ => rfl)) (pv 1)) rfl)
    (pss_one (ps_ret (pv 4))))) pss_nil)
    (pss_cons (ps_set (i := 2) sc_law_draw.nd rfl (.inl rfl) (pe_op op_modN (pe_callTy c_int (by rfl) T.b_int (by decide +kernel) (pa_cons (pe_op op_add (pe_op op_add (pe_op op_mul (pe_dget hu (pv 0) pe_str (fun _ _ => rfl)) pe_int) (pe_op op_mul (pe_dget hu (pv 0) pe_str (fun _ _ => rfl)) pe_int)) pe_int) pa_nil)) pe_int))
    (pss_cons (ps_set (i := 2) sc_law_draw.nd rfl (.inl rfl) (pe_op op_modN (pe_callTy c_int (by rfl) T.b_int (by decide +kernel) (pa_cons (pe_op op_add (pe_op op_add (pe_op op_mul (pv 2) (pv 2)) (pe_op op_mul pe_int (pv 2))) (pe_dget hu (pv 0) pe_str (fun _ _ => rfl))) pa_nil)) pe_int))
    (pss_cons (ps_dput hu (pv 0) pe_str (pe_op op_modN (pe_callTy c_int (by rfl) T.b_int (by decide +kernel) (pa_cons (pe_op op_add (pe_op op_mul (pv 2) pe_int) pe_int) pa_nil)) pe_int) rfl)
    (pss_one (ps_ret (pe_op op_modN (pe_callTy c_int (by rfl) T.b_int (by decide +kernel) (pa_cons (pe_op op_fdivN (pv 2) pe_int) pa_nil)) (pv 1)))))))))), ?_⟩
  obtain ⟨p, m, l, ns, a, d, c, f, rfl, ⟨hp, hl, ha, hd, hc, hf, hf2⟩, hm, hm2, k⟩ := h
  have hlp : l ≠ p := PenAt.ne ⟨hp, hl, ha, hd, hc, hf, hf2⟩
  have hpn : ¬ H p = none := fun z => by rw [z] at hp; cases hp
  have es : L2.start ["pen", "many", "blend", "cell", "digit"] [V.ref p, V.int m] = [some (V.ref p), some (V.int m), none, none, none] := rfl
  rw [es]
  walk_at "rds"
  refine rr_gcount hp ?_
  walk_at "rds"
  refine rr_pcount hp ?_
  with_reducible refine rr_seqJ (fun z : Int × Int × Int × Option V => 0 ≤ z.1 ∧ 0 ≤ z.2.1 ∧ 0 ≤ z.2.2.1 ∧ z.2.2.1 < 2147483648) (fun z => [some (V.ref p), some (V.int m), none, z.2.2.2, none]) (fun z => upd H p (.dK (penL l z.1 z.2.1 (c + 1) z.2.2.1))) (fun ⟨a, d, f, v⟩ ⟨ha, hd, hf, hf2⟩ => ?_) (fun rest => ?_)
  · -- digits, then the mix
    clear hp
    dsimp only at ha hd hf hf2 ⊢
    have fin : ∀ (r : Int) (d' f' : Int), 0 ≤ r → r < m → 0 ≤ d' → 0 ≤ f' → f' < 2147483648 → Q (.int r) (upd H p (.dK (penL l a d' (c + 1) f'))) := fun r d' f' h1 h2 h3 h4 h5 => by
      exact k r _ _ _ _ h1 h2 ha h3 (by omega) h4 h5
    walk_at "rds"
    refine rr_gdigits upd_same ?_
    walk_at "rds"
    refine rr_lt0 (fun h => ?_) (fun h => ?_)
    · walk_at "rds"
      refine rr_gdigits upd_same ?_
      walk_at "rds"
      refine rr_i (by omega) ?_
      walk_at "rds"
      refine rr_gdigits upd_same ?_
      walk_at "rds"
      refine rr_i ⟨by omega, by omega⟩ ?_
      walk_at "rds"
      refine rr_pdigits upd_same ?_
      walk_at "rds"
      rw [upd_upd]
      exact fin _ _ _ (modN hm).1 (modN hm).2 (divN hd hm) hf hf2
    · walk_at "rds"
      refine rr_gfold upd_same ?_
      walk_at "rds"
      refine rr_i (.inr (by decide)) ?_
      walk_at "rds"
      refine rr_gcount upd_same ?_
      walk_at "rds"
      refine rr_i (.inr (by decide)) ?_
      walk_at "rds"
      refine rr_i (by decide) ?_
      walk_at "rds"
      have b1 := modN (a := f * 48271 + (c + 1) * 7919 + 13) (b := 2147483647) (by decide)
      generalize (f * 48271 + (c + 1) * 7919 + 13).fmod 2147483647 = e1 at b1 ⊢
      refine rr_i (.inr (by omega)) ?_
      walk_at "rds"
      refine rr_i (.inr (by omega)) ?_
      walk_at "rds"
      refine rr_gcount upd_same ?_
      walk_at "rds"
      refine rr_i (by decide) ?_
      walk_at "rds"
      have b2 := modN (a := e1 * e1 + 31 * e1 + (c + 1)) (b := 2147483629) (by decide)
      generalize (e1 * e1 + 31 * e1 + (c + 1)).fmod 2147483629 = e2 at b2 ⊢
      refine rr_i (.inr (by decide)) ?_
      walk_at "rds"
      refine rr_i (by decide) ?_
      walk_at "rds"
      refine rr_pfold upd_same ?_
      walk_at "rds"
      refine rr_i ⟨by decide, by decide⟩ ?_
      walk_at "rds"
      refine rr_i (by omega) ?_
      rw [upd_upd]
      have b3 := modN (a := e2 * 16807 + 7) (b := 2147483647) (by decide)
      exact fin _ _ _ (modN hm).1 (modN hm).2 hd b3.1 (by omega)
  · -- a further cell
    walk_at "rds"
    refine rr_gdigits upd_same ?_
    walk_at "rds"
    refine rr_lt0 (fun h => ?_) (fun h => rest (a, d, f, none) ⟨ha, hd, hf, hf2⟩)
    walk_at "rds"
    refine rr_gat upd_same ?_
    walk_at "rds"
    refine rr_gcells upd_same ?_
    walk_at "rds"
    have hl' : ∀ o, upd H p o l = some (.lst (ns.map V.int)) := fun o => by rw [upd_ne hlp]; exact hl
    refine rr_len (sqL (hl' _)) ?_
    walk_at "rds"
    refine rr_lt0 (fun h2 => ?_) (fun h2 => rest (a, d, f, none) ⟨ha, hd, hf, hf2⟩)
    walk_at "rds"
    refine rr_gcells upd_same ?_
    walk_at "rds"
    refine rr_gat upd_same ?_
    obtain ⟨x, hx⟩ := item_at (ns := ns) ha (by simpa using h2)
    refine rr_ixL (sqL (hl' _)) hx ?_
    walk_at "rds"
    refine rr_gat upd_same ?_
    walk_at "rds"
    refine rr_pat upd_same ?_
    walk_at "rds"
    refine rr_i ⟨by decide, by decide, by decide⟩ ?_
    walk_at "rds"
    refine rr_lt0 (fun h3 => ?_) (fun h3 => ?_)
    · walk_at "rds"
      refine rr_i ⟨by decide, by decide, by decide⟩ ?_
      walk_at "rds"
      refine rr_pdigits upd_same ?_
      rw [upd_upd, upd_upd]
      exact rest (a + 1, _, f, _) ⟨by show 0 ≤ a + 1; omega, by show 0 ≤ x - _; omega, hf, hf2⟩
    · walk_at "rds"
      refine rr_gfold upd_same ?_
      walk_at "rds"
      refine rr_i (.inr (by decide)) ?_
      walk_at "rds"
      refine rr_i (by decide) ?_
      walk_at "rds"
      refine rr_pfold upd_same ?_
      rw [upd_upd, upd_upd]
      have b3 := modN (a := f * 69069 + x) (b := 2147483587) (by decide)
      exact rest (a + 1, d, _, _) ⟨by show 0 ≤ a + 1; omega, hd, b3.1, Int.lt_trans b3.2 (by decide)⟩
theorem d_law_pick (F : Has K mg "_law_pick" s_law_pick) (T : Blt mg) (D_law_draw : Kp P w K mg base c 1 "_law_draw" ["pen", "many"] (spDrawP c)) : Kp P w K mg base c 2 "_law_pick" ["pen", "some"] (spPickP c) := by
  refine keepP F (fun _ _ _ _ _ _ us hl => match us, hl with | [_, _], _ => rfl) sc_law_pick (fun f cdv A outer s H E hr hg => ⟨_, (pus_one (pus_ret (pu_ix (pu_var 1) (pu_call D_law_draw hr hg takesF (pa_cons' (pu_var 0) (pa_cons' (pu_callB c_len rb_len T.b_len PySem.boot_len (pa_cons' (pu_var 1) pa_nil')) pa_nil')))))), fun ss R EX hl h => ?_⟩)
  obtain ⟨ds, rfl, h0, h1, h⟩ := h
  walk_at "pv"
  refine ⟨_, rfl, by omega, by omega, fun r r0 r1 => ?_⟩
  obtain ⟨x, e, m⟩ := atI_mem r0 r1
  walk_at "pv"
  rw [e]
  walk_at "pv"
  exact h x m
def spSize (c : Cc) : PSp := fun ss R _ => ss = [.raw (.ref c.p)] ∧ R (.d (.int 0)) ∧ R (.d (.int 1)) ∧ R (.d (.int 2))
def spWide (c : Cc) : PSp := fun ss R _ => ∃ n : Int, ss = [.raw (.ref c.p), .d (.int n)] ∧ (n = 39 ∨ n = 40) ∧ ∀ r : Int, 0 ≤ r → Bn 140 r → R (.d (.int r))
def spNum (c : Cc) : PSp := fun ss R _ => ∃ n : Int, ss = [.raw (.ref c.p), .d (.int n)] ∧ ∀ q : Rat, Br 145 q → R (.d (ratD q))

theorem d_law_size (F : Has K mg "_law_size" s_law_size) (T : Blt mg) (D_law_pick : Kp P w K mg base c 2 "_law_pick" ["pen", "some"] (spPickP c)) : Kp P w K mg base c 3 "_law_size" ["pen"] (spSize c) := by
  refine keepP F (fun _ _ _ _ _ _ us hl => match us, hl with | [_], _ => rfl) sc_law_size (fun f cdv A outer s H E hr hg => ⟨_, (pus_one (pus_ret (pu_call D_law_pick hr hg takesF (pa_cons' (pu_var 0) (pa_cons' (pu_lstK (pa_consK pu_int (pa_consK pu_int (pa_consK pu_int (pa_consK pu_int (pa_consK pu_int (pa_consK pu_int pa_nilK))))))) pa_nil'))))), fun ss R EX hl h => ?_⟩)
  obtain ⟨rfl, h0, h1, h2⟩ := h
  walk_at "pv"
  refine ⟨_, rfl, by decide, by decide, fun x m => ?_⟩
  simp only [List.mem_cons, List.not_mem_nil, or_false] at m
  rcases m with rfl | rfl | rfl | rfl | rfl | rfl <;> assumption
theorem d_law_wide (F : Has K mg "_law_wide" s_law_wide) (T : Blt mg) (D_law_draw : Kp P w K mg base c 1 "_law_draw" ["pen", "many"] (spDrawP c)) : Kp P w K mg base c 2 "_law_wide" ["pen", "figures"] (spWide c) := by
  refine keepP F (fun _ _ _ _ _ _ us hl => match us, hl with | [_, _], _ => rfl) sc_law_wide (fun f cdv A outer s H E hr hg => ⟨_, (pus_cons (pus_asg (pu_tupK (pa_consK pu_int (pa_consK pu_int pa_nilK))) (pug_tup (n := 2) (by rfl) (pugs_cons (pug_name (i := 3) sc_law_wide.nd) (pugs_cons (pug_name (i := 4) sc_law_wide.nd) pugs_nil))))
    (pus_cons (pus_for passF rfl (pui_range1 T.b_range (pa_cons' (pu_op op_fdivZ ro_div (pu_op op_addU ro_add (pu_var 1) pu_int) pu_int) pa_nil')) (pug_name (i := 2) sc_law_wide.nd) (pus_one (pus_set (i := 3) sc_law_wide.nd (pu_op op_addU ro_add (pu_op op_mulP ro_mul (pu_var 3) (pu_op op_pow ro_pow pu_int pu_int)) (pu_call D_law_draw hr hg takesF (pa_cons' (pu_var 0) (pa_cons' (pu_op op_pow ro_pow pu_int pu_int) pa_nil')))))))
    (pus_cons (pus_for passF rfl (pui_range1 T.b_range (pa_cons' (pu_var 1) pa_nil')) (pug_name (i := 2) sc_law_wide.nd) (pus_one (pus_set (i := 4) sc_law_wide.nd (pu_op op_mulP ro_mul (pu_var 4) pu_int))))
    (pus_one (pus_ret (pu_op op_modN ro_mod (pu_callTy c_int rb_int T.b_int (by decide +kernel) (pa_cons' (pu_var 3) pa_nil')) (pu_var 4))))))), fun ss R EX hl h => ?_⟩)
  obtain ⟨n, rfl, hn, h⟩ := h
  walk_at "pv"
  have h6 : (n + 5).fdiv 6 = 7 := by rcases hn with rfl | rfl <;> rfl
  rw [h6]
  refine ⟨⟨by decide, 3, by decide, by decide⟩, by decide, by decide, ?_⟩
  have base : ∀ x : Int, 0 ≤ x → x < 10 ^ 42 → Bn 140 x := fun x h0 h1 => by unfold Bn; omega
  refine pForL_ind (fun i env => ∃ (x : Int) (o : Option Sl), env = [some (.raw (.ref c.p)), some (.d (.int n)), o, some (.d (.int x)), some (.d (.int 1))] ∧ 0 ≤ x ∧ x < 10 ^ (6 * i)) ⟨0, none, rfl, by decide, by decide⟩ ?_ ?_
  · rintro i y env N hi ⟨x, o, rfl, h0, h1⟩ hN
    have hi7 : i < 7 := (rangeD_at hi).1
    have h2 : x < 10 ^ 42 := Int.lt_of_lt_of_le h1 (by exact_mod_cast Nat.pow_le_pow_right (by decide) (by omega))
    walk_at "pv"
    refine ⟨⟨by decide, by decide, by decide⟩, ⟨140, 20, base x h0 h2, by decide, by decide⟩, ⟨by decide, by decide, by decide⟩, _, rfl, by decide, by decide, fun r r0 r1 => ?_⟩
    walk_at "pv"
    refine hN _ ⟨_, _, rfl, ?_, ?_⟩
    · have : (0 : Int) ≤ x * 10 ^ (6 : Int).toNat := Int.mul_nonneg h0 (by decide)
      omega
    · have e : (10 : Int) ^ (6 * (i + 1)) = 10 ^ (6 * i) * 1000000 := by rw [Nat.mul_add, Int.pow_add]; rfl
      have e2 : (10 : Int) ^ (6 : Int).toNat = 1000000 := by decide
      rw [e2] at r1 ⊢
      rw [e]
      omega
  · rintro env ⟨x, o, rfl, h0, h1⟩
    walk_at "pv"
    refine ⟨by omega, by omega, ?_⟩
    refine pForL_ind (fun i env => ∃ (o : Option Sl), env = [some (.raw (.ref c.p)), some (.d (.int n)), o, some (.d (.int x)), some (.d (.int (10 ^ i)))]) ⟨_, rfl⟩ ?_ ?_
    · rintro i y env N hi ⟨o, rfl⟩ hN
      have hi7 : i < n.toNat := (rangeD_at hi).1
      walk_at "pv"
      refine ⟨⟨140, 4, base _ (Int.pow_nonneg (by decide)) ?_, by decide, by decide⟩, hN _ ⟨_, by rw [Int.pow_succ]⟩⟩
      exact Int.lt_of_le_of_lt (b := 10 ^ 41) (by exact_mod_cast Nat.pow_le_pow_right (by decide) (by omega)) (by decide)
    · rintro env ⟨o, rfl⟩
      have hp : (0 : Int) < 10 ^ (rangeD 0 n.toNat).length := Int.pow_pos (by decide)
      have hle : (10 : Int) ^ (rangeD 0 n.toNat).length ≤ 10 ^ 40 := by
        rw [rangeD_len]
        exact_mod_cast Nat.pow_le_pow_right (by decide) (by omega)
      have hm := modN (a := x) hp
      walk_at "pv"
      exact ⟨by omega, h _ hm.1 (base _ hm.1 (Int.lt_of_lt_of_le hm.2 (Int.le_trans hle (by decide))))⟩
theorem br_div {n : Nat} {a b : Int} (hb : b ≠ 0) (ha : Bn n a) (h : Bn n b) : Br n (Rat.divInt a b) := by
  unfold Br Bn at *
  constructor
  · rw [Rat.num_divInt]
    refine Nat.lt_of_le_of_lt (Int.natAbs_ediv_le_natAbs _ _) ?_
    rw [Int.natAbs_mul, Int.natAbs_sign_of_ne_zero hb, Nat.one_mul]
    exact ha
  · rw [Rat.den_divInt, if_neg hb]
    exact Nat.lt_of_le_of_lt (Nat.div_le_self _ _) h
def spRow (c : Cc) : PSp := fun ss R _ => ∃ n m : Int, ss = [.raw (.ref c.p), .d (.int n), .d (.int m)] ∧ 0 ≤ n ∧ n ≤ 4 ∧ ∀ ps : List Rat, (ps.length : Int) = n → (∀ q ∈ ps, Br 145 q) → R (.d (.tuple (ps.map ratD)))
def rowOk (x : PyData) (n : Int) : Bool := match seqD x with
  | some l => (l.length : Int) == n && l.all isRat
  | none => false
def odds : List PyData := [.none, .bool true, .bool false, .str "1", .str "", .tuple [.int 1, .int 1], .tuple [.int 2, .int 4], .tuple [.int 1, .int 0], .tuple [.int 1, .int (-2)], .list [.int 1, .int 2], .tuple [.int 1, .int 2, .int 3], .tuple [.bool true, .int 2], .tuple [], .tuple [.int 0, .int 3], .dict []]
def spOdd (c : Cc) : PSp := fun ss R _ => ss = [.raw (.ref c.p)] ∧ ∀ d ∈ odds, R (.d d)

theorem d_law_number (F : Has K mg "_law_number" s_law_number) (T : Blt mg) (D_law_draw : Kp P w K mg base c 1 "_law_draw" ["pen", "many"] (spDrawP c)) (D_law_low : Kp P w K mg base c 2 "_law_low" ["top", "bottom"] (spLow)) (D_law_wide : Kp P w K mg base c 2 "_law_wide" ["pen", "figures"] (spWide c)) : Kp P w K mg base c 3 "_law_number" ["pen", "size"] (spNum c) := by
  refine keepP F (fun _ _ _ _ _ _ us hl => match us, hl with | [_, _], _ => rfl) sc_law_number (fun f cdv A outer s H E hr hg => ⟨_, (pus_cons (pus_if (pt_cmp' (op_eqD (hu64 hr)) ro_eq (pu_var 1) pu_int) (pus_one (pus_ret (pu_op op_sub ro_sub (pu_call D_law_draw hr hg takesF (pa_cons' (pu_var 0) (pa_cons' pu_int pa_nil'))) pu_int))) pus_nil)
    (pus_cons (pus_if (pt_cmp' (op_eqD (hu64 hr)) ro_eq (pu_var 1) pu_int) (pus_one (pus_ret (pu_call D_law_low hr hg takesF (pa_cons' (pu_op op_sub ro_sub (pu_call D_law_draw hr hg takesF (pa_cons' (pu_var 0) (pa_cons' pu_int pa_nil'))) pu_int) (pa_cons' (pu_op op_addU ro_add pu_int (pu_call D_law_draw hr hg takesF (pa_cons' (pu_var 0) (pa_cons' pu_int pa_nil')))) pa_nil'))))) pus_nil)
    (pus_cons (pus_if (pt_cmp' (op_eqD (hu64 hr)) ro_eq (pu_var 1) pu_int) (pus_one (pus_ret (pu_call D_law_low hr hg takesF (pa_cons' (pu_op op_sub ro_sub (pu_call D_law_draw hr hg takesF (pa_cons' (pu_var 0) (pa_cons' pu_int pa_nil'))) pu_int) (pa_cons' (pu_op op_addU ro_add pu_int (pu_call D_law_draw hr hg takesF (pa_cons' (pu_var 0) (pa_cons' pu_int pa_nil')))) pa_nil'))))) pus_nil)
    (pus_one (pus_ret (pu_call D_law_low hr hg takesF (pa_cons' (pu_op op_mulP ro_mul (pu_op op_sub ro_sub pu_int (pu_op op_mulP ro_mul pu_int (pu_call D_law_draw hr hg takesF (pa_cons' (pu_var 0) (pa_cons' pu_int pa_nil'))))) (pu_call D_law_wide hr hg takesF (pa_cons' (pu_var 0) (pa_cons' pu_int pa_nil')))) (pa_cons' (pu_op op_addU ro_add pu_int (pu_call D_law_wide hr hg takesF (pa_cons' (pu_var 0) (pa_cons' pu_int pa_nil')))) pa_nil')))))))), fun ss R EX hl h => ?_⟩)
  obtain ⟨n, rfl, h⟩ := h
  have fin : ∀ a b : Int, 0 < b → Bn 145 a → Bn 145 b → spLow [.d (.int a), .d (.int b)] R EX := fun a b hb h1 h2 => ⟨a, b, rfl, by omega, bn_mono h2, h _ (br_div (by omega) h1 h2)⟩
  walk_at "pv"
  refine ⟨fun e => ?_, fun e => ⟨fun e1 => ?_, fun e1 => ⟨fun e2 => ?_, fun e2 => ?_⟩⟩⟩
  · refine ⟨7, rfl, by decide, by decide, fun r r0 r1 => ?_⟩
    walk_at "pv"
    have := h (Rat.divInt (r - 3) 1) (br_div (by decide) (by unfold Bn; omega) (by decide))
    rw [ratD_int] at this
    exact this
  · refine ⟨19, rfl, by decide, by decide, fun r r0 r1 => ?_⟩
    walk_at "pv"
    refine ⟨6, rfl, by decide, by decide, fun t t0 t1 => ?_⟩
    walk_at "pv"
    exact fin _ _ (by omega) (by unfold Bn; omega) (by unfold Bn; omega)
  · refine ⟨1999, rfl, by decide, by decide, fun r r0 r1 => ?_⟩
    walk_at "pv"
    refine ⟨97, rfl, by decide, by decide, fun t t0 t1 => ?_⟩
    walk_at "pv"
    exact fin _ _ (by omega) (by unfold Bn; omega) (by unfold Bn; omega)
  · refine ⟨2, rfl, by decide, by decide, fun r r0 r1 => ?_⟩
    walk_at "pv"
    have b1 : Bn 3 (1 - 2 * r) := by unfold Bn; omega
    refine ⟨⟨2, 2, by decide, by unfold Bn; omega, by decide⟩, 40, rfl, .inr rfl, fun t t0 t1 => ?_⟩
    walk_at "pv"
    refine ⟨cm b1 t1, 39, rfl, .inl rfl, fun u u0 u1 => ?_⟩
    walk_at "pv"
    exact fin _ _ (by omega) (bn_mul b1 t1) (bn_add (a := 1) (by decide) u1)
end
end K11
namespace K11
open PySem PySem.Spec PyProof.Rows L2 Lx Px
local macro_rules | `(tactic| walk_at "pv") => `(tactic| simp only [psSeq, psSet, psPar, psIf, psRet, psDrop, psCont, psNext, psAsg, psFor, psRaise, pVar, nth, pC, pOp, pUn, oI, oI0, uI, oAdd, oEq, oEqE, eqv_rat0, List.isEmpty_nil, List.isEmpty_cons, oNe, oIs, oNis, oIx, pNil, pCons, allD, pTup, pLst, pDisp0, bOf, ptB, ptAnd, ptOr, ptNot, pIf, pAndV, pOrV, pNotV, pCalln, pB, bInt, bAbs, bGcd, bLen, bList, bTuple, bRepr, bAll, uIsi, uIsi2, pgName, pgNil, pgCons, pgTup, Px.iR1, Px.iR2, Px.iS, Px.iZip, iZipU, pSl, pNo, pSome, pLc, pYes, noOwn, noOwn1, wipeE, pdOf, startP, List.set, List.map, List.append, List.cons_append, List.nil_append, List.length_cons, List.length_nil, List.replicate, Nat.reduceAdd, Nat.reduceSub, List.getElem?_cons_zero, List.getElem?_cons_succ, isNone, isBool, oSub, oMul, oDiv, oMod, oPow, oLt, oLe, oGt, oGe, at_0, at_1, okE_int, okE_bool, okE_none, okE_rat, eqv_int, eqv_ti, isTy_int_int, isTy_int_tup, isTy_tup_tup, isTy_tup_int, isTy_bool_int, true_and, and_true, beq_iff_eq, decide_eq_true_eq, decide_eq_false_iff_not, beq_eq_false_iff_ne, Bool.not_true, Bool.not_false, Bool.not_eq_true', Bool.not_eq_false', Nat.reduceLeDiff, Option.some.injEq, exists_eq_left', exists_eq_left, forall_const, true_imp_iff, Bool.false_eq_true, Bool.true_eq_false, false_imp_iff, reduceCtorEq])
local macro_rules | `(tactic| walk_at "pvs") => `(tactic| simp [isTy, tyN, at_0, at_1, okE_int, okE_bool, okE_none, eqv_int, oLt, oLe, oGt, oGe, oSub, oMul, oDiv, oMod, oI, oI0])

abbrev s_law_odd : Stmt := topS 67
theorem sc_law_odd : FnScope ["pen"] ["pen"] (defScope s_law_odd) := ⟨rfl, rfl, rfl, by decide +kernel, rfl, by decide +kernel, by decide +kernel⟩
def menuB : List PyData := [.none, .int 3, .str "row", .bool true, .dict []]
/-- what a bent row may be -/
def Bent (x : PyData) : Prop := x ∈ menuB ∨ ∃ l : List PyData, x = .tuple l ∧ l.length ≤ 5 ∧ ((∀ d ∈ l, ∃ q, d = ratD q ∧ Br 145 q) ∨ ∃ a b : List PyData, ∃ o : PyData, l = a ++ o :: b ∧ o ∈ odds ∧ (∀ d ∈ a, ∃ q, d = ratD q ∧ Br 145 q) ∧ ∀ d ∈ b, ∃ q, d = ratD q ∧ Br 145 q)
def spBent (c : Cc) : PSp := fun ss R _ => ∃ ps : List Rat, ss = [.raw (.ref c.p), .d (.tuple (ps.map ratD))] ∧ ps.length ≤ 4 ∧ (∀ q ∈ ps, Br 145 q) ∧ ∀ x, Bent x → R (.d x)
def spAnyRow : PSp := fun ss R _ => ∃ (x : PyData) (n : Int), ss = [.d x, .d (.int n)] ∧ (∀ l, seqD x = some l → l.length ≤ 1000) ∧ R (.d (.bool (rowOk x n)))
theorem all_filter (l : List PyData) : (l.filter fun x => !isRat x).isEmpty = l.all isRat := by
  induction l with
  | nil => rfl
  | cons a l ih =>
    rw [List.filter_cons, List.all_cons]
    cases isRat a <;> simp [ih]

theorem cut_take (l : List PyData) {i : Int} (h0 : 0 ≤ i) (h1 : i ≤ (l.length : Nat)) : Px.cutD l none (some i) = l.take i.toNat := by
  unfold Px.cutD
  have e : i = ((i.toNat : Nat) : Int) := by omega
  generalize i.toNat = k at e
  subst e
  rw [HT.sIx_nat, HT.sIx_none, List.drop_zero, Nat.sub_zero, Nat.min_eq_left (by omega)]
theorem cut_drop (l : List PyData) {i : Int} (h0 : 0 ≤ i) (h1 : i ≤ (l.length : Nat)) : Px.cutD l (some i) none = l.drop i.toNat := by
  unfold Px.cutD
  have e : i = ((i.toNat : Nat) : Int) := by omega
  generalize i.toNat = k at e
  subst e
  rw [HT.sIx_nat, HT.sIx_none, Nat.min_eq_left (by omega)]
  exact List.take_of_length_le (by rw [List.length_drop]; omega)
theorem cut_last (l : List PyData) (h : 0 < l.length) : Px.cutD l none (some (-1)) = l.take (l.length - 1) := by
  unfold Px.cutD
  have e := HT.clip_eq (-1) l.length l.length
  rw [if_pos (by decide)] at e
  rw [HT.sIx_none, List.drop_zero, Nat.sub_zero]
  congr 1
  omega
/-- the items of a drawn row -/
def RB (d : PyData) : Prop := ∃ q, d = ratD q ∧ Br 145 q
theorem rb_map {ps : List Rat} (hb : ∀ q ∈ ps, Br 145 q) : ∀ d ∈ ps.map ratD, RB d := fun d hd => by
  obtain ⟨q, hq, rfl⟩ := List.mem_map.mp hd
  exact ⟨q, rfl, hb q hq⟩

section
variable {P : Program} {w : World} {K : PySem.W.Frag} {mg : Str → Option Value} {base : Heap} {c : Cc}

theorem d_law_odd (F : Has K mg "_law_odd" s_law_odd) (T : Blt mg) (D_law_pick : Kp P w K mg base c 2 "_law_pick" ["pen", "some"] (spPickP c)) : Kp P w K mg base c 3 "_law_odd" ["pen"] (spOdd c) := by
  refine keepP F (fun _ _ _ _ _ _ us hl => match us, hl with | [_], _ => rfl) sc_law_odd (fun f cdv A outer s H E hr hg => ⟨_, (pus_one (pus_ret (pu_call D_law_pick hr hg takesF (pa_cons' (pu_var 0) (pa_cons' (pu_lstK (pa_consK pu_non (pa_consK pu_bl (pa_consK pu_bl (pa_consK pu_str (pa_consK pu_str (pa_consK (pu_tupK (pa_consK pu_int (pa_consK pu_int pa_nilK))) (pa_consK (pu_tupK (pa_consK pu_int (pa_consK pu_int pa_nilK))) (pa_consK (pu_tupK (pa_consK pu_int (pa_consK pu_int pa_nilK))) (pa_consK (pu_tupK (pa_consK pu_int (pa_consK (pu_negK pu_int) pa_nilK))) (pa_consK (pu_lstK (pa_consK pu_int (pa_consK pu_int pa_nilK))) (pa_consK (pu_tupK (pa_consK pu_int (pa_consK pu_int (pa_consK pu_int pa_nilK)))) (pa_consK (pu_tupK (pa_consK pu_bl (pa_consK pu_int pa_nilK))) (pa_consK (pu_tupK pa_nilK) (pa_consK (pu_tupK (pa_consK pu_int (pa_consK pu_int pa_nilK))) (pa_consK pu_dispK pa_nilK)))))))))))))))) pa_nil'))))), fun ss R EX hl h => ?_⟩)
  obtain ⟨rfl, h⟩ := h
  walk_at "pv"
  exact ⟨_, rfl, by decide, by decide, h⟩
end
end K11
namespace K11
open PySem PySem.Spec PyProof.Rows L2 Lx Px
local macro_rules | `(tactic| walk_at "pv") => `(tactic| simp only [psSeq, psSet, psPar, psIf, psRet, psDrop, psCont, psNext, psAsg, psFor, psRaise, pVar, nth, pC, pOp, pUn, oI, oI0, uI, oAdd, oEq, oEqE, eqv_rat0, List.isEmpty_nil, List.isEmpty_cons, oNe, oIs, oNis, oIx, pNil, pCons, allD, pTup, pLst, pDisp0, bOf, ptB, ptAnd, ptOr, ptNot, pIf, pAndV, pOrV, pNotV, pCalln, pB, bInt, bAbs, bGcd, bLen, bList, bTuple, bRepr, bAll, uIsi, uIsi2, pgName, pgNil, pgCons, pgTup, Px.iR1, Px.iR2, Px.iS, Px.iZip, iZipU, pSl, pNo, pSome, pLc, pYes, noOwn, noOwn1, wipeE, pdOf, startP, List.set, List.map, List.append, List.cons_append, List.nil_append, List.length_cons, List.length_nil, List.replicate, Nat.reduceAdd, Nat.reduceSub, List.getElem?_cons_zero, List.getElem?_cons_succ, isNone, isBool, oSub, oMul, oDiv, oMod, oPow, oLt, oLe, oGt, oGe, at_0, at_1, okE_int, okE_bool, okE_none, okE_rat, eqv_int, eqv_ti, isTy_int_int, isTy_int_tup, isTy_tup_tup, isTy_tup_int, isTy_bool_int, true_and, and_true, beq_iff_eq, decide_eq_true_eq, decide_eq_false_iff_not, beq_eq_false_iff_ne, Bool.not_true, Bool.not_false, Bool.not_eq_true', Bool.not_eq_false', Nat.reduceLeDiff, Option.some.injEq, exists_eq_left', exists_eq_left, forall_const, true_imp_iff, Bool.false_eq_true, Bool.true_eq_false, false_imp_iff, reduceCtorEq])
local macro_rules | `(tactic| walk_at "pvs") => `(tactic| simp [isTy, tyN, at_0, at_1, okE_int, okE_bool, okE_none, eqv_int, oLt, oLe, oGt, oGe, oSub, oMul, oDiv, oMod, oI, oI0])

def dotR (ps qs : List Rat) : Rat := (ps.zip qs).foldl (fun a z => a + z.1 * z.2) 0
theorem dotR_snoc {ps qs : List Rat} {p q : Rat} (h : ps.length = qs.length) : dotR (ps ++ [p]) (qs ++ [q]) = dotR ps qs + p * q := by
  unfold dotR
  rw [List.zip_append h, List.foldl_append]
  rfl
theorem dotR_take {ps qs : List Rat} {i : Nat} {p q : Rat} (hp : ps[i]? = some p) (hq : qs[i]? = some q) : dotR (ps.take (i + 1)) (qs.take (i + 1)) = dotR (ps.take i) (qs.take i) + p * q := by
  have h1 := (List.getElem?_eq_some_iff.mp hp).1
  have h2 := (List.getElem?_eq_some_iff.mp hq).1
  rw [List.take_add_one, List.take_add_one, hp, hq]
  exact dotR_snoc (by rw [List.length_take, List.length_take]; omega)
theorem zip_rat {ps qs : List Rat} {i : Nat} {d : PyData} (h : (zipD (ps.map ratD) (qs.map ratD))[i]? = some d) : ∃ p q, ps[i]? = some p ∧ qs[i]? = some q ∧ d = .tuple [ratD p, ratD q] := by
  obtain ⟨x, y, h1, h2, rfl⟩ := zipD_at h
  rw [List.getElem?_map] at h1 h2
  cases e1 : ps[i]? with
  | none => rw [e1] at h1; cases h1
  | some p =>
    cases e2 : qs[i]? with
    | none => rw [e2] at h2; cases h2
    | some q =>
      rw [e1] at h1
      rw [e2] at h2
      cases h1
      cases h2
      exact ⟨p, q, rfl, rfl, rfl⟩
/-- what the loop keeps: top and bottom of the sum so far -/
structure SumI (ps qs : List Rat) (i : Nat) (t b : Int) : Prop where
  pos : 0 < b
  val : Rat.divInt t b = dotR (ps.take i) (qs.take i)
  bt : Bn (400 * i + 10) t
  bb : Bn (400 * i + 10) b
theorem SumI.zero (ps qs : List Rat) : SumI ps qs 0 0 1 := ⟨by decide, by rw [List.take_zero, List.take_zero]; rfl, by decide, by decide⟩
theorem SumI.skip {ps qs : List Rat} {i : Nat} {t b : Int} {p q : Rat} (S : SumI ps qs i t b) (hp : ps[i]? = some p) (hq : qs[i]? = some q) (hz : p.num = 0 ∨ q.num = 0) : SumI ps qs (i + 1) t b := by
  refine ⟨S.pos, ?_, bn_mono S.bt (by omega), bn_mono S.bb (by omega)⟩
  rw [dotR_take hp hq, S.val]
  have : p * q = 0 := by
    rw [← divInt_mul]
    rcases hz with z | z <;> rw [z] <;> simp
  rw [this, Rat.add_zero]
theorem mul_pos' {a b : Int} (h1 : 0 < a) (h2 : 0 < b) : 0 < a * b := Int.mul_pos h1 h2
theorem SumI.same {ps qs : List Rat} {i : Nat} {t b : Int} {p q : Rat} (S : SumI ps qs i t b) (hp : ps[i]? = some p) (hq : qs[i]? = some q) (h1 : Br 145 p) (h2 : Br 145 q) (e : (p.den : Int) * (q.den : Nat) = b) : SumI ps qs (i + 1) (t + p.num * q.num) b := by
  refine ⟨S.pos, ?_, bn_add (a := 400 * i + 10) (b := 290) S.bt (bn_mul h1.1 h2.1) (by omega) (by omega), bn_mono S.bb (by omega)⟩
  have hb : b ≠ 0 := by have := S.pos; omega
  rw [dotR_take hp hq, ← S.val, ← divInt_mul, e, Rat.divInt_add_divInt _ _ hb hb, ← Int.add_mul, Rat.divInt_mul_right hb]
theorem SumI.wide {ps qs : List Rat} {i : Nat} {t b : Int} {p q : Rat} (S : SumI ps qs i t b) (hp : ps[i]? = some p) (hq : qs[i]? = some q) (h1 : Br 145 p) (h2 : Br 145 q) : SumI ps qs (i + 1) (t * ((p.den : Int) * (q.den : Nat)) + p.num * q.num * b) (b * ((p.den : Int) * (q.den : Nat))) := by
  have hl : Bn 290 ((p.den : Int) * (q.den : Nat)) := bn_mul h1.2 h2.2
  refine ⟨mul_pos' S.pos (mul_pos' (den_pos p) (den_pos q)), ?_, bn_add (a := 400 * i + 300) (b := 400 * i + 300) (bn_mul S.bt hl (by omega)) (bn_mul (bn_mul (n := 290) h1.1 h2.1) S.bb (by omega)) (by omega) (by omega), bn_mul S.bb hl (by omega)⟩
  have hb : b ≠ 0 := by have := S.pos; omega
  have hd : (p.den : Int) * (q.den : Nat) ≠ 0 := Int.mul_ne_zero (den_ne p) (den_ne q)
  rw [dotR_take hp hq, ← S.val, ← divInt_mul, Rat.divInt_add_divInt _ _ hb hd]
def spSum : PSp := fun ss R _ => ∃ (x : PyData) (ps qs : List Rat), ss = [.d x, .d (.tuple (qs.map ratD))] ∧ (x = .list (ps.map ratD) ∨ x = .tuple (ps.map ratD)) ∧ ps.length = qs.length ∧ ps.length ≤ 5 ∧ (∀ q ∈ ps, Br 145 q) ∧ (∀ q ∈ qs, Br 145 q) ∧ R (.d (ratD (dotR ps qs)))

section
variable {P : Program} {w : World} {K : PySem.W.Frag} {mg : Str → Option Value} {base : Heap} {c : Cc}

def spDotL : PSp := fun ss R _ => ∃ (ps qs : List Rat), ss = [.d (.tuple (ps.map ratD)), .d (.tuple (qs.map ratD))] ∧ ps.length = qs.length ∧ ps.length ≤ 5 ∧ (∀ q ∈ ps, Br 145 q) ∧ (∀ q ∈ qs, Br 145 q) ∧ R (.d (ratD (dotR ps qs)))
theorem lc_israt {x y : PyData} {l : List PyData} {K : List PyData → Prop} (hl : l.length ≤ 1000) (h : K (l.map fun d => .bool (isRat d))) : pLcL (pgName 2) pYes (pCalln 1 spIsRat (pCons (pVar 2) pNil)) [some (.d x), some (.d y), none] l [] K := by
  refine pLcL_ind (fun i acc => acc = (l.take i).map fun d => .bool (isRat d)) rfl ?_ ?_
  · rintro i d acc N hi rfl hN
    walk_at "pv"
    refine ⟨d, rfl, ?_⟩
    walk_at "pv"
    refine ⟨by rw [List.length_map, List.length_take]; omega, hN _ ?_⟩
    rw [List.take_add_one, hi, List.map_append]
    rfl
  · rintro acc rfl
    rw [List.take_length]
    exact h
theorem bools_israt : ∀ l : List PyData, boolsOf (l.map fun d => .bool (isRat d)) = some (l.map isRat)
  | [] => rfl
  | d :: l => by
    rw [List.map_cons, List.map_cons, boolsOf, bools_israt l]
    rfl
theorem all_israt (l : List PyData) : (l.map isRat).all id = l.all isRat := by rw [List.all_map]; rfl
theorem lt_list (l : List PyData) : (isTy "list" (.list l) || isTy "tuple" (.list l)) = true := by simp [isTy, tyN]
theorem lt_tup (l : List PyData) : (isTy "list" (.tuple l) || isTy "tuple" (.tuple l)) = true := by simp [isTy, tyN]

def rowF (x : Str) (d : PyData) : FD := [("row", d), ("what", .str x)]
def unF (x : Str) : FD := [("what", .str x)]
def good (x : PyData) : Bool := match seqD x with
  | some l => l.all isRat
  | none => false
def spDot (CR CU : Addr) : PSp := fun ss R EX => ∃ x y, ss = [.d x, .d y] ∧ (∀ l, seqD x = some l → l.length ≤ 1000) ∧ (∀ l, seqD y = some l → l.length ≤ 1000) ∧ (good x = false → EX CR (rowF "row" x)) ∧ (good x = true → good y = false → EX CR (rowF "other" y)) ∧
  (∀ l m, good x = true → good y = true → seqD x = some l → seqD y = some m → l.length ≠ m.length → EX CU (unF "other")) ∧
  (∀ l m, good x = true → good y = true → seqD x = some l → seqD y = some m → l.length = m.length → spSum [.d x, .d y] R EX)
end
end K11
namespace K11
open PySem PySem.Spec PyProof.Rows L2 Lx Px
local macro_rules | `(tactic| walk_at "pv") => `(tactic| simp only [psSeq, psSet, psPar, psIf, psRet, psDrop, psCont, psNext, psAsg, psFor, psRaise, psOwn, psApp, psShow, uIsP, uFld, pCallE, pdNo, pVar, nth, pC, pOp, pUn, oI, oI0, uI, oAdd, oEq, oEqE, eqv_rat0, List.isEmpty_nil, List.isEmpty_cons, oNe, oIs, oNis, oIx, pNil, pCons, allD, pTup, pLst, pDisp0, bOf, ptB, ptAnd, ptOr, ptNot, pIf, pAndV, pOrV, pNotV, pCalln, pB, bInt, bAbs, bGcd, bLen, bList, bTuple, bRepr, bAll, uIsi, uIsi2, pgName, pgNil, pgCons, pgTup, Px.iR1, Px.iR2, Px.iS, Px.iZip, iZipU, pSl, pNo, pSome, pLc, pYes, noOwn, noOwn1, wipeE, pdOf, startP, List.set, List.map, List.append, List.cons_append, List.nil_append, List.length_cons, List.length_nil, List.replicate, Nat.reduceAdd, Nat.reduceSub, List.getElem?_cons_zero, List.getElem?_cons_succ, isNone, isBool, oSub, oMul, oDiv, oMod, oPow, oLt, oLe, oGt, oGe, at_0, at_1, okE_int, okE_bool, okE_none, okE_rat, eqv_int, eqv_ti, isTy_int_int, isTy_int_tup, isTy_tup_tup, isTy_tup_int, isTy_bool_int, true_and, and_true, beq_iff_eq, decide_eq_true_eq, decide_eq_false_iff_not, beq_eq_false_iff_ne, Bool.not_true, Bool.not_false, Bool.not_eq_true', Bool.not_eq_false', Nat.reduceLeDiff, Option.some.injEq, exists_eq_left', exists_eq_left, forall_const, true_imp_iff, Bool.false_eq_true, Bool.true_eq_false, false_imp_iff, reduceCtorEq])
local macro_rules | `(tactic| walk_at "pvs") => `(tactic| simp [isTy, tyN, at_0, at_1, okE_int, okE_bool, okE_none, eqv_int, oLt, oLe, oGt, oGe, oSub, oMul, oDiv, oMod, oI, oI0])
local macro_rules | `(tactic| walk_at "pvh") => `(tactic| simp only [psSeq, psSet, psPar, psIf, psRet, psDrop, psCont, psNext, psAsg, psFor, psRaise, psOwn, psApp, psShow, uIsP, uFld, pCallE, pdNo, pVar, nth, pC, pOp, pUn, oI, oI0, uI, oAdd, oEq, oEqE, eqv_rat0, List.isEmpty_nil, List.isEmpty_cons, oNe, oIs, oNis, oIx, pNil, pCons, allD, pTup, pLst, pDisp0, bOf, ptB, ptAnd, ptOr, ptNot, pIf, pAndV, pOrV, pNotV, pCalln, pB, bInt, bAbs, bGcd, bLen, bList, bTuple, bRepr, bAll, uIsi, uIsi2, pgName, pgNil, pgCons, pgTup, Px.iR1, Px.iR2, Px.iS, Px.iZip, iZipU, pSl, pNo, pSome, pLc, pYes, noOwn, noOwn1, wipeE, pdOf, startP, List.set, List.map, List.append, List.cons_append, List.nil_append, List.length_cons, List.length_nil, List.replicate, Nat.reduceAdd, Nat.reduceSub, List.getElem?_cons_zero, List.getElem?_cons_succ, isNone, isBool, oSub, oMul, oDiv, oMod, oPow, oLt, oLe, oGt, oGe, at_0, at_1, okE_int, okE_bool, okE_none, okE_rat, eqv_int, eqv_ti, isTy_int_int, isTy_int_tup, isTy_tup_tup, isTy_tup_int, isTy_bool_int, true_and, and_true, beq_iff_eq, decide_eq_true_eq, decide_eq_false_iff_not, beq_eq_false_iff_ne, Bool.not_true, Bool.not_false, Bool.not_eq_true', Bool.not_eq_false', Nat.reduceLeDiff, Option.some.injEq, exists_eq_left', exists_eq_left, forall_const, true_imp_iff, Bool.false_eq_true, Bool.true_eq_false, false_imp_iff, reduceCtorEq, if_true, if_false, not_false_eq_true, not_true_eq_false, *])

abbrev tab : ClsTab := [("BadNumber", ["what", "number"]), ("BadRow", ["what", "row"]), ("BadTable", ["what"]), ("BadTree", ["what"]), ("BadBook", ["what"]), ("BadName", ["name"]), ("BadText", ["line", "word"]), ("NoPlace", ["what", "index"]), ("NoName", ["name"]), ("TakenName", ["name"]), ("Unlike", ["what"]), ("NotThere", ["paper"]), ("TooMany", ["what", "many", "limit"]), ("NotKept", ["promise", "witness"]), ("NothingToUndo", []), ("NothingToRedo", [])]
def dueP : Nat → List PyData → PyData
  | 0, [a, b] => .tuple [.str "number", a, .str b.shown]
  | 1, [a, b] => .tuple [.str "row", a, .str b.shown]
  | 2, [a] => .tuple [.str "table", a]
  | 3, [a] => .tuple [.str "tree", a]
  | 4, [a] => .tuple [.str "book", a]
  | 5, [a] => .tuple [.str "badname", .str a.shown]
  | 6, [a, b] => .tuple [.str "text", a, b]
  | 7, [a, b] => .tuple [.str "place", a, .str b.shown]
  | 8, [a] => .tuple [.str "noname", .str a.shown]
  | 9, [a] => .tuple [.str "taken", .str a.shown]
  | 10, [a] => .tuple [.str "unlike", a]
  | 11, [a] => .tuple [.str "notthere", a]
  | 12, [a, b, c] => .tuple [.str "many", a, b, c]
  | 13, [a, b] => .tuple [.str "kept", a, b]
  | 14, [] => .tuple [.str "undo"]
  | 15, [] => .tuple [.str "redo"]
  | _, _ => .none
def Hid (p : Prop) : Prop := p
theorem Hid.get {p : Prop} (h : Hid p) : p := h
/-- the exception of the k-th class, its fields vals -/
def fdOf (k : Nat) (vals : List PyData) : FD := (((tab.getD k ("", [])).2).zip vals).reverse
def spMoreP (Cs : Nat → Addr) (p : Addr × Obj) : PSp := fun ss R _ => ∃ (k : Nat) (vals : List PyData), ss = [.exc p (Cs k) (fdOf k vals)] ∧ k < 16 ∧ vals.length = ((tab.getD k ("", [])).2).length ∧ (∀ v ∈ vals, OkR v) ∧ R (.d (.list (if 8 ≤ k then [dueP k vals] else [])))
def spKindsP (Cs : Nat → Addr) (p : Addr × Obj) : PSp := fun ss R _ => ∃ (k : Nat) (vals : List PyData), ss = [.exc p (Cs k) (fdOf k vals)] ∧ k < 16 ∧ vals.length = ((tab.getD k ("", [])).2).length ∧ (∀ v ∈ vals, OkR v) ∧ R (.d (.list [dueP k vals]))
abbrev s_law_more_kinds : Stmt := topS 70
theorem sc_law_more_kinds : FnScope ["e", "found"] ["e"] (defScope s_law_more_kinds) := ⟨rfl, rfl, rfl, by decide +kernel, rfl, by decide +kernel, by decide +kernel⟩
abbrev s_law_kinds : Stmt := topS 69
theorem sc_law_kinds : FnScope ["e", "found"] ["e"] (defScope s_law_kinds) := ⟨rfl, rfl, rfl, by decide +kernel, rfl, by decide +kernel, by decide +kernel⟩
section
variable {P : Program} {w : World} {K : PySem.W.Frag} {mg : Str → Option Value} {base : Heap} {c : Cc} {S : Addr} {Cs : Nat → Addr}

theorem own_step {i : Nat} {B : PTS} {P : PD} {env : Ev} (h : B P (env.set i (some (.own [])))) : psSeq (psOwn i pNil) B P env := ⟨by decide, h⟩
theorem if_skip {p : Addr × Obj} {ok : Addr → Prop} {b : Addr → Bool} {A B : PTS} {P : PD} {env : Ev} {C : Addr} {ds : FD} (h0 : nth env 0 = some (.exc p C ds)) (hk : ok C) (hb : b C = false) (h : B P env) : psSeq (psIf (ptB (pUn (uIsP p ok b) (pVar 0))) A psNext) B P env := by
  unfold psSeq psIf ptB pUn pVar
  rw [h0]
  exact ⟨rfl, hk, fun z => absurd (hb.symm.trans z) (by decide), fun _ => h⟩
theorem if_take {p : Addr × Obj} {ok : Addr → Prop} {b : Addr → Bool} {A B : PTS} {P : PD} {env : Ev} {C : Addr} {ds : FD} (h0 : nth env 0 = some (.exc p C ds)) (hk : ok C) (hb : b C = true) (h : A { P with nx := B P } env) : psSeq (psIf (ptB (pUn (uIsP p ok b) (pVar 0))) A psNext) B P env := by
  unfold psSeq psIf ptB pUn pVar
  rw [h0]
  exact ⟨rfl, hk, fun _ => h, fun z => absurd (hb.symm.trans z) (by decide)⟩
theorem app_step {i : Nat} {pa : PTE} {Pd : PD} {env : Ev} {ds : List PyData} (d : PyData) (h1 : nth env i = some (.own ds)) (hl : ds.length ≤ 1000000) (he : ∀ (R : Sl → Prop) (E : XP), R (.d d) → pa env R E) (h : Pd.nx (env.set i (some (.own (ds ++ [d]))))) : psApp i pa Pd env := by
  unfold psApp
  rw [h1]
  exact he _ _ ⟨hl, h⟩
theorem if_app {p : Addr × Obj} {ok : Addr → Prop} {b : Addr → Bool} {B : PTS} {P : PD} {env : Ev} {C : Addr} {fs : FD} {i : Nat} {pa : PTE} {ds : List PyData} (d : PyData) (h0 : nth env 0 = some (.exc p C fs)) (hk : ok C) (hb : b C = true) (h1 : nth env i = some (.own ds)) (hl : ds.length ≤ 1000000) (he : ∀ (R : Sl → Prop) (E : XP), R (.d d) → pa env R E)
    (h : B P (env.set i (some (.own (ds ++ [d]))))) : psSeq (psIf (ptB (pUn (uIsP p ok b) (pVar 0))) (psApp i pa) psNext) B P env := if_take h0 hk hb (app_step d h1 hl he h)
theorem dno {p : Prop} [Decidable p] (h : p = False) : decide p = false := decide_eq_false (by rw [h]; exact id)
omit c in
theorem ce_ne (TC : Tc K mg S tab Cs) (i j : Nat) (h : i ≠ j := by decide) (hi : i < 16 := by decide) (hj : j < 16 := by decide) : (Cs i = Cs j) = False := eq_false fun z => h (TC.inj i j hi hj z)
theorem d_law_more_kinds (F : Has K mg "_law_more_kinds" s_law_more_kinds) (T : Blt mg) (TC : Tc K mg S tab Cs)  : KpE P w K mg base c 1 "_law_more_kinds" ["e"] (spMoreP Cs) := by
  refine keepEP F (fun _ _ _ _ _ _ us hl => match us, hl with | [_], _ => rfl) sc_law_more_kinds (fun f cdv A outer s H E p hr hg hp => ⟨_, (pus_cons (pus_own (i := 1) sc_law_more_kinds.nd pa_nil')
    (pus_cons (pus_if (pt_val' (pu_isC TC 8 rfl hp T.b_isinstance (pu_var 0))) (pus_one (pus_app (i := 1) (pu_tup (pa_cons' pu_str (pa_cons' (pu_callB (call_reprQ hg (hu65H hr)) rb_repr T.b_repr (by decide +kernel) (pa_cons' (pu_fldC TC hp (pu_var 0)) pa_nil')) pa_nil'))))) pus_nil)
    (pus_cons (pus_if (pt_val' (pu_isC TC 9 rfl hp T.b_isinstance (pu_var 0))) (pus_one (pus_app (i := 1) (pu_tup (pa_cons' pu_str (pa_cons' (pu_callB (call_reprQ hg (hu65H hr)) rb_repr T.b_repr (by decide +kernel) (pa_cons' (pu_fldC TC hp (pu_var 0)) pa_nil')) pa_nil'))))) pus_nil)
    (pus_cons (pus_if (pt_val' (pu_isC TC 10 rfl hp T.b_isinstance (pu_var 0))) (pus_one (pus_app (i := 1) (pu_tup (pa_cons' pu_str (pa_cons' (pu_fldC TC hp (pu_var 0)) pa_nil'))))) pus_nil)
    (pus_cons (pus_if (pt_val' (pu_isC TC 11 rfl hp T.b_isinstance (pu_var 0))) (pus_one (pus_app (i := 1) (pu_tup (pa_cons' pu_str (pa_cons' (pu_fldC TC hp (pu_var 0)) pa_nil'))))) pus_nil)
    (pus_cons (pus_if (pt_val' (pu_isC TC 12 rfl hp T.b_isinstance (pu_var 0))) (pus_one (pus_app (i := 1) (pu_tup (pa_cons' pu_str (pa_cons' (pu_fldC TC hp (pu_var 0)) (pa_cons' (pu_fldC TC hp (pu_var 0)) (pa_cons' (pu_fldC TC hp (pu_var 0)) pa_nil'))))))) pus_nil)
    (pus_cons (pus_if (pt_val' (pu_isC TC 13 rfl hp T.b_isinstance (pu_var 0))) (pus_one (pus_app (i := 1) (pu_tup (pa_cons' pu_str (pa_cons' (pu_fldC TC hp (pu_var 0)) (pa_cons' (pu_fldC TC hp (pu_var 0)) pa_nil')))))) pus_nil)
    (pus_cons (pus_if (pt_val' (pu_isC TC 14 rfl hp T.b_isinstance (pu_var 0))) (pus_one (pus_app (i := 1) (pu_tupK (pa_consK pu_str pa_nilK)))) pus_nil)
    (pus_cons (pus_if (pt_val' (pu_isC TC 15 rfl hp T.b_isinstance (pu_var 0))) (pus_one (pus_app (i := 1) (pu_tupK (pa_consK pu_str pa_nilK)))) pus_nil)
    (pus_show 1 (pus_one (pus_ret (pu_var 1))))))))))))), fun ss R EX hl h => ?_⟩)
  obtain ⟨k, vals, rfl, hk, hv, ho, h⟩ := h
  have hk2 : k < 8 ∨ k = 8 ∨ k = 9 ∨ k = 10 ∨ k = 11 ∨ k = 12 ∨ k = 13 ∨ k = 14 ∨ k = 15 := by omega
  rcases hk2 with hk2 | rfl | rfl | rfl | rfl | rfl | rfl | rfl | rfl
  · rw [if_neg (by omega)] at h
    have kc : okC tab Cs (Cs k) := ⟨k, hk, rfl⟩
    have n8 : (Cs k = Cs 8) = False := ce_ne TC k 8 (by omega) hk
    have n9 : (Cs k = Cs 9) = False := ce_ne TC k 9 (by omega) hk
    have n10 : (Cs k = Cs 10) = False := ce_ne TC k 10 (by omega) hk
    have n11 : (Cs k = Cs 11) = False := ce_ne TC k 11 (by omega) hk
    have n12 : (Cs k = Cs 12) = False := ce_ne TC k 12 (by omega) hk
    have n13 : (Cs k = Cs 13) = False := ce_ne TC k 13 (by omega) hk
    have n14 : (Cs k = Cs 14) = False := ce_ne TC k 14 (by omega) hk
    have n15 : (Cs k = Cs 15) = False := ce_ne TC k 15 (by omega) hk
    refine own_step ?_
    refine if_skip rfl kc (dno n8) ?_
    refine if_skip rfl kc (dno n9) ?_
    refine if_skip rfl kc (dno n10) ?_
    refine if_skip rfl kc (dno n11) ?_
    refine if_skip rfl kc (dno n12) ?_
    refine if_skip rfl kc (dno n13) ?_
    refine if_skip rfl kc (dno n14) ?_
    refine if_skip rfl kc (dno n15) ?_
    exact h
  · -- NoName
    obtain ⟨a, rfl⟩ := List.length_eq_one_iff.mp hv
    have o_a := ho a (by simp)
    have kc : okC tab Cs (Cs 8) := ⟨8, by decide, rfl⟩
    have kf_name : okF tab Cs "name" (Cs 8) := ⟨8, _, _, rfl, by decide, rfl⟩
    have lk_name : List.lookup ("name" : Str) (fdOf 8 [a]) = some a := rfl
    have n9 : (Cs 8 = Cs 9) = False := ce_ne TC 8 9
    have n10 : (Cs 8 = Cs 10) = False := ce_ne TC 8 10
    have n11 : (Cs 8 = Cs 11) = False := ce_ne TC 8 11
    have n12 : (Cs 8 = Cs 12) = False := ce_ne TC 8 12
    have n13 : (Cs 8 = Cs 13) = False := ce_ne TC 8 13
    have n14 : (Cs 8 = Cs 14) = False := ce_ne TC 8 14
    have n15 : (Cs 8 = Cs 15) = False := ce_ne TC 8 15
    refine own_step ?_
    refine if_app (dueP 8 [a]) rfl kc (decide_eq_true rfl) rfl (by decide) (fun R E hR => ?_) ?_
    · clear ho hv hk hl F hr hg hp T h
      walk_at "pvh"
      exact hR
    refine if_skip (b := fun C => decide (C = Cs 9)) rfl kc (dno n9) ?_
    refine if_skip (b := fun C => decide (C = Cs 10)) rfl kc (dno n10) ?_
    refine if_skip (b := fun C => decide (C = Cs 11)) rfl kc (dno n11) ?_
    refine if_skip (b := fun C => decide (C = Cs 12)) rfl kc (dno n12) ?_
    refine if_skip (b := fun C => decide (C = Cs 13)) rfl kc (dno n13) ?_
    refine if_skip (b := fun C => decide (C = Cs 14)) rfl kc (dno n14) ?_
    refine if_skip (b := fun C => decide (C = Cs 15)) rfl kc (dno n15) ?_
    exact h
  · -- TakenName
    obtain ⟨a, rfl⟩ := List.length_eq_one_iff.mp hv
    have o_a := ho a (by simp)
    have kc : okC tab Cs (Cs 9) := ⟨9, by decide, rfl⟩
    have kf_name : okF tab Cs "name" (Cs 9) := ⟨9, _, _, rfl, by decide, rfl⟩
    have lk_name : List.lookup ("name" : Str) (fdOf 9 [a]) = some a := rfl
    have n8 : (Cs 9 = Cs 8) = False := ce_ne TC 9 8
    have n10 : (Cs 9 = Cs 10) = False := ce_ne TC 9 10
    have n11 : (Cs 9 = Cs 11) = False := ce_ne TC 9 11
    have n12 : (Cs 9 = Cs 12) = False := ce_ne TC 9 12
    have n13 : (Cs 9 = Cs 13) = False := ce_ne TC 9 13
    have n14 : (Cs 9 = Cs 14) = False := ce_ne TC 9 14
    have n15 : (Cs 9 = Cs 15) = False := ce_ne TC 9 15
    refine own_step ?_
    refine if_skip (b := fun C => decide (C = Cs 8)) rfl kc (dno n8) ?_
    refine if_app (dueP 9 [a]) rfl kc (decide_eq_true rfl) rfl (by decide) (fun R E hR => ?_) ?_
    · clear ho hv hk hl F hr hg hp T h
      walk_at "pvh"
      exact hR
    refine if_skip (b := fun C => decide (C = Cs 10)) rfl kc (dno n10) ?_
    refine if_skip (b := fun C => decide (C = Cs 11)) rfl kc (dno n11) ?_
    refine if_skip (b := fun C => decide (C = Cs 12)) rfl kc (dno n12) ?_
    refine if_skip (b := fun C => decide (C = Cs 13)) rfl kc (dno n13) ?_
    refine if_skip (b := fun C => decide (C = Cs 14)) rfl kc (dno n14) ?_
    refine if_skip (b := fun C => decide (C = Cs 15)) rfl kc (dno n15) ?_
    exact h
  · -- Unlike
    obtain ⟨a, rfl⟩ := List.length_eq_one_iff.mp hv
    have o_a := ho a (by simp)
    have kc : okC tab Cs (Cs 10) := ⟨10, by decide, rfl⟩
    have kf_what : okF tab Cs "what" (Cs 10) := ⟨10, _, _, rfl, by decide, rfl⟩
    have lk_what : List.lookup ("what" : Str) (fdOf 10 [a]) = some a := rfl
    have n8 : (Cs 10 = Cs 8) = False := ce_ne TC 10 8
    have n9 : (Cs 10 = Cs 9) = False := ce_ne TC 10 9
    have n11 : (Cs 10 = Cs 11) = False := ce_ne TC 10 11
    have n12 : (Cs 10 = Cs 12) = False := ce_ne TC 10 12
    have n13 : (Cs 10 = Cs 13) = False := ce_ne TC 10 13
    have n14 : (Cs 10 = Cs 14) = False := ce_ne TC 10 14
    have n15 : (Cs 10 = Cs 15) = False := ce_ne TC 10 15
    refine own_step ?_
    refine if_skip (b := fun C => decide (C = Cs 8)) rfl kc (dno n8) ?_
    refine if_skip (b := fun C => decide (C = Cs 9)) rfl kc (dno n9) ?_
    refine if_app (dueP 10 [a]) rfl kc (decide_eq_true rfl) rfl (by decide) (fun R E hR => ?_) ?_
    · clear ho hv hk hl F hr hg hp T h
      walk_at "pvh"
      exact hR
    refine if_skip (b := fun C => decide (C = Cs 11)) rfl kc (dno n11) ?_
    refine if_skip (b := fun C => decide (C = Cs 12)) rfl kc (dno n12) ?_
    refine if_skip (b := fun C => decide (C = Cs 13)) rfl kc (dno n13) ?_
    refine if_skip (b := fun C => decide (C = Cs 14)) rfl kc (dno n14) ?_
    refine if_skip (b := fun C => decide (C = Cs 15)) rfl kc (dno n15) ?_
    exact h
  · -- NotThere
    obtain ⟨a, rfl⟩ := List.length_eq_one_iff.mp hv
    have o_a := ho a (by simp)
    have kc : okC tab Cs (Cs 11) := ⟨11, by decide, rfl⟩
    have kf_paper : okF tab Cs "paper" (Cs 11) := ⟨11, _, _, rfl, by decide, rfl⟩
    have lk_paper : List.lookup ("paper" : Str) (fdOf 11 [a]) = some a := rfl
    have n8 : (Cs 11 = Cs 8) = False := ce_ne TC 11 8
    have n9 : (Cs 11 = Cs 9) = False := ce_ne TC 11 9
    have n10 : (Cs 11 = Cs 10) = False := ce_ne TC 11 10
    have n12 : (Cs 11 = Cs 12) = False := ce_ne TC 11 12
    have n13 : (Cs 11 = Cs 13) = False := ce_ne TC 11 13
    have n14 : (Cs 11 = Cs 14) = False := ce_ne TC 11 14
    have n15 : (Cs 11 = Cs 15) = False := ce_ne TC 11 15
    refine own_step ?_
    refine if_skip (b := fun C => decide (C = Cs 8)) rfl kc (dno n8) ?_
    refine if_skip (b := fun C => decide (C = Cs 9)) rfl kc (dno n9) ?_
    refine if_skip (b := fun C => decide (C = Cs 10)) rfl kc (dno n10) ?_
    refine if_app (dueP 11 [a]) rfl kc (decide_eq_true rfl) rfl (by decide) (fun R E hR => ?_) ?_
    · clear ho hv hk hl F hr hg hp T h
      walk_at "pvh"
      exact hR
    refine if_skip (b := fun C => decide (C = Cs 12)) rfl kc (dno n12) ?_
    refine if_skip (b := fun C => decide (C = Cs 13)) rfl kc (dno n13) ?_
    refine if_skip (b := fun C => decide (C = Cs 14)) rfl kc (dno n14) ?_
    refine if_skip (b := fun C => decide (C = Cs 15)) rfl kc (dno n15) ?_
    exact h
  · -- TooMany
    obtain ⟨a, b, d, rfl⟩ : ∃ a b d, vals = [a, b, d] := by match vals, hv with | [a, b, d], _ => exact ⟨a, b, d, rfl⟩
    have o_a := ho a (by simp)
    have o_b := ho b (by simp)
    have o_d := ho d (by simp)
    have kc : okC tab Cs (Cs 12) := ⟨12, by decide, rfl⟩
    have kf_what : okF tab Cs "what" (Cs 12) := ⟨12, _, _, rfl, by decide, rfl⟩
    have lk_what : List.lookup ("what" : Str) (fdOf 12 [a, b, d]) = some a := rfl
    have kf_many : okF tab Cs "many" (Cs 12) := ⟨12, _, _, rfl, by decide, rfl⟩
    have lk_many : List.lookup ("many" : Str) (fdOf 12 [a, b, d]) = some b := rfl
    have kf_limit : okF tab Cs "limit" (Cs 12) := ⟨12, _, _, rfl, by decide, rfl⟩
    have lk_limit : List.lookup ("limit" : Str) (fdOf 12 [a, b, d]) = some d := rfl
    have n8 : (Cs 12 = Cs 8) = False := ce_ne TC 12 8
    have n9 : (Cs 12 = Cs 9) = False := ce_ne TC 12 9
    have n10 : (Cs 12 = Cs 10) = False := ce_ne TC 12 10
    have n11 : (Cs 12 = Cs 11) = False := ce_ne TC 12 11
    have n13 : (Cs 12 = Cs 13) = False := ce_ne TC 12 13
    have n14 : (Cs 12 = Cs 14) = False := ce_ne TC 12 14
    have n15 : (Cs 12 = Cs 15) = False := ce_ne TC 12 15
    refine own_step ?_
    refine if_skip (b := fun C => decide (C = Cs 8)) rfl kc (dno n8) ?_
    refine if_skip (b := fun C => decide (C = Cs 9)) rfl kc (dno n9) ?_
    refine if_skip (b := fun C => decide (C = Cs 10)) rfl kc (dno n10) ?_
    refine if_skip (b := fun C => decide (C = Cs 11)) rfl kc (dno n11) ?_
    refine if_app (dueP 12 [a, b, d]) rfl kc (decide_eq_true rfl) rfl (by decide) (fun R E hR => ?_) ?_
    · clear ho hv hk hl F hr hg hp T h
      walk_at "pvh"
      exact hR
    refine if_skip (b := fun C => decide (C = Cs 13)) rfl kc (dno n13) ?_
    refine if_skip (b := fun C => decide (C = Cs 14)) rfl kc (dno n14) ?_
    refine if_skip (b := fun C => decide (C = Cs 15)) rfl kc (dno n15) ?_
    exact h
  · -- NotKept
    obtain ⟨a, b, rfl⟩ : ∃ a b, vals = [a, b] := by match vals, hv with | [a, b], _ => exact ⟨a, b, rfl⟩
    have o_a := ho a (by simp)
    have o_b := ho b (by simp)
    have kc : okC tab Cs (Cs 13) := ⟨13, by decide, rfl⟩
    have kf_promise : okF tab Cs "promise" (Cs 13) := ⟨13, _, _, rfl, by decide, rfl⟩
    have lk_promise : List.lookup ("promise" : Str) (fdOf 13 [a, b]) = some a := rfl
    have kf_witness : okF tab Cs "witness" (Cs 13) := ⟨13, _, _, rfl, by decide, rfl⟩
    have lk_witness : List.lookup ("witness" : Str) (fdOf 13 [a, b]) = some b := rfl
    have n8 : (Cs 13 = Cs 8) = False := ce_ne TC 13 8
    have n9 : (Cs 13 = Cs 9) = False := ce_ne TC 13 9
    have n10 : (Cs 13 = Cs 10) = False := ce_ne TC 13 10
    have n11 : (Cs 13 = Cs 11) = False := ce_ne TC 13 11
    have n12 : (Cs 13 = Cs 12) = False := ce_ne TC 13 12
    have n14 : (Cs 13 = Cs 14) = False := ce_ne TC 13 14
    have n15 : (Cs 13 = Cs 15) = False := ce_ne TC 13 15
    refine own_step ?_
    refine if_skip (b := fun C => decide (C = Cs 8)) rfl kc (dno n8) ?_
    refine if_skip (b := fun C => decide (C = Cs 9)) rfl kc (dno n9) ?_
    refine if_skip (b := fun C => decide (C = Cs 10)) rfl kc (dno n10) ?_
    refine if_skip (b := fun C => decide (C = Cs 11)) rfl kc (dno n11) ?_
    refine if_skip (b := fun C => decide (C = Cs 12)) rfl kc (dno n12) ?_
    refine if_app (dueP 13 [a, b]) rfl kc (decide_eq_true rfl) rfl (by decide) (fun R E hR => ?_) ?_
    · clear ho hv hk hl F hr hg hp T h
      walk_at "pvh"
      exact hR
    refine if_skip (b := fun C => decide (C = Cs 14)) rfl kc (dno n14) ?_
    refine if_skip (b := fun C => decide (C = Cs 15)) rfl kc (dno n15) ?_
    exact h
  · -- NothingToUndo
    obtain rfl : vals = [] := List.length_eq_zero_iff.mp hv
    have kc : okC tab Cs (Cs 14) := ⟨14, by decide, rfl⟩
    have n8 : (Cs 14 = Cs 8) = False := ce_ne TC 14 8
    have n9 : (Cs 14 = Cs 9) = False := ce_ne TC 14 9
    have n10 : (Cs 14 = Cs 10) = False := ce_ne TC 14 10
    have n11 : (Cs 14 = Cs 11) = False := ce_ne TC 14 11
    have n12 : (Cs 14 = Cs 12) = False := ce_ne TC 14 12
    have n13 : (Cs 14 = Cs 13) = False := ce_ne TC 14 13
    have n15 : (Cs 14 = Cs 15) = False := ce_ne TC 14 15
    refine own_step ?_
    refine if_skip (b := fun C => decide (C = Cs 8)) rfl kc (dno n8) ?_
    refine if_skip (b := fun C => decide (C = Cs 9)) rfl kc (dno n9) ?_
    refine if_skip (b := fun C => decide (C = Cs 10)) rfl kc (dno n10) ?_
    refine if_skip (b := fun C => decide (C = Cs 11)) rfl kc (dno n11) ?_
    refine if_skip (b := fun C => decide (C = Cs 12)) rfl kc (dno n12) ?_
    refine if_skip (b := fun C => decide (C = Cs 13)) rfl kc (dno n13) ?_
    refine if_app (dueP 14 []) rfl kc (decide_eq_true rfl) rfl (by decide) (fun R E hR => ?_) ?_
    · clear ho hv hk hl F hr hg hp T h
      walk_at "pvh"
      exact hR
    refine if_skip (b := fun C => decide (C = Cs 15)) rfl kc (dno n15) ?_
    exact h
  · -- NothingToRedo
    obtain rfl : vals = [] := List.length_eq_zero_iff.mp hv
    have kc : okC tab Cs (Cs 15) := ⟨15, by decide, rfl⟩
    have n8 : (Cs 15 = Cs 8) = False := ce_ne TC 15 8
    have n9 : (Cs 15 = Cs 9) = False := ce_ne TC 15 9
    have n10 : (Cs 15 = Cs 10) = False := ce_ne TC 15 10
    have n11 : (Cs 15 = Cs 11) = False := ce_ne TC 15 11
    have n12 : (Cs 15 = Cs 12) = False := ce_ne TC 15 12
    have n13 : (Cs 15 = Cs 13) = False := ce_ne TC 15 13
    have n14 : (Cs 15 = Cs 14) = False := ce_ne TC 15 14
    refine own_step ?_
    refine if_skip (b := fun C => decide (C = Cs 8)) rfl kc (dno n8) ?_
    refine if_skip (b := fun C => decide (C = Cs 9)) rfl kc (dno n9) ?_
    refine if_skip (b := fun C => decide (C = Cs 10)) rfl kc (dno n10) ?_
    refine if_skip (b := fun C => decide (C = Cs 11)) rfl kc (dno n11) ?_
    refine if_skip (b := fun C => decide (C = Cs 12)) rfl kc (dno n12) ?_
    refine if_skip (b := fun C => decide (C = Cs 13)) rfl kc (dno n13) ?_
    refine if_skip (b := fun C => decide (C = Cs 14)) rfl kc (dno n14) ?_
    refine if_app (dueP 15 []) rfl kc (decide_eq_true rfl) rfl (by decide) (fun R E hR => ?_) ?_
    · clear ho hv hk hl F hr hg hp T h
      walk_at "pvh"
      exact hR
    exact h

theorem d_law_kinds (F : Has K mg "_law_kinds" s_law_kinds) (T : Blt mg) (TC : Tc K mg S tab Cs) (D_law_more_kinds : KpE P w K mg base c 1 "_law_more_kinds" ["e"] (spMoreP Cs)) : KpE P w K mg base c 2 "_law_kinds" ["e"] (spKindsP Cs) := by
  refine keepEP F (fun _ _ _ _ _ _ us hl => match us, hl with | [_], _ => rfl) sc_law_kinds (fun f cdv A outer s H E p hr hg hp => ⟨_, (pus_cons (pus_own (i := 1) sc_law_kinds.nd pa_nil')
    (pus_cons (pus_if (pt_val' (pu_isC TC 0 rfl hp T.b_isinstance (pu_var 0))) (pus_one (pus_app (i := 1) (pu_tup (pa_cons' pu_str (pa_cons' (pu_fldC TC hp (pu_var 0)) (pa_cons' (pu_callB (call_reprQ hg (hu65H hr)) rb_repr T.b_repr (by decide +kernel) (pa_cons' (pu_fldC TC hp (pu_var 0)) pa_nil')) pa_nil')))))) pus_nil)
    (pus_cons (pus_if (pt_val' (pu_isC TC 1 rfl hp T.b_isinstance (pu_var 0))) (pus_one (pus_app (i := 1) (pu_tup (pa_cons' pu_str (pa_cons' (pu_fldC TC hp (pu_var 0)) (pa_cons' (pu_callB (call_reprQ hg (hu65H hr)) rb_repr T.b_repr (by decide +kernel) (pa_cons' (pu_fldC TC hp (pu_var 0)) pa_nil')) pa_nil')))))) pus_nil)
    (pus_cons (pus_if (pt_val' (pu_isC TC 2 rfl hp T.b_isinstance (pu_var 0))) (pus_one (pus_app (i := 1) (pu_tup (pa_cons' pu_str (pa_cons' (pu_fldC TC hp (pu_var 0)) pa_nil'))))) pus_nil)
    (pus_cons (pus_if (pt_val' (pu_isC TC 3 rfl hp T.b_isinstance (pu_var 0))) (pus_one (pus_app (i := 1) (pu_tup (pa_cons' pu_str (pa_cons' (pu_fldC TC hp (pu_var 0)) pa_nil'))))) pus_nil)
    (pus_cons (pus_if (pt_val' (pu_isC TC 4 rfl hp T.b_isinstance (pu_var 0))) (pus_one (pus_app (i := 1) (pu_tup (pa_cons' pu_str (pa_cons' (pu_fldC TC hp (pu_var 0)) pa_nil'))))) pus_nil)
    (pus_cons (pus_if (pt_val' (pu_isC TC 5 rfl hp T.b_isinstance (pu_var 0))) (pus_one (pus_app (i := 1) (pu_tup (pa_cons' pu_str (pa_cons' (pu_callB (call_reprQ hg (hu65H hr)) rb_repr T.b_repr (by decide +kernel) (pa_cons' (pu_fldC TC hp (pu_var 0)) pa_nil')) pa_nil'))))) pus_nil)
    (pus_cons (pus_if (pt_val' (pu_isC TC 6 rfl hp T.b_isinstance (pu_var 0))) (pus_one (pus_app (i := 1) (pu_tup (pa_cons' pu_str (pa_cons' (pu_fldC TC hp (pu_var 0)) (pa_cons' (pu_fldC TC hp (pu_var 0)) pa_nil')))))) pus_nil)
    (pus_cons (pus_if (pt_val' (pu_isC TC 7 rfl hp T.b_isinstance (pu_var 0))) (pus_one (pus_app (i := 1) (pu_tup (pa_cons' pu_str (pa_cons' (pu_fldC TC hp (pu_var 0)) (pa_cons' (pu_callB (call_reprQ hg (hu65H hr)) rb_repr T.b_repr (by decide +kernel) (pa_cons' (pu_fldC TC hp (pu_var 0)) pa_nil')) pa_nil')))))) pus_nil)
    (pus_show 1 (pus_one (pus_ret (pu_op op_addU ro_add (pu_var 1) (pu_callE D_law_more_kinds hr hg hp (pa_cons' (pu_var 0) pa_nil'))))))))))))))), fun ss R EX hl h => ?_⟩)
  obtain ⟨k, vals, rfl, hk, hv, ho, h⟩ := h
  have more : Hid (∀ (R' : Sl → Prop), R' (.d (.list (if 8 ≤ k then [dueP k vals] else []))) → spMoreP Cs p [.exc p (Cs k) (fdOf k vals)] R' (fun _ _ => False)) := fun R' h' => ⟨k, vals, rfl, hk, hv, ho, h'⟩
  have hk2 : 8 ≤ k ∨ k = 0 ∨ k = 1 ∨ k = 2 ∨ k = 3 ∨ k = 4 ∨ k = 5 ∨ k = 6 ∨ k = 7 := by omega
  rcases hk2 with hk2 | rfl | rfl | rfl | rfl | rfl | rfl | rfl | rfl
  · have kc : okC tab Cs (Cs k) := ⟨k, hk, rfl⟩
    have n0 : (Cs k = Cs 0) = False := ce_ne TC k 0 (by omega) hk
    have n1 : (Cs k = Cs 1) = False := ce_ne TC k 1 (by omega) hk
    have n2 : (Cs k = Cs 2) = False := ce_ne TC k 2 (by omega) hk
    have n3 : (Cs k = Cs 3) = False := ce_ne TC k 3 (by omega) hk
    have n4 : (Cs k = Cs 4) = False := ce_ne TC k 4 (by omega) hk
    have n5 : (Cs k = Cs 5) = False := ce_ne TC k 5 (by omega) hk
    have n6 : (Cs k = Cs 6) = False := ce_ne TC k 6 (by omega) hk
    have n7 : (Cs k = Cs 7) = False := ce_ne TC k 7 (by omega) hk
    refine own_step ?_
    refine if_skip rfl kc (dno n0) ?_
    refine if_skip rfl kc (dno n1) ?_
    refine if_skip rfl kc (dno n2) ?_
    refine if_skip rfl kc (dno n3) ?_
    refine if_skip rfl kc (dno n4) ?_
    refine if_skip rfl kc (dno n5) ?_
    refine if_skip rfl kc (dno n6) ?_
    refine if_skip rfl kc (dno n7) ?_
    walk_at "pv"
    refine more.get _ ?_
    rw [if_pos hk2]
    walk_at "pv"
    exact h
  · -- BadNumber
    obtain ⟨a, b, rfl⟩ : ∃ a b, vals = [a, b] := by match vals, hv with | [a, b], _ => exact ⟨a, b, rfl⟩
    have o_a := ho a (by simp)
    have o_b := ho b (by simp)
    have kc : okC tab Cs (Cs 0) := ⟨0, by decide, rfl⟩
    have kf_what : okF tab Cs "what" (Cs 0) := ⟨0, _, _, rfl, by decide, rfl⟩
    have lk_what : List.lookup ("what" : Str) (fdOf 0 [a, b]) = some a := rfl
    have kf_number : okF tab Cs "number" (Cs 0) := ⟨0, _, _, rfl, by decide, rfl⟩
    have lk_number : List.lookup ("number" : Str) (fdOf 0 [a, b]) = some b := rfl
    have n1 : (Cs 0 = Cs 1) = False := ce_ne TC 0 1
    have n2 : (Cs 0 = Cs 2) = False := ce_ne TC 0 2
    have n3 : (Cs 0 = Cs 3) = False := ce_ne TC 0 3
    have n4 : (Cs 0 = Cs 4) = False := ce_ne TC 0 4
    have n5 : (Cs 0 = Cs 5) = False := ce_ne TC 0 5
    have n6 : (Cs 0 = Cs 6) = False := ce_ne TC 0 6
    have n7 : (Cs 0 = Cs 7) = False := ce_ne TC 0 7
    refine own_step ?_
    refine if_app (dueP 0 [a, b]) rfl kc (decide_eq_true rfl) rfl (by decide) (fun R E hR => ?_) ?_
    · clear more ho hv hk hl F hr hg hp T h
      walk_at "pvh"
      exact hR
    refine if_skip (b := fun C => decide (C = Cs 1)) rfl kc (dno n1) ?_
    refine if_skip (b := fun C => decide (C = Cs 2)) rfl kc (dno n2) ?_
    refine if_skip (b := fun C => decide (C = Cs 3)) rfl kc (dno n3) ?_
    refine if_skip (b := fun C => decide (C = Cs 4)) rfl kc (dno n4) ?_
    refine if_skip (b := fun C => decide (C = Cs 5)) rfl kc (dno n5) ?_
    refine if_skip (b := fun C => decide (C = Cs 6)) rfl kc (dno n6) ?_
    refine if_skip (b := fun C => decide (C = Cs 7)) rfl kc (dno n7) ?_
    walk_at "pv"
    refine more.get _ ?_
    exact ⟨(by show 1 + 0 ≤ 1000000; decide), h⟩
  · -- BadRow
    obtain ⟨a, b, rfl⟩ : ∃ a b, vals = [a, b] := by match vals, hv with | [a, b], _ => exact ⟨a, b, rfl⟩
    have o_a := ho a (by simp)
    have o_b := ho b (by simp)
    have kc : okC tab Cs (Cs 1) := ⟨1, by decide, rfl⟩
    have kf_what : okF tab Cs "what" (Cs 1) := ⟨1, _, _, rfl, by decide, rfl⟩
    have lk_what : List.lookup ("what" : Str) (fdOf 1 [a, b]) = some a := rfl
    have kf_row : okF tab Cs "row" (Cs 1) := ⟨1, _, _, rfl, by decide, rfl⟩
    have lk_row : List.lookup ("row" : Str) (fdOf 1 [a, b]) = some b := rfl
    have n0 : (Cs 1 = Cs 0) = False := ce_ne TC 1 0
    have n2 : (Cs 1 = Cs 2) = False := ce_ne TC 1 2
    have n3 : (Cs 1 = Cs 3) = False := ce_ne TC 1 3
    have n4 : (Cs 1 = Cs 4) = False := ce_ne TC 1 4
    have n5 : (Cs 1 = Cs 5) = False := ce_ne TC 1 5
    have n6 : (Cs 1 = Cs 6) = False := ce_ne TC 1 6
    have n7 : (Cs 1 = Cs 7) = False := ce_ne TC 1 7
    refine own_step ?_
    refine if_skip (b := fun C => decide (C = Cs 0)) rfl kc (dno n0) ?_
    refine if_app (dueP 1 [a, b]) rfl kc (decide_eq_true rfl) rfl (by decide) (fun R E hR => ?_) ?_
    · clear more ho hv hk hl F hr hg hp T h
      walk_at "pvh"
      exact hR
    refine if_skip (b := fun C => decide (C = Cs 2)) rfl kc (dno n2) ?_
    refine if_skip (b := fun C => decide (C = Cs 3)) rfl kc (dno n3) ?_
    refine if_skip (b := fun C => decide (C = Cs 4)) rfl kc (dno n4) ?_
    refine if_skip (b := fun C => decide (C = Cs 5)) rfl kc (dno n5) ?_
    refine if_skip (b := fun C => decide (C = Cs 6)) rfl kc (dno n6) ?_
    refine if_skip (b := fun C => decide (C = Cs 7)) rfl kc (dno n7) ?_
    walk_at "pv"
    refine more.get _ ?_
    exact ⟨(by show 1 + 0 ≤ 1000000; decide), h⟩
  · -- BadTable
    obtain ⟨a, rfl⟩ := List.length_eq_one_iff.mp hv
    have o_a := ho a (by simp)
    have kc : okC tab Cs (Cs 2) := ⟨2, by decide, rfl⟩
    have kf_what : okF tab Cs "what" (Cs 2) := ⟨2, _, _, rfl, by decide, rfl⟩
    have lk_what : List.lookup ("what" : Str) (fdOf 2 [a]) = some a := rfl
    have n0 : (Cs 2 = Cs 0) = False := ce_ne TC 2 0
    have n1 : (Cs 2 = Cs 1) = False := ce_ne TC 2 1
    have n3 : (Cs 2 = Cs 3) = False := ce_ne TC 2 3
    have n4 : (Cs 2 = Cs 4) = False := ce_ne TC 2 4
    have n5 : (Cs 2 = Cs 5) = False := ce_ne TC 2 5
    have n6 : (Cs 2 = Cs 6) = False := ce_ne TC 2 6
    have n7 : (Cs 2 = Cs 7) = False := ce_ne TC 2 7
    refine own_step ?_
    refine if_skip (b := fun C => decide (C = Cs 0)) rfl kc (dno n0) ?_
    refine if_skip (b := fun C => decide (C = Cs 1)) rfl kc (dno n1) ?_
    refine if_app (dueP 2 [a]) rfl kc (decide_eq_true rfl) rfl (by decide) (fun R E hR => ?_) ?_
    · clear more ho hv hk hl F hr hg hp T h
      walk_at "pvh"
      exact hR
    refine if_skip (b := fun C => decide (C = Cs 3)) rfl kc (dno n3) ?_
    refine if_skip (b := fun C => decide (C = Cs 4)) rfl kc (dno n4) ?_
    refine if_skip (b := fun C => decide (C = Cs 5)) rfl kc (dno n5) ?_
    refine if_skip (b := fun C => decide (C = Cs 6)) rfl kc (dno n6) ?_
    refine if_skip (b := fun C => decide (C = Cs 7)) rfl kc (dno n7) ?_
    walk_at "pv"
    refine more.get _ ?_
    exact ⟨(by show 1 + 0 ≤ 1000000; decide), h⟩
  · -- BadTree
    obtain ⟨a, rfl⟩ := List.length_eq_one_iff.mp hv
    have o_a := ho a (by simp)
    have kc : okC tab Cs (Cs 3) := ⟨3, by decide, rfl⟩
    have kf_what : okF tab Cs "what" (Cs 3) := ⟨3, _, _, rfl, by decide, rfl⟩
    have lk_what : List.lookup ("what" : Str) (fdOf 3 [a]) = some a := rfl
    have n0 : (Cs 3 = Cs 0) = False := ce_ne TC 3 0
    have n1 : (Cs 3 = Cs 1) = False := ce_ne TC 3 1
    have n2 : (Cs 3 = Cs 2) = False := ce_ne TC 3 2
    have n4 : (Cs 3 = Cs 4) = False := ce_ne TC 3 4
    have n5 : (Cs 3 = Cs 5) = False := ce_ne TC 3 5
    have n6 : (Cs 3 = Cs 6) = False := ce_ne TC 3 6
    have n7 : (Cs 3 = Cs 7) = False := ce_ne TC 3 7
    refine own_step ?_
    refine if_skip (b := fun C => decide (C = Cs 0)) rfl kc (dno n0) ?_
    refine if_skip (b := fun C => decide (C = Cs 1)) rfl kc (dno n1) ?_
    refine if_skip (b := fun C => decide (C = Cs 2)) rfl kc (dno n2) ?_
    refine if_app (dueP 3 [a]) rfl kc (decide_eq_true rfl) rfl (by decide) (fun R E hR => ?_) ?_
    · clear more ho hv hk hl F hr hg hp T h
      walk_at "pvh"
      exact hR
    refine if_skip (b := fun C => decide (C = Cs 4)) rfl kc (dno n4) ?_
    refine if_skip (b := fun C => decide (C = Cs 5)) rfl kc (dno n5) ?_
    refine if_skip (b := fun C => decide (C = Cs 6)) rfl kc (dno n6) ?_
    refine if_skip (b := fun C => decide (C = Cs 7)) rfl kc (dno n7) ?_
    walk_at "pv"
    refine more.get _ ?_
    exact ⟨(by show 1 + 0 ≤ 1000000; decide), h⟩
  · -- BadBook
    obtain ⟨a, rfl⟩ := List.length_eq_one_iff.mp hv
    have o_a := ho a (by simp)
    have kc : okC tab Cs (Cs 4) := ⟨4, by decide, rfl⟩
    have kf_what : okF tab Cs "what" (Cs 4) := ⟨4, _, _, rfl, by decide, rfl⟩
    have lk_what : List.lookup ("what" : Str) (fdOf 4 [a]) = some a := rfl
    have n0 : (Cs 4 = Cs 0) = False := ce_ne TC 4 0
    have n1 : (Cs 4 = Cs 1) = False := ce_ne TC 4 1
    have n2 : (Cs 4 = Cs 2) = False := ce_ne TC 4 2
    have n3 : (Cs 4 = Cs 3) = False := ce_ne TC 4 3
    have n5 : (Cs 4 = Cs 5) = False := ce_ne TC 4 5
    have n6 : (Cs 4 = Cs 6) = False := ce_ne TC 4 6
    have n7 : (Cs 4 = Cs 7) = False := ce_ne TC 4 7
    refine own_step ?_
    refine if_skip (b := fun C => decide (C = Cs 0)) rfl kc (dno n0) ?_
    refine if_skip (b := fun C => decide (C = Cs 1)) rfl kc (dno n1) ?_
    refine if_skip (b := fun C => decide (C = Cs 2)) rfl kc (dno n2) ?_
    refine if_skip (b := fun C => decide (C = Cs 3)) rfl kc (dno n3) ?_
    refine if_app (dueP 4 [a]) rfl kc (decide_eq_true rfl) rfl (by decide) (fun R E hR => ?_) ?_
    · clear more ho hv hk hl F hr hg hp T h
      walk_at "pvh"
      exact hR
    refine if_skip (b := fun C => decide (C = Cs 5)) rfl kc (dno n5) ?_
    refine if_skip (b := fun C => decide (C = Cs 6)) rfl kc (dno n6) ?_
    refine if_skip (b := fun C => decide (C = Cs 7)) rfl kc (dno n7) ?_
    walk_at "pv"
    refine more.get _ ?_
    exact ⟨(by show 1 + 0 ≤ 1000000; decide), h⟩
  · -- BadName
    obtain ⟨a, rfl⟩ := List.length_eq_one_iff.mp hv
    have o_a := ho a (by simp)
    have kc : okC tab Cs (Cs 5) := ⟨5, by decide, rfl⟩
    have kf_name : okF tab Cs "name" (Cs 5) := ⟨5, _, _, rfl, by decide, rfl⟩
    have lk_name : List.lookup ("name" : Str) (fdOf 5 [a]) = some a := rfl
    have n0 : (Cs 5 = Cs 0) = False := ce_ne TC 5 0
    have n1 : (Cs 5 = Cs 1) = False := ce_ne TC 5 1
    have n2 : (Cs 5 = Cs 2) = False := ce_ne TC 5 2
    have n3 : (Cs 5 = Cs 3) = False := ce_ne TC 5 3
    have n4 : (Cs 5 = Cs 4) = False := ce_ne TC 5 4
    have n6 : (Cs 5 = Cs 6) = False := ce_ne TC 5 6
    have n7 : (Cs 5 = Cs 7) = False := ce_ne TC 5 7
    refine own_step ?_
    refine if_skip (b := fun C => decide (C = Cs 0)) rfl kc (dno n0) ?_
    refine if_skip (b := fun C => decide (C = Cs 1)) rfl kc (dno n1) ?_
    refine if_skip (b := fun C => decide (C = Cs 2)) rfl kc (dno n2) ?_
    refine if_skip (b := fun C => decide (C = Cs 3)) rfl kc (dno n3) ?_
    refine if_skip (b := fun C => decide (C = Cs 4)) rfl kc (dno n4) ?_
    refine if_app (dueP 5 [a]) rfl kc (decide_eq_true rfl) rfl (by decide) (fun R E hR => ?_) ?_
    · clear more ho hv hk hl F hr hg hp T h
      walk_at "pvh"
      exact hR
    refine if_skip (b := fun C => decide (C = Cs 6)) rfl kc (dno n6) ?_
    refine if_skip (b := fun C => decide (C = Cs 7)) rfl kc (dno n7) ?_
    walk_at "pv"
    refine more.get _ ?_
    exact ⟨(by show 1 + 0 ≤ 1000000; decide), h⟩
  · -- BadText
    obtain ⟨a, b, rfl⟩ : ∃ a b, vals = [a, b] := by match vals, hv with | [a, b], _ => exact ⟨a, b, rfl⟩
    have o_a := ho a (by simp)
    have o_b := ho b (by simp)
    have kc : okC tab Cs (Cs 6) := ⟨6, by decide, rfl⟩
    have kf_line : okF tab Cs "line" (Cs 6) := ⟨6, _, _, rfl, by decide, rfl⟩
    have lk_line : List.lookup ("line" : Str) (fdOf 6 [a, b]) = some a := rfl
    have kf_word : okF tab Cs "word" (Cs 6) := ⟨6, _, _, rfl, by decide, rfl⟩
    have lk_word : List.lookup ("word" : Str) (fdOf 6 [a, b]) = some b := rfl
    have n0 : (Cs 6 = Cs 0) = False := ce_ne TC 6 0
    have n1 : (Cs 6 = Cs 1) = False := ce_ne TC 6 1
    have n2 : (Cs 6 = Cs 2) = False := ce_ne TC 6 2
    have n3 : (Cs 6 = Cs 3) = False := ce_ne TC 6 3
    have n4 : (Cs 6 = Cs 4) = False := ce_ne TC 6 4
    have n5 : (Cs 6 = Cs 5) = False := ce_ne TC 6 5
    have n7 : (Cs 6 = Cs 7) = False := ce_ne TC 6 7
    refine own_step ?_
    refine if_skip (b := fun C => decide (C = Cs 0)) rfl kc (dno n0) ?_
    refine if_skip (b := fun C => decide (C = Cs 1)) rfl kc (dno n1) ?_
    refine if_skip (b := fun C => decide (C = Cs 2)) rfl kc (dno n2) ?_
    refine if_skip (b := fun C => decide (C = Cs 3)) rfl kc (dno n3) ?_
    refine if_skip (b := fun C => decide (C = Cs 4)) rfl kc (dno n4) ?_
    refine if_skip (b := fun C => decide (C = Cs 5)) rfl kc (dno n5) ?_
    refine if_app (dueP 6 [a, b]) rfl kc (decide_eq_true rfl) rfl (by decide) (fun R E hR => ?_) ?_
    · clear more ho hv hk hl F hr hg hp T h
      walk_at "pvh"
      exact hR
    refine if_skip (b := fun C => decide (C = Cs 7)) rfl kc (dno n7) ?_
    walk_at "pv"
    refine more.get _ ?_
    exact ⟨(by show 1 + 0 ≤ 1000000; decide), h⟩
  · -- NoPlace
    obtain ⟨a, b, rfl⟩ : ∃ a b, vals = [a, b] := by match vals, hv with | [a, b], _ => exact ⟨a, b, rfl⟩
    have o_a := ho a (by simp)
    have o_b := ho b (by simp)
    have kc : okC tab Cs (Cs 7) := ⟨7, by decide, rfl⟩
    have kf_what : okF tab Cs "what" (Cs 7) := ⟨7, _, _, rfl, by decide, rfl⟩
    have lk_what : List.lookup ("what" : Str) (fdOf 7 [a, b]) = some a := rfl
    have kf_index : okF tab Cs "index" (Cs 7) := ⟨7, _, _, rfl, by decide, rfl⟩
    have lk_index : List.lookup ("index" : Str) (fdOf 7 [a, b]) = some b := rfl
    have n0 : (Cs 7 = Cs 0) = False := ce_ne TC 7 0
    have n1 : (Cs 7 = Cs 1) = False := ce_ne TC 7 1
    have n2 : (Cs 7 = Cs 2) = False := ce_ne TC 7 2
    have n3 : (Cs 7 = Cs 3) = False := ce_ne TC 7 3
    have n4 : (Cs 7 = Cs 4) = False := ce_ne TC 7 4
    have n5 : (Cs 7 = Cs 5) = False := ce_ne TC 7 5
    have n6 : (Cs 7 = Cs 6) = False := ce_ne TC 7 6
    refine own_step ?_
    refine if_skip (b := fun C => decide (C = Cs 0)) rfl kc (dno n0) ?_
    refine if_skip (b := fun C => decide (C = Cs 1)) rfl kc (dno n1) ?_
    refine if_skip (b := fun C => decide (C = Cs 2)) rfl kc (dno n2) ?_
    refine if_skip (b := fun C => decide (C = Cs 3)) rfl kc (dno n3) ?_
    refine if_skip (b := fun C => decide (C = Cs 4)) rfl kc (dno n4) ?_
    refine if_skip (b := fun C => decide (C = Cs 5)) rfl kc (dno n5) ?_
    refine if_skip (b := fun C => decide (C = Cs 6)) rfl kc (dno n6) ?_
    refine if_app (dueP 7 [a, b]) rfl kc (decide_eq_true rfl) rfl (by decide) (fun R E hR => ?_) ?_
    · clear more ho hv hk hl F hr hg hp T h
      walk_at "pvh"
      exact hR
    walk_at "pv"
    refine more.get _ ?_
    exact ⟨(by show 1 + 0 ≤ 1000000; decide), h⟩

end
end K11
namespace K11
open PySem PySem.Spec PyProof.Rows L2 Lx Px
def okRb (d : PyData) : Bool := d.showable && decide (d.depth ≤ 64) && (!d.hasDict || !hasL d) && decide (d.shown.length ≤ 1000) && plainS d
theorem okR_of {d : PyData} (h : okRb d = true) : OkR d ∧ PyData.strOk d.shown = true := by
  unfold okRb at h
  simp only [Bool.and_eq_true, Bool.or_eq_true, Bool.not_eq_true', decide_eq_true_eq] at h
  obtain ⟨⟨⟨⟨h1, h2⟩, h3⟩, h4⟩, h5⟩ := h
  exact ⟨⟨h1, h2, h3, Nat.le_trans h4 (by decide)⟩, strOk_shown h5⟩
theorem odds_ok : ∀ d ∈ odds, OkR d ∧ PyData.strOk d.shown = true := fun d hd => okR_of (List.all_eq_true.mp (by decide +kernel : odds.all okRb = true) d hd)
theorem menuB_ok : ∀ d ∈ menuB, OkR d ∧ PyData.strOk d.shown = true := fun d hd => okR_of (List.all_eq_true.mp (by decide +kernel : menuB.all okRb = true) d hd)
/-- an item of a bent row -/
structure ItemOk (d : PyData) : Prop where
  sh : d.showable = true
  dp : d.depth ≤ 2
  lv : d.leavesShort 200 = true
  wt : d.weight ≤ 400
  pl : plainS d = true
def itemB (d : PyData) : Bool := d.showable && decide (d.depth ≤ 2) && d.leavesShort 200 && decide (d.weight ≤ 400) && plainS d
theorem item_of {d : PyData} (h : itemB d = true) : ItemOk d := by
  unfold itemB at h
  simp only [Bool.and_eq_true, decide_eq_true_eq] at h
  obtain ⟨⟨⟨⟨h1, h2⟩, h3⟩, h4⟩, h5⟩ := h
  exact ⟨h1, h2, h3, h4, h5⟩
theorem odds_item : ∀ d ∈ odds, ItemOk d := fun d hd => item_of (List.all_eq_true.mp (by decide +kernel : odds.all itemB = true) d hd)
theorem int_ok {i : Int} (h : Bn 145 i) : (PyData.int i).showable = true ∧ (PyData.int i).leavesShort 200 = true ∧ (PyData.int i).weight ≤ 146 := by
  have hl : i.natAbs.log2 < 145 := by
    by_cases z : i.natAbs = 0
    · rw [z]; decide
    · exact (Nat.log2_lt z).mpr h
  refine ⟨?_, ?_, ?_⟩
  · simp only [PyData.showable, decide_eq_true_eq]; omega
  · have e1 := int_text_length_le (k := 145) (by decide) hl
    have e2 : (Str.ofString (toString i)).length ≤ 200 := by rw [PySem.ofString_length]; omega
    exact decide_eq_true (show (PyData.shown (.int i)).length ≤ 200 from e2)
  · simp only [PyData.weight]
    split <;> omega
theorem rat_item {q : Rat} (h : Br 145 q) : ItemOk (ratD q) := by
  obtain ⟨a1, a2, a3⟩ := int_ok h.1
  obtain ⟨b1, b2, b3⟩ := int_ok h.2
  unfold ratD
  split
  · exact ⟨a1, by simp [PyData.depth], a2, by omega, rfl⟩
  · refine ⟨?_, ?_, ?_, ?_, rfl⟩
    · simp [PyData.showable, PyData.showableAll] at a1 b1 ⊢
      exact ⟨a1, b1⟩
    · simp [PyData.depth, PyData.depthAll]
    · simp [PyData.leavesShort, PyData.leavesShortAll] at a2 b2 ⊢
      exact ⟨a2, b2⟩
    · simp only [PyData.weight, PyData.weightAll] at a3 b3 ⊢
      omega
theorem all_items : ∀ {l : List PyData}, (∀ d ∈ l, ItemOk d) → PyData.showableAll l = true ∧ PyData.depthAll l ≤ 2 ∧ PyData.leavesShortAll 200 l = true ∧ PyData.weightAll l ≤ 401 * l.length ∧ plainSs l = true
  | [], _ => ⟨rfl, by simp [PyData.depthAll], rfl, by simp [PyData.weightAll], rfl⟩
  | d :: l, h => by
    obtain ⟨a1, a2, a3, a4, a5⟩ := all_items (l := l) fun x hx => h x (List.mem_cons_of_mem _ hx)
    obtain ⟨b1, b2, b3, b4, b5⟩ := h d List.mem_cons_self
    refine ⟨by simp [PyData.showableAll, a1, b1], by simp only [PyData.depthAll]; omega, by simp [PyData.leavesShortAll, a3, b3], by simp only [PyData.weightAll, List.length_cons]; omega, by simp [plainSs, a5, b5]⟩
theorem row_ok {l : List PyData} (hl : l.length ≤ 5) (h : ∀ d ∈ l, ItemOk d) (nd : PyData.hasDictAll l = false ∨ hasLs l = false) : OkR (.tuple l) ∧ PyData.strOk (PyData.shown (.tuple l)) = true := by
  obtain ⟨a1, a2, a3, a4, a5⟩ := all_items h
  refine ⟨⟨by simpa [PyData.showable] using a1, by simp only [PyData.depth]; omega, nd.imp (fun z => by simpa [PyData.hasDict] using z) fun z => by simpa [hasL] using z, ?_⟩, strOk_shown (by simpa [plainS] using a5)⟩
  have e := PyData.shown_le 200 (by decide) (.tuple l) (by simpa [PyData.leavesShort] using a3)
  have w : PyData.weight (.tuple l) ≤ 401 * 5 := by
    simp only [PyData.weight]
    exact Nat.le_trans a4 (Nat.mul_le_mul_left _ hl)
  have m := Nat.mul_le_mul_left 202 w
  rw [sizeLine_eq]
  omega
theorem hd_rat (q : Rat) : (ratD q).hasDict = false ∧ hasL (ratD q) = false := by
  unfold ratD
  split <;> simp [PyData.hasDict, PyData.hasDictAll, hasL, hasLs]
theorem nd_all : ∀ {l : List PyData}, (∀ d ∈ l, ∃ q, d = ratD q ∧ Br 145 q) → PyData.hasDictAll l = false ∧ hasLs l = false
  | [], _ => ⟨rfl, rfl⟩
  | d :: l, h => by
    obtain ⟨a1, a2⟩ := nd_all (l := l) fun x hx => h x (List.mem_cons_of_mem _ hx)
    obtain ⟨q, rfl, _⟩ := h d List.mem_cons_self
    obtain ⟨b1, b2⟩ := hd_rat q
    exact ⟨by simp [PyData.hasDictAll, a1, b1], by simp [hasLs, a2, b2]⟩
theorem hda_app : ∀ (a b : List PyData), PyData.hasDictAll (a ++ b) = (PyData.hasDictAll a || PyData.hasDictAll b)
  | [], b => by simp [PyData.hasDictAll]
  | x :: a, b => by simp [PyData.hasDictAll, hda_app a b, Bool.or_assoc]
theorem hls_app : ∀ (a b : List PyData), hasLs (a ++ b) = (hasLs a || hasLs b)
  | [], b => by simp [hasLs]
  | x :: a, b => by simp [hasLs, hls_app a b, Bool.or_assoc]
theorem odds_nd : ∀ d ∈ odds, d.hasDict = false ∨ hasL d = false := fun d hd => (odds_ok d hd).1.nd
theorem bent_ok {x : PyData} (h : Bent x) : OkR x ∧ PyData.strOk x.shown = true := by
  rcases h with h | ⟨l, rfl, hl, h | ⟨a, b, o, rfl, ho, ha, hb⟩⟩
  · exact menuB_ok x h
  · exact row_ok hl (fun d hd => by obtain ⟨q, rfl, hq⟩ := h d hd; exact rat_item hq) (.inl (nd_all h).1)
  · refine row_ok hl (fun d hd => ?_) ?_
    · rcases List.mem_append.mp hd with z | z
      · obtain ⟨q, rfl, hq⟩ := ha d z; exact rat_item hq
      · rcases List.mem_cons.mp z with z | z
        · rw [z]; exact odds_item o ho
        · obtain ⟨q, rfl, hq⟩ := hb d z; exact rat_item hq
    · rw [hda_app, hls_app, PyData.hasDictAll, hasLs, (nd_all ha).1, (nd_all ha).2, (nd_all hb).1, (nd_all hb).2]
      simpa using odds_nd o ho
end K11
namespace K11
open PySem PySem.Spec PyProof.Rows L2 Lx Px
local macro_rules | `(tactic| walk_at "pv") => `(tactic| simp only [psSeq, psSet, psPar, psIf, psRet, psDrop, psCont, psNext, psAsg, psFor, psRaise, psOwn, psApp, psShow, uIsP, uFld, pCallE, pdNo, pVar, nth, pC, pOp, pUn, oI, oI0, uI, oAdd, oEq, oEqE, eqv_rat0, List.isEmpty_nil, List.isEmpty_cons, oNe, oIs, oNis, oIx, pNil, pCons, allD, pTup, pLst, pDisp0, bOf, ptB, ptAnd, ptOr, ptNot, pIf, pAndV, pOrV, pNotV, pCalln, pB, bInt, bAbs, bGcd, bLen, bList, bTuple, bRepr, bAll, uIsi, uIsi2, pgName, pgNil, pgCons, pgTup, Px.iR1, Px.iR2, Px.iS, Px.iZip, iZipU, pSl, pNo, pSome, pLc, pYes, noOwn, noOwn1, wipeE, pdOf, startP, List.set, List.map, List.append, List.cons_append, List.nil_append, List.length_cons, List.length_nil, List.replicate, Nat.reduceAdd, Nat.reduceSub, List.getElem?_cons_zero, List.getElem?_cons_succ, isNone, isBool, oSub, oMul, oDiv, oMod, oPow, oLt, oLe, oGt, oGe, at_0, at_1, okE_int, okE_bool, okE_none, okE_rat, eqv_int, eqv_ti, isTy_int_int, isTy_int_tup, isTy_tup_tup, isTy_tup_int, isTy_bool_int, true_and, and_true, beq_iff_eq, decide_eq_true_eq, decide_eq_false_iff_not, beq_eq_false_iff_ne, Bool.not_true, Bool.not_false, Bool.not_eq_true', Bool.not_eq_false', Nat.reduceLeDiff, Option.some.injEq, exists_eq_left', exists_eq_left, forall_const, true_imp_iff, Bool.false_eq_true, Bool.true_eq_false, false_imp_iff, reduceCtorEq])
local macro_rules | `(tactic| walk_at "pvs") => `(tactic| simp [isTy, tyN, at_0, at_1, okE_int, okE_bool, okE_none, eqv_int, oLt, oLe, oGt, oGe, oSub, oMul, oDiv, oMod, oI, oI0])
local macro_rules | `(tactic| walk_at "pvh") => `(tactic| simp only [psSeq, psSet, psPar, psIf, psRet, psDrop, psCont, psNext, psAsg, psFor, psRaise, psOwn, psApp, psShow, uIsP, uFld, pCallE, pdNo, pVar, nth, pC, pOp, pUn, oI, oI0, uI, oAdd, oEq, oEqE, eqv_rat0, List.isEmpty_nil, List.isEmpty_cons, oNe, oIs, oNis, oIx, pNil, pCons, allD, pTup, pLst, pDisp0, bOf, ptB, ptAnd, ptOr, ptNot, pIf, pAndV, pOrV, pNotV, pCalln, pB, bInt, bAbs, bGcd, bLen, bList, bTuple, bRepr, bAll, uIsi, uIsi2, pgName, pgNil, pgCons, pgTup, Px.iR1, Px.iR2, Px.iS, Px.iZip, iZipU, pSl, pNo, pSome, pLc, pYes, noOwn, noOwn1, wipeE, pdOf, startP, List.set, List.map, List.append, List.cons_append, List.nil_append, List.length_cons, List.length_nil, List.replicate, Nat.reduceAdd, Nat.reduceSub, List.getElem?_cons_zero, List.getElem?_cons_succ, isNone, isBool, oSub, oMul, oDiv, oMod, oPow, oLt, oLe, oGt, oGe, at_0, at_1, okE_int, okE_bool, okE_none, okE_rat, eqv_int, eqv_ti, isTy_int_int, isTy_int_tup, isTy_tup_tup, isTy_tup_int, isTy_bool_int, true_and, and_true, beq_iff_eq, decide_eq_true_eq, decide_eq_false_iff_not, beq_eq_false_iff_ne, Bool.not_true, Bool.not_false, Bool.not_eq_true', Bool.not_eq_false', Nat.reduceLeDiff, Option.some.injEq, exists_eq_left', exists_eq_left, forall_const, true_imp_iff, Bool.false_eq_true, Bool.true_eq_false, false_imp_iff, reduceCtorEq, if_true, if_false, not_false_eq_true, not_true_eq_false, *])

abbrev s_law_fault : Stmt := topS 68
theorem sc_law_fault : FnScope ["call", "found", "e"] ["call"] (defScope s_law_fault) := ⟨rfl, rfl, rfl, by decide +kernel, rfl, by decide +kernel, by decide +kernel⟩
theorem roomMk {A : Around} {k : Nat} {v : Option Value} (h : Room k A) : L2H.RoomH k (A.mark v) := ⟨h.dp, h.un⟩
def dueK (Cs : Nat → Addr) : Px.Due := fun C ds r => ∃ (k : Nat) (vals : List PyData), C = Cs k ∧ ds = fdOf k vals ∧ k < 16 ∧ vals.length = ((tab.getD k ("", [])).2).length ∧ (∀ v ∈ vals, OkR v) ∧ r = dueP k vals
def tbF (f c' : Addr) (q : Str) (tl : XK → Hp → VK → Prop) (W : WX) : TS := fun D σ H => ∃ Ech : XK, (∀ cls d σ' H', Ech cls d H' → W cls d σ' H') ∧ σ[0]? = some (some (.ref f)) ∧ H c' = some (LamX.CodeO c' q) ∧ tl Ech H fun _ H' => D.nx σ H'
def tsF (Z : Cx) (suite : List Stmt) : Addr → Value → Option Addr → TS := fun a cls d D σ H => σ.length = Z.N.length → ∀ (oe : Obj) (pn : List (Addr × Obj)), Zc cls d oe → (∃ vs, oe.data = .fields vs) → ∃ t, PSs (Z.suite a ((a, oe) :: pn)) suite t ∧ t D σ H
theorem tbF_ok {Z : Cx} {W : WX} {f c' : Addr} {q a : Str} {tl : XK → Hp → VK → Prop} {p1 p2 p3 : Pos} (h : ∀ (E : XK) (p1 p2 : Pos), (∀ cls d σ' H', E cls d H' → W cls d σ' H') → PE Z (.Call (.Name a p1) [] [] p2) (fun σ H Q => σ[0]? = some (some (.ref f)) ∧ H c' = some (LamX.CodeO c' q) ∧ tl E H Q))
    (hs : swapsWith (.Call (.Name a p1) [] [] p2) none p3.line Z.env = pure false := by rfl) : PSs Z [.Expr (.Call (.Name a p1) [] [] p2) p3] (tbF f c' q tl W) :=
  ⟨fun pins s σ H D I ⟨E, hW, h1, h2, h3⟩ => (pss_one (ps_expr (h E p1 p2 hW) hs)).run pins s σ H D I ⟨h1, h2, h3⟩⟩
theorem tsF_ok {Z : Cx} {suite : List Stmt} {a : Addr} {oe : Obj} {cls : Value} {d : Option Addr} {pn : List (Addr × Obj)} (hz : Zc cls d oe) (hf : ∃ vs, oe.data = .fields vs) (hN : (Z.suite a ((a, oe) :: pn)).N = Z.N) : PSs (Z.suite a ((a, oe) :: pn)) suite (tsF Z suite a cls d) :=
  ⟨fun pins s σ H D I h => let ⟨t, ht, hq⟩ := h (by rw [← hN]; exact I.len) oe pn hz hf; ht.run pins s σ H D I hq⟩
theorem of_puss {Z : Cx} {c : Cc} {W : WX} {sts : List Stmt} {pt : PTS} {H0 F0 F H : Hp} {env : Ev} {σ : Px.St} {D : Ends} {P : PD} (h : PuSs Z c W sts pt) (J : Rel c H0 F0 env F σ H) (L : Lk c W H0 F0 F D P) (hp : pt P env) : ∃ t, PSs Z sts t ∧ t D σ H :=
  let ⟨t, a, b⟩ := h; ⟨t, a, b _ _ _ _ _ _ _ _ J L hp⟩
section
variable {c : Cc} {X : Cx} {S : Addr} {Cs : Nat → Addr}
/-- what the suite of the clause makes of the caught exception -/
theorem p_suite {p : Addr × Obj} {ok : Addr → Prop} (k : Nat) (vals : List PyData) {P : PD} (hk : k < 16) (hl : vals.length = ((tab.getD k ("", [])).2).length) (ho : ∀ v ∈ vals, OkR v) (hok : ok (Cs k)) (h : ∀ env, nth env 1 = some (.d (dueP k vals)) → P.nx env) :
    psSeq (psSet 1 (pCallE 1 (spKindsP Cs p) (pCons (pVar 2) pNil))) (psSet 1 (pIf (ptAnd (ptB (pOp oEq (pB bLen (pCons (pVar 1) pNil)) (pC (.d (.int 1))))) (ptB (pUn (uIsP p ok fun _ => true) (pVar 2)))) (pOp oIx (pVar 1) (pC (.d (.int 0)))) (pTup (pCons (pC (.d (.str "several"))) (pCons (pB bLen (pCons (pVar 1) pNil)) pNil))))) P
      [none, none, some (.exc p (Cs k) (fdOf k vals))] := by
  refine ⟨rfl, k, vals, rfl, hk, hl, ho, ?_⟩
  refine ⟨okE_int _, okE_int _, fun _ => ⟨rfl, hok, fun _ => ⟨_, rfl, h _ rfl⟩, fun z => by cases z⟩, fun z => by simp [PyData.eqv] at z⟩
/-- what _law_fault makes of a lambda -/
theorem give_fault {g : Addr} {cdg : Value} {q : Str} {j : Nat} (T : Blt X.mg) (hVE : X.mg "ValueError" = none) (TC : Tc X.K X.mg S tab Cs) (DK : KpE X.prog X.w X.K X.mg X.base c 2 "_law_kinds" ["e"] (spKindsP Cs)) (hr : Room (j + 3) X.A) (hg : X.A.guards = some []) :
    LamX.GivesTo X ["call", "found", "e"] "_law_fault" (defScope s_law_fault) g cdg (defBody s_law_fault) "call" q (TTf c (dueK Cs)) := by
  intro f c' s H Q tl act hc h
  have hr2 : Room (j + 2) (X.A.deeper (envOfC "_law_fault" (defScope s_law_fault) s.heap.objs.size g cdg)) := hr.deeper _
  have hok : ∀ C, okC tab Cs C → XcF X.K C ∧ PySem.W.kitOne X.K (.ref C) (.type "ValueError") = some true := fun C ⟨i, hi, e⟩ => by
    subst e
    exact ⟨TC.xc i hi, TC.ve i hi⟩
  refine ⟨_, pss_cons (ps_set (i := 1) sc_law_fault.nd rfl (.inl rfl) pe_non) (pss_cons (ps_try_as (i := 2) (tb := tbF f c' q tl) (ts := tsF (cxOf C8.CX0 X.prog X.w X.K X.mg X.base ["call", "found", "e"] "_law_fault" (defScope s_law_fault) g cdg X.A X.stack s H C8.E0).nox _) (Wout := fun _ _ _ _ => False) rfl rfl sc_law_fault.nd rfl rfl ⟨rfl, by decide, .inl TC.gS⟩ LamX.takes0
      (fun W pn xe tk _ => tbF_ok fun E p1 p2 hW => act W pn xe E p1 p2 tk hW) (fun a oe cls d pn hz hf => tsF_ok hz hf rfl)) (pss_one (ps_ret (pv 1)))), ?_⟩
  have es : L2.start ["call", "found", "e"] [V.ref f] = [some (.ref f), none, none] := rfl
  rw [es]
  refine ⟨FaultOut c (dueK Cs) Q, fun cls d σ' H' z => ?_, rfl, hc, h _ _ (fun v H' z => ⟨.non, rfl, z⟩) fun _ _ _ z => z⟩
  obtain ⟨C, ds, r, F', rfl, B, ed, ⟨k, vals, rfl, rfl, hk, hl, ho, rfl⟩, fin⟩ := z
  refine ⟨true, TC.sub k hk, fun _ a ha => ?_, fun z => nomatch z⟩
  intro h3 oe pn hz hf
  obtain ⟨hz1, hz2⟩ := hz
  have J : Rel c H' F' [none, none, some (.exc (a, oe) (Cs k) (fdOf k vals))] F' (σ'.set 2 (some (.ref a))) H' := by
    refine ⟨B, h3, fun i ov s' e1 e2 => ?_, fun i j q xs ys e1 _ _ _ => ?_⟩
    · match i, e2 with
      | 0, e2 => cases e2; exact True.intro
      | 1, e2 => cases e2; exact True.intro
      | 2, e2 =>
        cases e2
        have h4 : 2 < σ'.length := by
          have h5 : (σ'.set 2 (some (V.ref a))).length = 3 := h3
          rw [List.length_set] at h5
          omega
        rw [List.getElem?_set_self h4] at e1
        cases e1
        exact ⟨rfl, hz1, hf, by rw [hz2]; exact ed⟩
      | i + 3, e2 => cases e2
    · match i, e1 with
      | 0, e1 => cases e1
      | 1, e1 => cases e1
      | 2, e1 => cases e1
      | i + 3, e1 => cases e1
  refine of_puss (c := c) (W := WNo) (P := ⟨fun env => nth env 1 = some (.d (dueP k vals)), fun _ => False, fun _ => False, fun _ => False, ENo⟩)
    (pus_cons (pus_set (i := 1) sc_law_fault.nd (pu_callE DK (roomMk hr2) hg List.mem_cons_self (pa_cons' (pu_var 2) pa_nil') (hjk := by omega)))
      (pus_one (pus_set (i := 1) sc_law_fault.nd (pu_if (PuW.pt (pw_and' (pt_cmp' (op_eqD (hu64H (roomMk hr2))) ro_eq (pu_callB c_len rb_len T.b_len PySem.boot_len (pa_cons' (pu_var 1) pa_nil')) pu_int) (pw_and1' (pt_val' (pu_isVE (ok := okC tab Cs) List.mem_cons_self T.b_isinstance hVE hok (pu_var 2)))))) (pu_ix (pu_var 1) pu_int) (pu_tup (pa_cons' pu_str (pa_cons' (pu_callB c_len rb_len T.b_len PySem.boot_len (pa_cons' (pu_var 1) pa_nil')) pa_nil')))))))
    J ⟨fun env' F1 σ1 H1 J1 k1 hn => ?_, fun _ _ _ _ _ _ z => z.elim, fun _ _ _ _ _ _ z => z.elim, fun _ _ _ _ _ _ z => z.elim, link_no⟩ (p_suite k vals hk hl ho ⟨k, hk, rfl⟩ fun env h => h)
  obtain ⟨ov, e1, v, rfl, rv⟩ := J1.get (nth_eq _ _ hn)
  refine ⟨v, ?_, fin v F1 H1 J1.b rv⟩
  rw [List.getElem?_set_ne (by decide)]
  exact e1
end
end K11
namespace K11
open PySem PySem.Spec PyProof.Rows L2 Lx Px
local macro_rules | `(tactic| walk_at "pv") => `(tactic| simp only [psSeq, psSet, psPar, psIf, psRet, psDrop, psCont, psNext, psAsg, psFor, psRaise, psOwn, psApp, psShow, uIsP, uFld, pCallE, pdNo, pVar, nth, pC, pOp, pUn, oI, oI0, uI, oAdd, oEq, oEqE, eqv_rat0, List.isEmpty_nil, List.isEmpty_cons, oNe, oIs, oNis, oIx, pNil, pCons, allD, pTup, pLst, pDisp0, bOf, ptB, ptAnd, ptOr, ptNot, pIf, pAndV, pOrV, pNotV, pCalln, pB, bInt, bAbs, bGcd, bLen, bList, bTuple, bRepr, bAll, uIsi, uIsi2, pgName, pgNil, pgCons, pgTup, Px.iR1, Px.iR2, Px.iS, Px.iZip, iZipU, pSl, pNo, pSome, pLc, pYes, noOwn, noOwn1, wipeE, pdOf, startP, List.set, List.map, List.append, List.cons_append, List.nil_append, List.length_cons, List.length_nil, List.replicate, Nat.reduceAdd, Nat.reduceSub, List.getElem?_cons_zero, List.getElem?_cons_succ, isNone, isBool, oSub, oMul, oDiv, oMod, oPow, oLt, oLe, oGt, oGe, at_0, at_1, okE_int, okE_bool, okE_none, okE_rat, eqv_int, eqv_ti, isTy_int_int, isTy_int_tup, isTy_tup_tup, isTy_tup_int, isTy_bool_int, true_and, and_true, beq_iff_eq, decide_eq_true_eq, decide_eq_false_iff_not, beq_eq_false_iff_ne, Bool.not_true, Bool.not_false, Bool.not_eq_true', Bool.not_eq_false', Nat.reduceLeDiff, Option.some.injEq, exists_eq_left', exists_eq_left, forall_const, true_imp_iff, Bool.false_eq_true, Bool.true_eq_false, false_imp_iff, reduceCtorEq])
local macro_rules | `(tactic| walk_at "pvs") => `(tactic| simp [isTy, tyN, at_0, at_1, okE_int, okE_bool, okE_none, eqv_int, oLt, oLe, oGt, oGe, oSub, oMul, oDiv, oMod, oI, oI0])
local macro_rules | `(tactic| walk_at "pvh") => `(tactic| simp only [psSeq, psSet, psPar, psIf, psRet, psDrop, psCont, psNext, psAsg, psFor, psRaise, psOwn, psApp, psShow, uIsP, uFld, pCallE, pdNo, pVar, nth, pC, pOp, pUn, oI, oI0, uI, oAdd, oEq, oEqE, eqv_rat0, List.isEmpty_nil, List.isEmpty_cons, oNe, oIs, oNis, oIx, pNil, pCons, allD, pTup, pLst, pDisp0, bOf, ptB, ptAnd, ptOr, ptNot, pIf, pAndV, pOrV, pNotV, pCalln, pB, bInt, bAbs, bGcd, bLen, bList, bTuple, bRepr, bAll, uIsi, uIsi2, pgName, pgNil, pgCons, pgTup, Px.iR1, Px.iR2, Px.iS, Px.iZip, iZipU, pSl, pNo, pSome, pLc, pYes, noOwn, noOwn1, wipeE, pdOf, startP, List.set, List.map, List.append, List.cons_append, List.nil_append, List.length_cons, List.length_nil, List.replicate, Nat.reduceAdd, Nat.reduceSub, List.getElem?_cons_zero, List.getElem?_cons_succ, isNone, isBool, oSub, oMul, oDiv, oMod, oPow, oLt, oLe, oGt, oGe, at_0, at_1, okE_int, okE_bool, okE_none, okE_rat, eqv_int, eqv_ti, isTy_int_int, isTy_int_tup, isTy_tup_tup, isTy_tup_int, isTy_bool_int, true_and, and_true, beq_iff_eq, decide_eq_true_eq, decide_eq_false_iff_not, beq_eq_false_iff_ne, Bool.not_true, Bool.not_false, Bool.not_eq_true', Bool.not_eq_false', Nat.reduceLeDiff, Option.some.injEq, exists_eq_left', exists_eq_left, forall_const, true_imp_iff, Bool.false_eq_true, Bool.true_eq_false, false_imp_iff, reduceCtorEq, if_true, if_false, not_false_eq_true, not_true_eq_false, *])

def lamQ (x : Str) : Str := x ++ ".<locals>." ++ "<lambda>"
/-- the code object of the def x is at cd, its table at P' -/
structure Mk (base : Heap) (mg : Str → Option Value) (c : Cc) (x : Str) (cd P' : Addr) : Prop where
  tb : LamX.TabB base mg cd P'
  inT : (P', lamQ x) ∈ c.T
  un : ∀ p ∈ c.T, p.1 = P' → p.2 = lamQ x
section
variable {X : Cx} {c : Cc} {W : WX} {S : Addr} {Cs : Nat → Addr}
theorem pu_flt {x : Str} {cd P' : Addr} {params : Arguments} {body : Expr} {scope : Scope} {p lpos pos : Pos} {pe : PTE} (FF : Has X.K X.mg "_law_fault" s_law_fault) (T : Blt X.mg) (hVE : X.mg "ValueError" = none) (TC : Tc X.K X.mg S tab Cs) (DK : KpE X.prog X.w X.K X.mg X.base c 2 "_law_kinds" ["e"] (spKindsP Cs)) (M : Mk X.base X.mg c x cd P')
    (hr : Room 7 X.A) (hg : X.A.guards = some []) (L : LamX.LamS X.env.scope scope) (hbody : ∀ (A : Around) (outer : List Env) (s : Shared) (H : Hp) (E : XK) (f c' : Addr), Room 5 (A.deeper (LamX.lamEnv X scope s.heap.objs.size f c')) → PuE (LamX.lamCx X A outer s H E scope f c') c (WF E) body pe)
    (hq : X.env.qual ++ "<lambda>" = lamQ x := by rfl) (hcode : X.env.code = .ref cd := by rfl) (hgl : Gl X "_law_fault" := by rfl) (hdef : defaultsOf params X.env = ([], []) := by rfl)
    (hbind : ∀ (q : Str) (cl : List (Str × Addr)) (pm cv ctv : Value), bindArgs (PySem.W.kla_fn "<lambda>" q params body scope cl pm cv ctv) ⟨[], []⟩ = pure [] := by intros; rfl) :
    PuE X c W (.Call (.Name "_law_fault" p) [.Lambda params body scope lpos] [] pos) (pFault (dueK Cs) pe) :=
  pu_fault FF (fun _ _ _ _ _ _ us hl => match us, hl with | [_], _ => rfl) sc_law_fault rfl (.inl rfl) (fun g cdg => give_fault (j := 4) T hVE TC DK hr hg) M.tb hcode (by rw [hq]; exact M.inT) (fun p hp e => by rw [hq]; exact M.un p hp e) hr L hbody hgl hdef hbind
end
theorem rat_inj {p q : Rat} (h : ratD p = ratD q) : q = p := by
  have h1 := congrArg topD h
  have h2 := congrArg botD h
  rw [topD_rat, topD_rat] at h1
  rw [botD_rat, botD_rat] at h2
  exact Rat.ext h1.symm (by omega)
theorem rat_num {q : Rat} (h : ratD q = .int 0) : q.num = 0 := by
  have h1 := congrArg topD h
  rw [topD_rat] at h1
  exact h1
section
variable {C : Addr} {R : Sl → Prop} {EX : Addr → FD → Prop} {p q : Rat} {f : Rat → Rat → PyData}
theorem chk_i (hp : Br 2000 p) (hq : Br 2000 q) (h : R (.d (f p q))) : spChk C f [.d (ratD p), .d (ratD q)] R EX :=
  ⟨_, _, rfl, fun z => (by rw [isRat_rat] at z; cases z), fun _ z => (by rw [isRat_rat] at z; cases z), fun p' q' e1 e2 => by cases rat_inj e1; cases rat_inj e2; exact ⟨hp, hq, h⟩⟩
theorem r2_i {C : Rat → Rat → Prop} (hp : Br 4000 p) (hq : Br 4000 q) (hc : C p q) (h : R (.d (f p q))) : spR2 C f [.d (ratD p), .d (ratD q)] R EX := ⟨_, _, rfl, hp, hq, hc, h⟩
theorem isr_i (h : R (.d (.bool true))) : spIsR [.d (ratD q), .d (ratD q)] R EX := ⟨_, rfl, h⟩
theorem isi_i {i : Int} (h : R (.d (.bool true))) : spIsR [.d (.int i), .d (.int i)] R EX := ⟨Rat.divInt i 1, by rw [ratD_int], h⟩
theorem sg_i (h : R (.d (fSgn p))) : spSign C [.d (ratD p)] R EX := ⟨_, rfl, fun z => (by rw [isRat_rat] at z; cases z), fun p' e => by cases rat_inj e; exact h⟩
theorem ov_i (hp : Br 2000 p) (hq : Br 2000 q) (hn : q.num ≠ 0) (h : R (.d (fDiv p q))) : spOver C [.d (ratD p), .d (ratD q)] R EX :=
  ⟨_, _, rfl, fun z => (by rw [isRat_rat] at z; cases z), fun _ z => (by rw [isRat_rat] at z; cases z), fun p' _ e2 => absurd (rat_num e2) hn, fun p' q' e1 e2 _ => by cases rat_inj e1; cases rat_inj e2; exact ⟨hp, hq, h⟩⟩
theorem ov0_i (hz : q.num = 0) (h : EX C (bn "other" (.int 0))) : spOver C [.d (ratD p), .d (ratD q)] R EX :=
  ⟨_, _, rfl, fun z => (by rw [isRat_rat] at z; cases z), fun _ z => (by rw [isRat_rat] at z; cases z), fun p' _ e2 => (by rw [e2]; exact h), fun p' q' _ e2 hn => by cases rat_inj e2; exact absurd hz hn⟩
theorem yes_i {A B : Prop} (h : B) : (true = false → A) ∧ (true = true → B) := ⟨fun z => Bool.noConfusion z, fun _ => h⟩
end
theorem eq_self {d : PyData} (h : okE d = true) : PyData.eqv d d = true := SeqAt.eqv_refl d (SeqAt.canLay_of_shaped (okE_of h).1)
theorem okE_t2 {a b : Str} (ha : PyData.strOk a = true) (hb : PyData.strOk b = true) : okE (.tuple [.str a, .str b]) = true := by
  simp [Px.okE, SeqAt.shaped, PyData.canLay0, PyData.canLayAll0, PyData.depth, PyData.depthAll, PyData.hasDict, PyData.hasDictAll, ha, hb]
theorem okE_t3 {a b s : Str} (ha : PyData.strOk a = true) (hb : PyData.strOk b = true) (hs : PyData.strOk s = true) : okE (.tuple [.str a, .str b, .str s]) = true := by
  simp [Px.okE, SeqAt.shaped, PyData.canLay0, PyData.canLayAll0, PyData.depth, PyData.depthAll, PyData.hasDict, PyData.hasDictAll, ha, hb, hs]
/-- a told value is the due one -/
theorem same_i {d : PyData} {R : Sl → Prop} (h : okE d = true) (hR : R (.d (.bool true))) : okE d = true ∧ okE d = true ∧ R (.d (.bool (PyData.eqv d d))) := ⟨h, h, by rw [eq_self h]; exact hR⟩
theorem due0 {Cs : Nat → Addr} {x : Str} {d : PyData} (hx : OkR (.str x)) (hd : OkR d) : dueK Cs (Cs 0) (bn x d) (.tuple [.str "number", .str x, .str d.shown]) :=
  ⟨0, [.str x, d], rfl, rfl, by decide, rfl, fun v hv => by rcases List.mem_cons.mp hv with rfl | hv; exact hx; rw [List.mem_singleton.mp hv]; exact hd, rfl⟩
theorem due1 {Cs : Nat → Addr} {x : Str} {d : PyData} (hx : OkR (.str x)) (hd : OkR d) : dueK Cs (Cs 1) (rowF x d) (.tuple [.str "row", .str x, .str d.shown]) :=
  ⟨1, [.str x, d], rfl, rfl, by decide, rfl, fun v hv => by rcases List.mem_cons.mp hv with rfl | hv; exact hx; rw [List.mem_singleton.mp hv]; exact hd, rfl⟩
theorem due10 {Cs : Nat → Addr} {x : Str} (hx : OkR (.str x)) : dueK Cs (Cs 10) (unF x) (.tuple [.str "unlike", .str x]) :=
  ⟨10, [.str x], rfl, rfl, by decide, rfl, fun v hv => by rw [List.mem_singleton.mp hv]; exact hx, rfl⟩
def spPen (c : Cc) : PSp := fun ss R _ => ss = [.raw (.ref c.p)] ∧ R (.d (.bool true))
def spReck : PSp := fun ss R _ => ∃ p q : Rat, ss = [.d (ratD p), .d (ratD q)] ∧ Br 145 p ∧ Br 145 q ∧ R (.d (.bool true))

section
variable {P : Program} {w : World} {K : PySem.W.Frag} {mg : Str → Option Value} {base : Heap} {c : Cc} {S : Addr} {Cs : Nat → Addr} {cd P' : Addr}

end
end K11
namespace K11
open PySem PySem.Spec PyProof.Rows L2 Lx Px
local macro_rules | `(tactic| walk_at "pv") => `(tactic| simp only [psSeq, psSet, psPar, psIf, psRet, psDrop, psCont, psNext, psAsg, psFor, psRaise, psOwn, psApp, psShow, uIsP, uFld, pCallE, pdNo, pVar, nth, pC, pOp, pUn, oI, oI0, uI, oAdd, oEq, oEqE, eqv_rat0, List.isEmpty_nil, List.isEmpty_cons, oNe, oIs, oNis, oIx, pNil, pCons, allD, pTup, pLst, pDisp0, bOf, ptB, ptAnd, ptOr, ptNot, pIf, pAndV, pOrV, pNotV, pCalln, pB, bInt, bAbs, bGcd, bLen, bList, bTuple, bRepr, bAll, uIsi, uIsi2, pgName, pgNil, pgCons, pgTup, Px.iR1, Px.iR2, Px.iS, Px.iZip, iZipU, pSl, pNo, pSome, pLc, pYes, noOwn, noOwn1, wipeE, pdOf, startP, List.set, List.map, List.append, List.cons_append, List.nil_append, List.length_cons, List.length_nil, List.replicate, Nat.reduceAdd, Nat.reduceSub, List.getElem?_cons_zero, List.getElem?_cons_succ, isNone, isBool, oSub, oMul, oDiv, oMod, oPow, oLt, oLe, oGt, oGe, at_0, at_1, okE_int, okE_bool, okE_none, okE_rat, eqv_int, eqv_ti, isTy_int_int, isTy_int_tup, isTy_tup_tup, isTy_tup_int, isTy_bool_int, true_and, and_true, beq_iff_eq, decide_eq_true_eq, decide_eq_false_iff_not, beq_eq_false_iff_ne, Bool.not_true, Bool.not_false, Bool.not_eq_true', Bool.not_eq_false', Nat.reduceLeDiff, Option.some.injEq, exists_eq_left', exists_eq_left, forall_const, true_imp_iff, Bool.false_eq_true, Bool.true_eq_false, false_imp_iff, reduceCtorEq])
local macro_rules | `(tactic| walk_at "pvs") => `(tactic| simp [isTy, tyN, at_0, at_1, okE_int, okE_bool, okE_none, eqv_int, oLt, oLe, oGt, oGe, oSub, oMul, oDiv, oMod, oI, oI0])
local macro_rules | `(tactic| walk_at "pvh") => `(tactic| simp only [psSeq, psSet, psPar, psIf, psRet, psDrop, psCont, psNext, psAsg, psFor, psRaise, psOwn, psApp, psShow, uIsP, uFld, pCallE, pdNo, pVar, nth, pC, pOp, pUn, oI, oI0, uI, oAdd, oEq, oEqE, eqv_rat0, List.isEmpty_nil, List.isEmpty_cons, oNe, oIs, oNis, oIx, pNil, pCons, allD, pTup, pLst, pDisp0, bOf, ptB, ptAnd, ptOr, ptNot, pIf, pAndV, pOrV, pNotV, pCalln, pB, bInt, bAbs, bGcd, bLen, bList, bTuple, bRepr, bAll, uIsi, uIsi2, pgName, pgNil, pgCons, pgTup, Px.iR1, Px.iR2, Px.iS, Px.iZip, iZipU, pSl, pNo, pSome, pLc, pYes, noOwn, noOwn1, wipeE, pdOf, startP, List.set, List.map, List.append, List.cons_append, List.nil_append, List.length_cons, List.length_nil, List.replicate, Nat.reduceAdd, Nat.reduceSub, List.getElem?_cons_zero, List.getElem?_cons_succ, isNone, isBool, oSub, oMul, oDiv, oMod, oPow, oLt, oLe, oGt, oGe, at_0, at_1, okE_int, okE_bool, okE_none, okE_rat, eqv_int, eqv_ti, isTy_int_int, isTy_int_tup, isTy_tup_tup, isTy_tup_int, isTy_bool_int, true_and, and_true, beq_iff_eq, decide_eq_true_eq, decide_eq_false_iff_not, beq_eq_false_iff_ne, Bool.not_true, Bool.not_false, Bool.not_eq_true', Bool.not_eq_false', Nat.reduceLeDiff, Option.some.injEq, exists_eq_left', exists_eq_left, forall_const, true_imp_iff, Bool.false_eq_true, Bool.true_eq_false, false_imp_iff, reduceCtorEq, if_true, if_false, not_false_eq_true, not_true_eq_false, *])

def odds1 : List PyData := [.none, .bool true, .str "1", .tuple [.int 1, .int 2], .list [.int 1]]
def odds2 : List PyData := [.int 0, .none, .bool false, .tuple [.int 1, .int 2]]
theorem not_no' {a : PTT} {env : Ev} {R : Bool → Prop} {E : XP} (h1 : ∀ R : Bool → Prop, R true → a env R E) (h : R false) : ptNot a env R E := h1 _ h

theorem same_n {d : PyData} {R : Bool → Prop} (h : Px.okE d = true) (hR : R false) : Px.okE d = true ∧ Px.okE d = true ∧ R (!(PyData.eqv d d)) := ⟨h, h, by rw [eq_self h]; exact hR⟩
section
variable {P : Program} {w : World} {K : PySem.W.Frag} {mg : Str → Option Value} {base : Heap} {c : Cc} {S : Addr} {Cs : Nat → Addr} {cd P' : Addr}

end
end K11
namespace K11
open PySem PySem.Spec PyProof.Rows L2 Lx
local macro_rules | `(tactic| walk_at "rd") => `(tactic| (with_reducible first
  | refine rr_seq ?_ | refine rr_asg ?_ | refine rr_n0 ?_ | refine rr_n1 ?_ | refine rr_n2 ?_ | refine rr_n3 ?_ | refine rr_n4 ?_ | refine rr_n5 ?_ | refine rr_n6 ?_ | refine rr_n7 ?_ | refine rr_n8 ?_ | refine rr_n9 ?_ | refine rr_n10 ?_ | refine rr_n11 ?_ | refine rr_n12 ?_ | refine rr_n13 ?_ | refine rr_drop ?_ | refine rr_ret ?_ | refine rr_ifs ?_ | refine rr_if ?_ | refine rr_test ?_ | refine rr_tB ?_ | refine rr_bl ?_
  | refine rr_and ?_ | refine rr_or ?_ | refine rr_not ?_ | refine rr_v0 ?_ | refine rr_v1 ?_ | refine rr_v2 ?_ | refine rr_v3 ?_ | refine rr_v4 ?_ | refine rr_v5 ?_ | refine rr_v6 ?_ | refine rr_v7 ?_ | refine rr_v8 ?_ | refine rr_v9 ?_ | refine rr_v10 ?_ | refine rr_v11 ?_ | refine rr_v12 ?_ | refine rr_v13 ?_ | refine rr_c ?_ | refine rr_op ?_ | refine rr_un ?_ | refine rr_i0 ?_ | refine rr_eqi ?_ | refine rr_nei ?_
  | refine rr_cons ?_ | refine rr_nil ?_ | refine rr_cb ?_ | refine rr_call ?_ | refine rr_tup ?_ | refine rr_lst ?_ | refine rr_lstN ?_ | refine rr_dget ?_ | refine rr_dput ?_ | refine rr_next ?_ | refine rr_int ?_ | refine rr_disp ?_ | refine rr_pcons ?_ | refine rr_pnil ?_ | refine rr_isN ?_ | refine rr_notN ?_ | refine rr_callR ?_ | refine rr_bm ?_ | refine rr_fldP ?_ | refine rr_rf ?_))
local macro_rules | `(tactic| walk_at "rds") => `(tactic| repeat walk_at "rd")
theorem ini_BadNumber {K : PySem.W.Frag} {mg : Str → Option Value} {C fI : Addr} {fd : FuncData} (F : Fun K "__init__" "BadNumber.__init__" (inClass (topS 3) 0) fI fd) (T : OexC K C) (nf : ∀ f : Str, f ∈ (["what", "number"] : List Str) → PySem.W.findIn K (.ref C) f = some none) (P : Program) (w : World) (base : Heap) :
    FnOk P w K mg base CX0 1 fI fd ["self", "what", "number"] (spI C ["what", "number"]) := by
  have sc : FnScope ["self", "what", "number"] ["self", "what", "number"] (defScope (inClass (topS 3) 0)) := ⟨rfl, rfl, rfl, by decide +kernel, rfl, by decide +kernel, by decide +kernel⟩
  refine F.ok sc (fun vs H Q E h => ?_) (fun cdv A outer s H vs Q E hr h => ⟨_, (pss_cons (ps_ost (pv 0) (pv 1)) (pss_one (ps_ost (pv 0) (pv 2)))), ?_⟩)
  · obtain ⟨a, ws, rfl, hl, _⟩ := h
    rw [List.length_cons, hl]
    rfl
  obtain ⟨a, ws, rfl, hl, ha, k⟩ := h
  obtain ⟨v0, v1, rfl⟩ : ∃ v0 v1, ws = [v0, v1] := match ws, hl with | [a, b], _ => ⟨a, b, rfl⟩
  have es : L2.start ["self", "what", "number"] [V.ref a, v0, v1] = [some (V.ref a), some v0, some v1] := rfl
  rw [es]
  walk_at "rds"
  refine rr_ostA T (nf _ (by simp)) rfl rfl ha fun d hd hn => ?_
  walk_at "rds"
  refine rr_ostB T (nf _ (by simp)) rfl rfl upd_same (by rw [upd_ne hn, upd_same]) (by simp) ?_
  refine k d _ hd hn (by rw [upd_ne (Ne.symm hn), upd_same]) (by rw [upd_same]; rfl) fun b n1 n2 => by rw [upd_ne n2, upd_ne n1, upd_ne n2]
theorem ini_BadRow {K : PySem.W.Frag} {mg : Str → Option Value} {C fI : Addr} {fd : FuncData} (F : Fun K "__init__" "BadRow.__init__" (inClass (topS 4) 0) fI fd) (T : OexC K C) (nf : ∀ f : Str, f ∈ (["what", "row"] : List Str) → PySem.W.findIn K (.ref C) f = some none) (P : Program) (w : World) (base : Heap) :
    FnOk P w K mg base CX0 1 fI fd ["self", "what", "row"] (spI C ["what", "row"]) := by
  have sc : FnScope ["self", "what", "row"] ["self", "what", "row"] (defScope (inClass (topS 4) 0)) := ⟨rfl, rfl, rfl, by decide +kernel, rfl, by decide +kernel, by decide +kernel⟩
  refine F.ok sc (fun vs H Q E h => ?_) (fun cdv A outer s H vs Q E hr h => ⟨_, (pss_cons (ps_ost (pv 0) (pv 1)) (pss_one (ps_ost (pv 0) (pv 2)))), ?_⟩)
  · obtain ⟨a, ws, rfl, hl, _⟩ := h
    rw [List.length_cons, hl]
    rfl
  obtain ⟨a, ws, rfl, hl, ha, k⟩ := h
  obtain ⟨v0, v1, rfl⟩ : ∃ v0 v1, ws = [v0, v1] := match ws, hl with | [a, b], _ => ⟨a, b, rfl⟩
  have es : L2.start ["self", "what", "row"] [V.ref a, v0, v1] = [some (V.ref a), some v0, some v1] := rfl
  rw [es]
  walk_at "rds"
  refine rr_ostA T (nf _ (by simp)) rfl rfl ha fun d hd hn => ?_
  walk_at "rds"
  refine rr_ostB T (nf _ (by simp)) rfl rfl upd_same (by rw [upd_ne hn, upd_same]) (by simp) ?_
  refine k d _ hd hn (by rw [upd_ne (Ne.symm hn), upd_same]) (by rw [upd_same]; rfl) fun b n1 n2 => by rw [upd_ne n2, upd_ne n1, upd_ne n2]
theorem ini_Unlike {K : PySem.W.Frag} {mg : Str → Option Value} {C fI : Addr} {fd : FuncData} (F : Fun K "__init__" "Unlike.__init__" (inClass (topS 13) 0) fI fd) (T : OexC K C) (nf : ∀ f : Str, f ∈ (["what"] : List Str) → PySem.W.findIn K (.ref C) f = some none) (P : Program) (w : World) (base : Heap) :
    FnOk P w K mg base CX0 1 fI fd ["self", "what"] (spI C ["what"]) := by
  have sc : FnScope ["self", "what"] ["self", "what"] (defScope (inClass (topS 13) 0)) := ⟨rfl, rfl, rfl, by decide +kernel, rfl, by decide +kernel, by decide +kernel⟩
  refine F.ok sc (fun vs H Q E h => ?_) (fun cdv A outer s H vs Q E hr h => ⟨_, (pss_one (ps_ost (pv 0) (pv 1))), ?_⟩)
  · obtain ⟨a, ws, rfl, hl, _⟩ := h
    rw [List.length_cons, hl]
    rfl
  obtain ⟨a, ws, rfl, hl, ha, k⟩ := h
  obtain ⟨v0, rfl⟩ : ∃ v0, ws = [v0] := match ws, hl with | [a], _ => ⟨a, rfl⟩
  have es : L2.start ["self", "what"] [V.ref a, v0] = [some (V.ref a), some v0] := rfl
  rw [es]
  walk_at "rds"
  refine rr_ostA T (nf _ (by simp)) rfl rfl ha fun d hd hn => ?_
  refine k d _ hd hn upd_same (by rw [upd_ne hn, upd_same]; rfl) fun b n1 n2 => by rw [upd_ne n1, upd_ne n2]
end K11
namespace K11
open PySem PySem.Spec PyProof.Rows L2 Lx Px

theorem bn_up {a n : Nat} {i : Int} (h1 : Bn a i) (h : a ≤ n) : Bn n i := Nat.lt_of_lt_of_le h1 (Nat.pow_le_pow_right (by decide) h)
theorem bn_mulL {a b : Nat} {i j : Int} (h1 : Bn a i) (h2 : Bn b j) : Bn (a + b) (i * j) := wide_lt h1 h2
theorem bn_addL {a : Nat} {i j : Int} (h1 : Bn a i) (h2 : Bn a j) : Bn (a + 1) (i + j) := by
  unfold Bn at *
  rw [Nat.pow_succ]
  have := Int.natAbs_add_le i j
  omega
theorem br_add {n m : Nat} {p q : Rat} (hp : Br n p) (hq : Br m q) : Br (n + m + 1) (p + q) := by
  have d1 := p.den_nz
  have d2 := q.den_nz
  rw [← divInt_add]
  refine br_div (Int.mul_ne_zero (by omega) (by omega)) ?_ ?_
  · exact bn_addL (bn_mulL hp.1 hq.2) (by rw [Nat.add_comm n m]; exact bn_mulL hq.1 hp.2)
  · exact bn_up (bn_mulL hp.2 hq.2) (by omega)
theorem br_mul {n m : Nat} {p q : Rat} (hp : Br n p) (hq : Br m q) : Br (n + m) (p * q) := by
  have d1 := p.den_nz
  have d2 := q.den_nz
  rw [← divInt_mul]
  exact br_div (Int.mul_ne_zero (by omega) (by omega)) (bn_mulL hp.1 hq.1) (bn_mulL hp.2 hq.2)
theorem br_up {a n : Nat} {q : Rat} (h : Br a q) (hn : a ≤ n) : Br n q := ⟨bn_up h.1 hn, bn_up h.2 hn⟩
theorem br_zero {n : Nat} : Br (n + 1) 0 := ⟨by unfold Bn; exact Nat.pow_pos (by decide), by unfold Bn; exact Nat.one_lt_two_pow (by omega)⟩
theorem br_one {n : Nat} : Br (n + 1) 1 := ⟨by unfold Bn; exact Nat.one_lt_two_pow (by omega), by unfold Bn; exact Nat.one_lt_two_pow (by omega)⟩
theorem br_frac {a b : Int} (a0 : -3 ≤ a) (a1 : a ≤ 3) (b0 : 1 ≤ b) (b1 : b ≤ 4) : Br 3 (Rat.divInt a b) := br_div (by omega) (by unfold Bn; omega) (by unfold Bn; omega)
/-- names of the builtins and numbers of the program -/
structure Blx (mg : Str → Option Value) : Prop where
  e : mg "enumerate" = none
  s : mg "sorted" = none
  m : ∃ t, mg "MOST_STAGES" = some (.int 8 t)
theorem pu_const_MOST_STAGES {X : Cx} {c : Cc} {W : WX} {pos : Pos} (Z : Blx X.mg) (hg : Gl X "MOST_STAGES" := by rfl) : PuE X c W (.Name "MOST_STAGES" pos) (pC (.d (.int 8))) := pu_glob (v := .int 8) (s := .d (.int 8)) Z.m.choose_spec ⟨_, rfl⟩ (fun _ => Rq.int 8) hg
abbrev rowD (r : List Rat) : PyData := .tuple (r.map ratD)
abbrev matD (a : List (List Rat)) : PyData := .tuple (a.map rowD)
/-- what a table may be made of: a list or a tuple -/
def SeqOf (l : List PyData) (x : PyData) : Prop := x = .list l ∨ x = .tuple l
def RowIn (r : List Rat) (x : PyData) : Prop := SeqOf (r.map ratD) x
inductive RowsIn : List (List Rat) → List PyData → Prop
  | nil : RowsIn [] []
  | cons {r : List Rat} {x : PyData} {a : List (List Rat)} {xs : List PyData} : RowIn r x → RowsIn a xs → RowsIn (r :: a) (x :: xs)
/-- a table of n stages -/
structure Tab (n : Nat) (a : List (List Rat)) (b : List Rat) : Prop where
  la : a.length = n
  lr : ∀ r ∈ a, r.length = n
  lb : b.length = n
abbrev fdS (a : List (List Rat)) (b : List Rat) : FD := [("a", matD a), ("b", rowD b)]
abbrev stS (S : Addr) (a : List (List Rat)) (b : List Rat) : Sl := .obj S (fdS a b)
def catA (a : List (List Rat)) (b : List Rat) (c : List (List Rat)) (d : List Rat) : List (List Rat) := (a.map fun r => r ++ List.replicate d.length 0) ++ c.map fun r => b ++ r
def unA (a : List (List Rat)) (b : List Rat) : List (List Rat) := a.map fun r => List.zipWith (fun p q => p + -q) r b
theorem rows_len {a : List (List Rat)} {xs : List PyData} (h : RowsIn a xs) : xs.length = a.length := by
  induction h with
  | nil => rfl
  | cons _ _ ih => rw [List.length_cons, List.length_cons, ih]
theorem all_rat (r : List Rat) : (r.map ratD).all isRat = true := by
  rw [List.all_map, List.all_eq_true]
  exact fun q _ => isRat_rat q
theorem rowIn_ok {r : List Rat} {x : PyData} {n : Nat} (h : RowIn r x) (hn : r.length = n) : rowOk x (n : Int) = true := by
  have e : ((r.map ratD).length : Int) = (n : Int) := by rw [List.length_map, hn]
  rcases h with rfl | rfl <;> (unfold rowOk; simp only [seqD]; rw [e, all_rat]; simp)
theorem row_seq {r : List Rat} {x : PyData} (h : RowIn r x) (hn : r.length ≤ 1000) : ∀ l, seqD x = some l → l.length ≤ 1000 := fun l e => by
  rcases h with rfl | rfl <;> (cases e; rw [List.length_map]; exact hn)
theorem rows_all {a : List (List Rat)} {xs : List PyData} {n : Nat} (h : RowsIn a xs) (hn : ∀ r ∈ a, r.length = n) : ∀ x ∈ xs, ∃ r, RowIn r x ∧ r.length = n := by
  induction h with
  | nil => exact fun x hx => by cases hx
  | @cons r x a xs h1 _ ih =>
    rintro y hy
    rcases List.mem_cons.mp hy with rfl | hy
    · exact ⟨r, h1, hn r List.mem_cons_self⟩
    · exact ih (fun r hr => hn r (List.mem_cons_of_mem _ hr)) y hy
def toT : PyData → PyData
  | .list l => .tuple l
  | d => d
theorem toT_row {r : List Rat} {x : PyData} (h : RowIn r x) : toT x = rowD r := by
  rcases h with rfl | rfl <;> rfl
theorem toT_rows {a : List (List Rat)} {xs : List PyData} (h : RowsIn a xs) : xs.map toT = a.map rowD := by
  induction h with
  | nil => rfl
  | cons h1 _ ih => rw [List.map_cons, List.map_cons, toT_row h1, ih]
theorem bools_true : ∀ {l : List PyData} {f : PyData → Bool}, (∀ d ∈ l, f d = true) → ∃ bs, boolsOf (l.map fun d => .bool (f d)) = some bs ∧ bs.all id = true
  | [], _, _ => ⟨[], rfl, rfl⟩
  | d :: l, f, h => by
    obtain ⟨bs, e1, e2⟩ := bools_true (l := l) (f := f) fun x hx => h x (List.mem_cons_of_mem _ hx)
    refine ⟨f d :: bs, ?_, ?_⟩
    · rw [List.map_cons]; unfold boolsOf; rw [e1]; rfl
    · rw [List.all_cons, e2, h d List.mem_cons_self]; rfl
theorem rats_in : ∀ {l : List (List Rat)}, RowsIn l (l.map rowD)
  | [] => .nil
  | _ :: _ => .cons (.inr rfl) rats_in
/-- data that == takes, n deep -/
structure OkN (n : Nat) (d : PyData) : Prop where
  lay : d.canLay0 = true
  dep : d.depth ≤ n
  nd : d.hasDict = false
theorem okN_all {n : Nat} : ∀ {l : List PyData}, (∀ d ∈ l, OkN n d) → PyData.canLayAll0 l = true ∧ PyData.depthAll l ≤ n ∧ PyData.hasDictAll l = false
  | [], _ => ⟨rfl, Nat.zero_le _, rfl⟩
  | d :: l, h => by
    obtain ⟨h1, h2, h3⟩ := h d List.mem_cons_self
    obtain ⟨e1, e2, e3⟩ := okN_all (l := l) fun x hx => h x (List.mem_cons_of_mem _ hx)
    refine ⟨?_, ?_, ?_⟩
    · simp [PyData.canLayAll0, h1, e1]
    · simp only [PyData.depthAll]; omega
    · simp [PyData.hasDictAll, h3, e3]
theorem okN_tup {n : Nat} {l : List PyData} (h : ∀ d ∈ l, OkN n d) : OkN (n + 1) (.tuple l) := by
  obtain ⟨e1, e2, e3⟩ := okN_all h
  exact ⟨by simpa [PyData.canLay0] using e1, by simp only [PyData.depth]; omega, by simpa [PyData.hasDict] using e3⟩
theorem okN_lst {n : Nat} {l : List PyData} (h : ∀ d ∈ l, OkN n d) : OkN (n + 1) (.list l) := by
  obtain ⟨e1, e2, e3⟩ := okN_all h
  exact ⟨by simpa [PyData.canLay0] using e1, by simp only [PyData.depth]; omega, by simpa [PyData.hasDict] using e3⟩
theorem okN_up {n m : Nat} {d : PyData} (h : OkN n d) (hm : n ≤ m) : OkN m d := ⟨h.lay, Nat.le_trans h.dep hm, h.nd⟩
theorem okN_E {n : Nat} {d : PyData} (h : OkN n d) (hn : n ≤ 64) : Px.okE d = true := by
  have : d.depth ≤ 64 := Nat.le_trans h.dep hn
  simp [Px.okE, SeqAt.shaped, h.lay, h.nd, this]
theorem okN_int (i : Int) : OkN 0 (.int i) := ⟨rfl, Nat.le_refl _, rfl⟩
theorem okN_str {x : Str} (h : PyData.strOk x = true) : OkN 0 (.str x) := ⟨by simpa [PyData.canLay0] using h, by simp [PyData.depth], rfl⟩
theorem okN_rat (q : Rat) : OkN 1 (ratD q) := by
  rcases ratD_or q with ⟨i, e, _⟩ | ⟨a, b, e, _⟩ <;> rw [e]
  · exact okN_up (okN_int i) (by decide)
  · refine okN_tup fun d hd => ?_
    simp only [List.mem_cons, List.not_mem_nil, or_false] at hd
    rcases hd with rfl | rfl <;> exact okN_int _
theorem okN_row (r : List Rat) : OkN 2 (rowD r) := okN_tup fun d hd => by
  obtain ⟨q, _, rfl⟩ := List.mem_map.mp hd
  exact okN_rat q
theorem okN_mat (a : List (List Rat)) : OkN 3 (matD a) := okN_tup fun d hd => by
  obtain ⟨r, _, rfl⟩ := List.mem_map.mp hd
  exact okN_row r
theorem okN_tab (a : List (List Rat)) (b : List Rat) : OkN 4 (.tuple [matD a, rowD b]) := okN_tup fun d hd => by
  simp only [List.mem_cons, List.not_mem_nil, or_false] at hd
  rcases hd with rfl | rfl
  · exact okN_mat a
  · exact okN_up (okN_row b) (by decide)
theorem uAt_a {S : Addr} {x y : PyData} {R : Sl → Prop} : uAt S ["a", "b"] "a" (.obj S [("a", x), ("b", y)]) R = R (.d x) := propext ⟨fun ⟨_, _, d, e, h⟩ => by
  have e : some x = some d := e
  cases e; exact h, fun h => ⟨rfl, List.mem_cons_self, x, rfl, h⟩⟩
theorem uAt_b {S : Addr} {x y : PyData} {R : Sl → Prop} : uAt S ["a", "b"] "b" (.obj S [("a", x), ("b", y)]) R = R (.d y) := propext ⟨fun ⟨_, _, d, e, h⟩ => by
  have e : some y = some d := e
  cases e; exact h, fun h => ⟨rfl, List.mem_cons_of_mem _ List.mem_cons_self, y, rfl, h⟩⟩
theorem zipD_map {α β : Type} (f : α → PyData) (g : β → PyData) : ∀ (l : List α) (m : List β), zipD (l.map f) (m.map g) = (List.zip l m).map fun z => .tuple [f z.1, g z.2]
  | [], _ => by simp [zipD]
  | _ :: _, [] => by simp [zipD]
  | a :: l, b :: m => by
    have ih := zipD_map f g l m
    unfold zipD at ih ⊢
    simp only [List.map_cons, List.zipWith_cons_cons, List.zip_cons_cons, ih]
theorem rep0 (n : Nat) : repD n [.int 0] = (List.replicate n (0 : Rat)).map ratD := by
  unfold repD
  induction n with
  | zero => rfl
  | succ n ih => rw [List.replicate_succ, List.replicate_succ, List.flatten_cons, ih]; rfl
theorem rats_inL : ∀ {l : List (List Rat)}, RowsIn l (l.map fun r => .list (r.map ratD))
  | [] => .nil
  | _ :: _ => .cons (.inl rfl) rats_inL
theorem tab_cat {n m : Nat} {a : List (List Rat)} {b : List Rat} {c : List (List Rat)} {d : List Rat} (A : Tab n a b) (C : Tab m c d) : Tab (n + m) (catA a b c d) (b ++ d) := by
  refine ⟨?_, fun r hr => ?_, ?_⟩
  · unfold catA; rw [List.length_append, List.length_map, List.length_map, A.la, C.la]
  · unfold catA at hr
    rcases List.mem_append.mp hr with hr | hr
    · obtain ⟨s, hs, rfl⟩ := List.mem_map.mp hr
      rw [List.length_append, List.length_replicate, A.lr s hs, C.lb]
    · obtain ⟨s, hs, rfl⟩ := List.mem_map.mp hr
      rw [List.length_append, C.lr s hs, A.lb]
  · rw [List.length_append, A.lb, C.lb]
theorem tab_un {n : Nat} {a : List (List Rat)} {b : List Rat} (A : Tab n a b) : Tab n (unA a b) (b.map fun q => -q) := by
  refine ⟨?_, fun r hr => ?_, ?_⟩
  · unfold unA; rw [List.length_map, A.la]
  · unfold unA at hr
    obtain ⟨s, hs, rfl⟩ := List.mem_map.mp hr
    rw [List.length_zipWith, A.lr s hs, A.lb, Nat.min_self]
  · rw [List.length_map, A.lb]
def idxOk (x : PyData) (n : Int) : Bool := match seqD x with
  | some l => (l.length : Int) == n && l.all isIntD
  | none => false
def matOk (x : PyData) : Bool := match seqD x with
  | some l => decide (1 ≤ l.length) && decide (l.length ≤ 8) && l.all fun d => rowOk d (l.length : Int)
  | none => false
def Sh1 (x : PyData) : Prop := ∀ l, seqD x = some l → l.length ≤ 1000
def Sh2 (x : PyData) : Prop := ∀ l, seqD x = some l → l.length ≤ 1000 ∧ ∀ d ∈ l, Sh1 d
def rgI (n : Nat) : List Int := (List.range n).map fun (i : Nat) => (i : Int)
def natsD (o : List Nat) : List PyData := o.map fun (i : Nat) => .int (i : Int)
def spIdx : PSp := fun ss R _ => ∃ (x : PyData) (n : Int), ss = [.d x, .d (.int n)] ∧ (∀ l, seqD x = some l → l.length ≤ 1000) ∧ R (.d (.bool (idxOk x n)))
def spAllN : PSp := fun ss R _ => ∃ (x : PyData) (n : Nat), ss = [.d x, .d (.int (n : Int))] ∧ n ≤ 8 ∧ Sh1 x ∧ (idxOk x n = false → R (.d (.bool false))) ∧
  ∀ ns : List Int, (x = .list (intsD ns) ∨ x = .tuple (intsD ns)) → ns.length = n → (ns.Perm (rgI n) → R (.d (.bool true))) ∧ (¬ ns.Perm (rgI n) → R (.d (.bool false)))
def spIsRow : PSp := fun ss R _ => ∃ (x : PyData) (n : Int), ss = [.d x, .d (.int n)] ∧ (∀ l, seqD x = some l → l.length ≤ 1000) ∧ R (.d (.bool (rowOk x n)))
def spInit (S CT CR : Addr) : PIs := fun ss R EX => ∃ x y : PyData, ss = [.d x, .d y] ∧ Sh2 x ∧ Sh1 y ∧ (matOk x = false → EX CT [("what", .str "a")]) ∧
  (∀ l, seqD x = some l → matOk x = true → rowOk y (l.length : Int) = false → EX CR [("row", y), ("what", .str "b")]) ∧
  ∀ (n : Nat) (a : List (List Rat)) (b : List Rat) (xs : List PyData), seqD x = some xs → RowsIn a xs → RowIn b y → Tab n a b → 1 ≤ n → n ≤ 8 → R (fdS a b)
def spEqS (S : Addr) : PSp := fun ss R _ => (∃ (a : List (List Rat)) (b : List Rat), ss = [stS S a b, stS S a b] ∧ a.length ≤ 8 ∧ (∀ r ∈ a, r.length ≤ 8) ∧ b.length ≤ 8 ∧ R (.d (.bool true))) ∨ ∃ ds d, ss = [.obj S ds, .d d] ∧ R (.d (.bool false))
def spNeedS (S CT : Addr) : PSp := fun ss R EX => (∃ ds x, ss = [.obj S ds, .d (.str x)] ∧ R (.obj S ds)) ∨ ∃ d x, ss = [.d d, .d (.str x)] ∧ EX CT [("what", .str x)]
def rsum (r : List Rat) : Rat := r.foldl (fun a b => a + b) 0
def spTot : PSp := fun ss R _ => ∃ r : List Rat, ss = [.d (rowD r)] ∧ r.length ≤ 8 ∧ (∀ q ∈ r, Br 100 q) ∧ R (.d (ratD (rsum r)))
def NodB (S : Addr) (ss : List Sl) (R : Sl → Prop) : Prop := ∃ n a b, ss = [stS S a b] ∧ Tab n a b ∧ n ≤ 8 ∧ (∀ r ∈ a, ∀ q ∈ r, Br 100 q) ∧ R (.d (rowD (a.map rsum)))
def spNodB (S : Addr) : PSp := fun ss R _ => NodB S ss R
def spNod (S CT : Addr) : PSp := fun ss R EX => (∃ d, ss = [.d d] ∧ EX CT [("what", .str "steps")]) ∨ NodB S ss R
def explB (a : List (List Rat)) : Bool := a.zipIdx.all fun p => (p.1.drop p.2).all fun q => decide (q.num = 0)
def ExpB (S : Addr) (ss : List Sl) (R : Sl → Prop) : Prop := ∃ n a b, ss = [stS S a b] ∧ Tab n a b ∧ n ≤ 8 ∧ R (.d (.bool (explB a)))
def spExpB (S : Addr) : PSp := fun ss R _ => ExpB S ss R
def spExp (S CT : Addr) : PSp := fun ss R EX => (∃ d, ss = [.d d] ∧ EX CT [("what", .str "steps")]) ∨ ExpB S ss R
def renB (b : List Rat) (o : List Nat) : List Rat := o.map fun k => b.getD k 0
def renA (a : List (List Rat)) (o : List Nat) : List (List Rat) := o.map fun i => renB (a.getD i []) o
def spRenB (S : Addr) : PSp := fun ss R _ => ∃ n a b o, ss = [stS S a b, .d (.tuple (natsD o))] ∧ Tab n a b ∧ 1 ≤ n ∧ n ≤ 8 ∧ o.length = n ∧ (∀ i ∈ o, i < n) ∧ R (stS S (renA a o) (renB b o))
def spRen (S CT CR : Addr) : PSp := fun ss R EX => (∃ d x, ss = [.d d, .d x] ∧ EX CT [("what", .str "steps")]) ∨ ∃ n a b x, ss = [stS S a b, .d x] ∧ Tab n a b ∧ 1 ≤ n ∧ n ≤ 8 ∧
  ((Sh1 x ∧ (∀ ns : List Int, (x = .list (intsD ns) ∨ x = .tuple (intsD ns)) → ¬ ns.Perm (rgI n)) ∧ EX CR [("row", x), ("what", .str "order")]) ∨
   ∃ o : List Nat, (x = .list (natsD o) ∨ x = .tuple (natsD o)) ∧ o.Perm (List.range n) ∧ R (stS S (renA a o) (renB b o)))
def scA (r : Rat) (a : List (List Rat)) : List (List Rat) := a.map fun row => row.map fun q => r * q
def ScB (S : Addr) (ss : List Sl) (R : Sl → Prop) : Prop := ∃ n a b r, ss = [stS S a b, .d (ratD r)] ∧ Tab n a b ∧ 1 ≤ n ∧ n ≤ 8 ∧ (∀ w ∈ a, ∀ q ∈ w, Br 4000 q) ∧ (∀ q ∈ b, Br 4000 q) ∧ Br 4000 r ∧ R (stS S (scA r a) (b.map fun q => r * q))
def spScB (S : Addr) : PSp := fun ss R _ => ScB S ss R
def spSc (S CT CN : Addr) : PSp := fun ss R EX => (∃ d x, ss = [.d d, .d x] ∧ EX CT [("what", .str "steps")]) ∨ ∃ n a b x, ss = [stS S a b, .d x] ∧ ((isRat x = false ∧ EX CN [("number", x), ("what", .str "r")]) ∨
  ∃ r, x = ratD r ∧ Tab n a b ∧ 1 ≤ n ∧ n ≤ 8 ∧ (∀ w ∈ a, ∀ q ∈ w, Br 4000 q) ∧ (∀ q ∈ b, Br 4000 q) ∧ Br 4000 r ∧ R (stS S (scA r a) (b.map fun q => r * q)))
def tbA (a : List (List Rat)) (b : List Rat) : List (List Rat) := a.map fun r => List.zipWith (fun p q => q + -p) r b
def TbB (S : Addr) (ss : List Sl) (R : Sl → Prop) : Prop := ∃ n a b, ss = [stS S a b] ∧ Tab n a b ∧ 1 ≤ n ∧ n ≤ 8 ∧ (∀ r ∈ a, ∀ q ∈ r, Br 4000 q) ∧ (∀ q ∈ b, Br 4000 q) ∧ R (stS S (tbA a b) b)
def spTbB (S : Addr) : PSp := fun ss R _ => TbB S ss R
def spTb (S CT : Addr) : PSp := fun ss R EX => (∃ d, ss = [.d d] ∧ EX CT [("what", .str "steps")]) ∨ TbB S ss R
def UnB (S : Addr) (ss : List Sl) (R : Sl → Prop) : Prop := ∃ n a b, ss = [stS S a b] ∧ Tab n a b ∧ 1 ≤ n ∧ n ≤ 8 ∧ (∀ r ∈ a, ∀ q ∈ r, Br 4000 q) ∧ (∀ q ∈ b, Br 4000 q) ∧ R (stS S (unA a b) (b.map fun q => -q))
def spUnB (S : Addr) : PSp := fun ss R _ => UnB S ss R
def spUn (S CT : Addr) : PSp := fun ss R EX => (∃ d, ss = [.d d] ∧ EX CT [("what", .str "steps")]) ∨ UnB S ss R
/-! ### plain lemmas -/
theorem row_of {x : PyData} {n : Nat} (h : rowOk x (n : Int) = true) : ∃ r, RowIn r x ∧ r.length = n := by
  unfold rowOk at h
  cases e : seqD x with
  | none => rw [e] at h; cases h
  | some l =>
    rw [e] at h
    simp only [Bool.and_eq_true, beq_iff_eq, List.all_eq_true] at h
    obtain ⟨h1, h2⟩ := h
    obtain ⟨r, hr⟩ : ∃ r : List Rat, l = r.map ratD := by
      clear e h1
      induction l with
      | nil => exact ⟨[], rfl⟩
      | cons d l ih =>
        obtain ⟨q, hq⟩ := rat_of (h2 d List.mem_cons_self)
        obtain ⟨r, hr⟩ := ih fun x hx => h2 x (List.mem_cons_of_mem _ hx)
        exact ⟨q :: r, by rw [hq, hr]; rfl⟩
    subst hr
    refine ⟨r, ?_, by rw [List.length_map] at h1; omega⟩
    cases x with
    | list l' => cases e; exact .inl rfl
    | tuple l' => cases e; exact .inr rfl
    | _ => cases e
theorem rows_of {n : Nat} : ∀ {l : List PyData}, (∀ d ∈ l, rowOk d (n : Int) = true) → ∃ a, RowsIn a l ∧ ∀ r ∈ a, r.length = n
  | [], _ => ⟨[], .nil, fun r hr => by cases hr⟩
  | d :: l, h => by
    obtain ⟨r, h1, h2⟩ := row_of (h d List.mem_cons_self)
    obtain ⟨a, h3, h4⟩ := rows_of (l := l) fun x hx => h x (List.mem_cons_of_mem _ hx)
    exact ⟨r :: a, .cons h1 h3, fun s hs => by rcases List.mem_cons.mp hs with rfl | hs; exact h2; exact h4 s hs⟩
theorem sh1_row {r : List Rat} {x : PyData} (h : RowIn r x) (hn : r.length ≤ 1000) : Sh1 x := row_seq h hn
theorem sh2_mat {a : List (List Rat)} {x : PyData} {xs : List PyData} (h : SeqOf xs x) (hr : RowsIn a xs) {n : Nat} {b : List Rat} (T : Tab n a b) (n8 : n ≤ 8) : Sh2 x := fun l e => by
  have : l = xs := by rcases h with rfl | rfl <;> (cases e; rfl)
  subst this
  refine ⟨by rw [rows_len hr, T.la]; omega, fun d hd => ?_⟩
  obtain ⟨r, h1, h2⟩ := rows_all hr T.lr d hd
  exact sh1_row h1 (by omega)
theorem matOk_of {a : List (List Rat)} {x : PyData} {xs : List PyData} (h : SeqOf xs x) (hr : RowsIn a xs) {n : Nat} {b : List Rat} (T : Tab n a b) (n1 : 1 ≤ n) (n8 : n ≤ 8) : matOk x = true := by
  have hl : xs.length = n := by rw [rows_len hr, T.la]
  have e : seqD x = some xs := by rcases h with rfl | rfl <;> rfl
  unfold matOk
  rw [e]
  simp only [Bool.and_eq_true, decide_eq_true_eq, List.all_eq_true]
  refine ⟨⟨by omega, by omega⟩, fun d hd => ?_⟩
  obtain ⟨r, h1, h2⟩ := rows_all hr T.lr d hd
  rw [hl]
  exact rowIn_ok h1 h2
theorem rowIn_inj {r s : List Rat} {x : PyData} (h : RowIn r x) (h' : RowIn s x) : r = s := by
  have inj : ∀ {r s : List Rat}, r.map ratD = s.map ratD → r = s := fun {r s} e => by
    induction r generalizing s with
    | nil => cases s with
      | nil => rfl
      | cons => cases e
    | cons q r ih => cases s with
      | nil => cases e
      | cons p s =>
        simp only [List.map_cons, List.cons.injEq] at e
        rw [(rat_inj e.1 : p = q), ih e.2]
  rcases h with rfl | rfl <;> rcases h' with h' | h' <;> first | (cases h'; done) | (injection h' with h'; exact inj h')
theorem rowsIn_inj : ∀ {a c : List (List Rat)} {xs : List PyData}, RowsIn a xs → RowsIn c xs → a = c
  | _, _, _, .nil, .nil => rfl
  | _, _, _, .cons h1 h2, .cons g1 g2 => by rw [rowIn_inj h1 g1, rowsIn_inj h2 g2]
/-- a table of what it may be made of -/
theorem init_ok {S CT CR : Addr} {n : Nat} {a : List (List Rat)} {b : List Rat} {x y : PyData} {xs : List PyData} {R : FD → Prop} {EX : Addr → FD → Prop} (hx : SeqOf xs x) (hr : RowsIn a xs) (hb : RowIn b y) (T : Tab n a b) (n1 : 1 ≤ n) (n8 : n ≤ 8) (h : R (fdS a b)) : spInit S CT CR [.d x, .d y] R EX := by
  have e : seqD x = some xs := by rcases hx with rfl | rfl <;> rfl
  refine ⟨x, y, rfl, sh2_mat hx hr T n8, sh1_row hb (by have := T.lb; omega), fun z => ?_, fun l e' _ z => ?_, fun m a' b' ys e1 h1 h2 _ _ _ => ?_⟩
  · rw [matOk_of hx hr T n1 n8] at z; cases z
  · rw [e] at e'
    cases e'
    rw [rows_len hr, T.la, rowIn_ok hb T.lb] at z
    cases z
  · rw [e] at e1
    cases e1
    rw [rowsIn_inj h1 hr, rowIn_inj h2 hb]
    exact h
theorem sum_br : ∀ {l : List Rat}, (∀ q ∈ l, Br 100 q) → Br (101 * l.length + 1) (l.foldl (fun a b => a + b) 0) := fun {l} h => by
  have go : ∀ (l : List Rat) (k : Nat) (a : Rat), Br k a → 1 ≤ k → (∀ q ∈ l, Br 100 q) → Br (101 * l.length + k) (l.foldl (fun a b => a + b) a) := by
    intro l
    induction l with
    | nil => intro k a h _ _; simpa using h
    | cons q l ih =>
      intro k a h hk hl
      rw [List.foldl_cons]
      have := ih (k + 100 + 1) (a + q) (br_add h (hl q List.mem_cons_self)) (by omega) fun p hp => hl p (List.mem_cons_of_mem _ hp)
      exact br_up this (by rw [List.length_cons]; omega)
  exact go l 1 0 (br_zero (n := 0)) (by decide) h
theorem enumR_map (l : List (List Rat)) : enumD (l.map rowD) = l.zipIdx.map fun p => .tuple [.int (p.2 : Nat), rowD p.1] := by
  unfold enumD
  rw [List.zipIdx_map, List.map_map]
  rfl
theorem expl_all (a : List (List Rat)) : (((a.zipIdx.flatMap fun p => p.1.drop p.2).map ratD).all fun d => decide (topD d = 0)) = explB a := by
  unfold explB
  rw [List.all_map, List.all_flatMap]
  congr 1
  funext p
  congr 1
  funext q
  simp only [Function.comp]
  rw [topD_rat]
theorem init_tab {n : Nat} {a : List (List Rat)} {b : List Rat} {f : List Rat → List Rat} {b' : List Rat} (T : Tab n a b) (hf : ∀ r ∈ a, (f r).length = n) (hb : b'.length = n) : Tab n (a.map f) b' := ⟨by rw [List.length_map]; exact T.la, fun r hr => by
  obtain ⟨s, hs, rfl⟩ := List.mem_map.mp hr
  exact hf s hs, hb⟩
theorem tab_sc {n : Nat} {a : List (List Rat)} {b : List Rat} {r : Rat} (T : Tab n a b) : Tab n (scA r a) (b.map fun q => r * q) := init_tab T (fun s hs => by rw [List.length_map]; exact T.lr s hs) (by rw [List.length_map]; exact T.lb)
theorem tab_tb {n : Nat} {a : List (List Rat)} {b : List Rat} (T : Tab n a b) : Tab n (tbA a b) b := init_tab T (fun s hs => by rw [List.length_zipWith, T.lr s hs, T.lb, Nat.min_self]) T.lb
theorem tab_ren {n : Nat} {a : List (List Rat)} {b : List Rat} {o : List Nat} (T : Tab n a b) (ho : o.length = n) : Tab n (renA a o) (renB b o) := ⟨by unfold renA; rw [List.length_map]; exact ho, fun r hr => by
  obtain ⟨i, _, rfl⟩ := List.mem_map.mp hr
  unfold renB; rw [List.length_map]; exact ho, by unfold renB; rw [List.length_map]; exact ho⟩
/-! ### orders -/
theorem rgD_ints (n : Nat) : rgD 0 (n : Int) = intsD (rgI n) := by
  unfold rgD rangeD intsD rgI
  rw [List.map_map, show ((n : Int) - 0).toNat = n by omega]
  refine List.map_congr_left fun i _ => ?_
  rw [Int.zero_add]; rfl
theorem okE_intsL (ns : List Int) : Px.okE (.list (intsD ns)) = true := okN_E (okN_lst (n := 0) fun d hd => by
  obtain ⟨i, _, rfl⟩ := List.mem_map.mp hd
  exact okN_int i) (by decide)
theorem eqv_ints : ∀ a b : List Int, PyData.eqvAll (intsD a) (intsD b) = decide (a = b)
  | [], [] => rfl
  | [], _ :: _ => rfl
  | _ :: _, [] => rfl
  | i :: a, j :: b => by
    have := eqv_ints a b
    unfold intsD at this ⊢
    rw [List.map_cons, List.map_cons]
    unfold PyData.eqvAll
    rw [eqv_int, this]
    by_cases h : i = j <;> by_cases h' : a = b <;> simp [h, h']
theorem eqv_intsL (a b : List Int) : PyData.eqv (.list (intsD a)) (.list (intsD b)) = decide (a = b) := by
  rw [← eqv_ints]
  simp [PyData.eqv]
theorem rgI_sorted (n : Nat) : (rgI n).Pairwise (· ≤ ·) := by
  unfold rgI
  rw [List.pairwise_map]
  exact (List.pairwise_lt_range (n := n)).imp fun h => by omega
theorem sort_eq {a : List Int} {n : Nat} (h : a.Perm (rgI n)) (s : a.Pairwise (· ≤ ·)) : a = rgI n := h.eq_of_pairwise (fun x y _ _ h1 h2 => Int.le_antisymm h1 h2) s (rgI_sorted n)
theorem idx_ints {x : PyData} {n : Nat} (h : idxOk x n = true) : ∃ ns : List Int, (x = .list (intsD ns) ∨ x = .tuple (intsD ns)) ∧ ns.length = n := by
  unfold idxOk at h
  cases e : seqD x with
  | none => rw [e] at h; cases h
  | some l =>
    rw [e] at h
    simp only [Bool.and_eq_true, beq_iff_eq, List.all_eq_true] at h
    obtain ⟨h1, h2⟩ := h
    obtain ⟨r, hr⟩ : ∃ r : List Int, l = intsD r := by
      clear e h1
      induction l with
      | nil => exact ⟨[], rfl⟩
      | cons d l ih =>
        have h3 := h2 d List.mem_cons_self
        obtain ⟨r, hr⟩ := ih fun x hx => h2 x (List.mem_cons_of_mem _ hx)
        cases d <;> simp [isIntD] at h3
        rename_i i
        exact ⟨i :: r, by rw [hr]; rfl⟩
    subst hr
    refine ⟨r, ?_, by unfold intsD at h1; rw [List.length_map] at h1; omega⟩
    cases x with
    | list l' => cases e; exact .inl rfl
    | tuple l' => cases e; exact .inr rfl
    | _ => cases e
theorem natsD_ints (o : List Nat) : natsD o = intsD (o.map fun (i : Nat) => (i : Int)) := by unfold natsD intsD; rw [List.map_map]; rfl
theorem intsD_inj : ∀ {a b : List Int}, intsD a = intsD b → a = b
  | [], [], _ => rfl
  | [], _ :: _, h => by cases h
  | _ :: _, [], h => by cases h
  | i :: a, j :: b, h => by
    unfold intsD at h
    simp only [List.map_cons, List.cons.injEq, PyData.int.injEq] at h
    obtain ⟨rfl, h2⟩ := h
    rw [intsD_inj (a := a) (b := b) (by unfold intsD; exact h2)]
theorem ints_inj {x : PyData} {o : List Nat} {ns : List Int} (h : x = .list (natsD o) ∨ x = .tuple (natsD o)) (h' : x = .list (intsD ns) ∨ x = .tuple (intsD ns)) : ns = o.map fun (i : Nat) => (i : Int) := by
  rw [natsD_ints] at h
  rcases h with rfl | rfl <;> rcases h' with h' | h' <;> first | (cases h'; done) | (injection h' with h'; exact (intsD_inj h').symm)
theorem idx_nats {x : PyData} {o : List Nat} {n : Nat} (h : x = .list (natsD o) ∨ x = .tuple (natsD o)) (hl : o.length = n) : idxOk x n = true := by
  have e : seqD x = some (natsD o) := by rcases h with rfl | rfl <;> rfl
  unfold idxOk
  rw [e]
  simp only [Bool.and_eq_true, beq_iff_eq, List.all_eq_true]
  refine ⟨by unfold natsD; rw [List.length_map, hl], fun d hd => ?_⟩
  obtain ⟨i, _, rfl⟩ := List.mem_map.mp hd
  rfl

local macro_rules | `(tactic| walk_at "pv") => `(tactic| simp only [psParNN, psParNE, pLstN, psAppPop, psExt, pSlO, pIxO, psSetI, pTr, pLendN, pLcN, pLend, uAt_a, uAt_b, List.length_map, uIsO, pMake, psOwnN, pListN, pLr, pRg1, pRg2, pTupO, pLenO, oRep, pChain, iEnumP, iZipTL, List.lookup_cons, psSeq, psSet, psPar, psIf, psRet, psDrop, psCont, psNext, psAsg, psFor, psRaise, psOwn, psApp, psShow, uIsP, uFld, pCallE, pdNo, pVar, nth, pC, pOp, pUn, oI, oI0, uI, oAdd, oEq, oEqE, eqv_rat0, List.isEmpty_nil, List.isEmpty_cons, oNe, oIs, oNis, oIx, pNil, pCons, allD, pTup, pLst, pDisp0, bOf, ptB, ptAnd, ptOr, ptNot, pIf, pAndV, pOrV, pNotV, pCalln, pB, bInt, bAbs, bGcd, bLen, bList, bTuple, bRepr, bAll, uIsi, uIsi2, pgName, pgNil, pgCons, pgTup, Px.iR1, Px.iR2, Px.iS, Px.iZip, iZipU, pSl, pNo, pSome, pLc, pYes, noOwn, noOwn1, wipeE, pdOf, startP, List.set, List.map, List.append, List.cons_append, List.nil_append, List.length_cons, List.length_nil, List.replicate, Nat.reduceAdd, Nat.reduceSub, List.getElem?_cons_zero, List.getElem?_cons_succ, isNone, isBool, oSub, oMul, oDiv, oMod, oPow, oLt, oLe, oGt, oGe, at_0, at_1, okE_int, okE_bool, okE_none, okE_rat, eqv_int, eqv_ti, isTy_int_int, isTy_int_tup, isTy_tup_tup, isTy_tup_int, isTy_bool_int, true_and, and_true, beq_iff_eq, decide_eq_true_eq, decide_eq_false_iff_not, beq_eq_false_iff_ne, Bool.not_true, Bool.not_false, Bool.not_eq_true', Bool.not_eq_false', Nat.reduceLeDiff, Option.some.injEq, exists_eq_left', exists_eq_left, forall_const, true_imp_iff, Bool.false_eq_true, Bool.true_eq_false, false_imp_iff, reduceCtorEq])
local macro_rules | `(tactic| walk_at "pvs") => `(tactic| simp [isTy, tyN, at_0, at_1, okE_int, okE_bool, okE_none, eqv_int, oLt, oLe, oGt, oGe, oSub, oMul, oDiv, oMod, oI, oI0])
local macro_rules | `(tactic| walk_at "pvh") => `(tactic| simp only [psParNN, psParNE, pLstN, psAppPop, psExt, pSlO, pIxO, psSetI, pTr, pLendN, pLcN, pLend, uAt_a, uAt_b, List.length_map, uIsO, pMake, psOwnN, pListN, pLr, pRg1, pRg2, pTupO, pLenO, oRep, pChain, iEnumP, iZipTL, List.lookup_cons, psSeq, psSet, psPar, psIf, psRet, psDrop, psCont, psNext, psAsg, psFor, psRaise, psOwn, psApp, psShow, uIsP, uFld, pCallE, pdNo, pVar, nth, pC, pOp, pUn, oI, oI0, uI, oAdd, oEq, oEqE, eqv_rat0, List.isEmpty_nil, List.isEmpty_cons, oNe, oIs, oNis, oIx, pNil, pCons, allD, pTup, pLst, pDisp0, bOf, ptB, ptAnd, ptOr, ptNot, pIf, pAndV, pOrV, pNotV, pCalln, pB, bInt, bAbs, bGcd, bLen, bList, bTuple, bRepr, bAll, uIsi, uIsi2, pgName, pgNil, pgCons, pgTup, Px.iR1, Px.iR2, Px.iS, Px.iZip, iZipU, pSl, pNo, pSome, pLc, pYes, noOwn, noOwn1, wipeE, pdOf, startP, List.set, List.map, List.append, List.cons_append, List.nil_append, List.length_cons, List.length_nil, List.replicate, Nat.reduceAdd, Nat.reduceSub, List.getElem?_cons_zero, List.getElem?_cons_succ, isNone, isBool, oSub, oMul, oDiv, oMod, oPow, oLt, oLe, oGt, oGe, at_0, at_1, okE_int, okE_bool, okE_none, okE_rat, eqv_int, eqv_ti, isTy_int_int, isTy_int_tup, isTy_tup_tup, isTy_tup_int, isTy_bool_int, true_and, and_true, beq_iff_eq, decide_eq_true_eq, decide_eq_false_iff_not, beq_eq_false_iff_ne, Bool.not_true, Bool.not_false, Bool.not_eq_true', Bool.not_eq_false', Nat.reduceLeDiff, Option.some.injEq, exists_eq_left', exists_eq_left, forall_const, true_imp_iff, Bool.false_eq_true, Bool.true_eq_false, false_imp_iff, reduceCtorEq, if_true, if_false, not_false_eq_true, not_true_eq_false, *])
local macro_rules | `(tactic| walk_at "env") => `(tactic| try simp only [startP, List.map, List.append, List.cons_append, List.nil_append, List.length_cons, List.length_nil, List.replicate, Nat.reduceAdd, Nat.reduceSub, List.set_cons_zero, List.set_cons_succ])

abbrev s_less_by : Stmt := topS 27
theorem sc_less_by : FnScope ["one", "other"] ["one", "other"] (defScope s_less_by) := ⟨rfl, rfl, rfl, by decide +kernel, rfl, by decide +kernel, by decide +kernel⟩
abbrev s_is_list : Stmt := topS 29
theorem sc_is_list : FnScope ["value"] ["value"] (defScope s_is_list) := ⟨rfl, rfl, rfl, by decide +kernel, rfl, by decide +kernel, by decide +kernel⟩
abbrev s_is_row : Stmt := topS 30
theorem sc_is_row : FnScope ["value", "many", "one"] ["value", "many"] (defScope s_is_row) := ⟨rfl, rfl, rfl, by decide +kernel, rfl, by decide +kernel, by decide +kernel⟩
abbrev s_is_indexes : Stmt := topS 31
theorem sc_is_indexes : FnScope ["value", "many", "one"] ["value", "many"] (defScope s_is_indexes) := ⟨rfl, rfl, rfl, by decide +kernel, rfl, by decide +kernel, by decide +kernel⟩
abbrev s_is_all_numbers : Stmt := topS 32
theorem sc_is_all_numbers : FnScope ["value", "many"] ["value", "many"] (defScope s_is_all_numbers) := ⟨rfl, rfl, rfl, by decide +kernel, rfl, by decide +kernel, by decide +kernel⟩
abbrev s_need_steps : Stmt := topS 36
theorem sc_need_steps : FnScope ["steps", "what"] ["steps", "what"] (defScope s_need_steps) := ⟨rfl, rfl, rfl, by decide +kernel, rfl, by decide +kernel, by decide +kernel⟩
abbrev s_total : Stmt := topS 37
theorem sc_total : FnScope ["row", "found", "one"] ["row"] (defScope s_total) := ⟨rfl, rfl, rfl, by decide +kernel, rfl, by decide +kernel, by decide +kernel⟩
abbrev s_nodes_by : Stmt := topS 38
theorem sc_nodes_by : FnScope ["steps", "row"] ["steps"] (defScope s_nodes_by) := ⟨rfl, rfl, rfl, by decide +kernel, rfl, by decide +kernel, by decide +kernel⟩
abbrev s_nodes : Stmt := topS 39
theorem sc_nodes : FnScope ["steps"] ["steps"] (defScope s_nodes) := ⟨rfl, rfl, rfl, by decide +kernel, rfl, by decide +kernel, by decide +kernel⟩
abbrev s_is_explicit_by : Stmt := topS 40
theorem sc_is_explicit_by : FnScope ["steps", "one", "i", "row"] ["steps"] (defScope s_is_explicit_by) := ⟨rfl, rfl, rfl, by decide +kernel, rfl, by decide +kernel, by decide +kernel⟩
abbrev s_is_explicit : Stmt := topS 41
theorem sc_is_explicit : FnScope ["steps"] ["steps"] (defScope s_is_explicit) := ⟨rfl, rfl, rfl, by decide +kernel, rfl, by decide +kernel, by decide +kernel⟩
abbrev s_renumbered_by : Stmt := topS 42
theorem sc_renumbered_by : FnScope ["steps", "order", "i", "k"] ["steps", "order"] (defScope s_renumbered_by) := ⟨rfl, rfl, rfl, by decide +kernel, rfl, by decide +kernel, by decide +kernel⟩
abbrev s_renumbered : Stmt := topS 43
theorem sc_renumbered : FnScope ["steps", "order"] ["steps", "order"] (defScope s_renumbered) := ⟨rfl, rfl, rfl, by decide +kernel, rfl, by decide +kernel, by decide +kernel⟩
abbrev s_scaled_by : Stmt := topS 44
theorem sc_scaled_by : FnScope ["steps", "r", "row", "one"] ["steps", "r"] (defScope s_scaled_by) := ⟨rfl, rfl, rfl, by decide +kernel, rfl, by decide +kernel, by decide +kernel⟩
abbrev s_scaled : Stmt := topS 45
theorem sc_scaled : FnScope ["steps", "r"] ["steps", "r"] (defScope s_scaled) := ⟨rfl, rfl, rfl, by decide +kernel, rfl, by decide +kernel, by decide +kernel⟩
abbrev s_turned_back_by : Stmt := topS 46
theorem sc_turned_back_by : FnScope ["steps", "row", "one", "b"] ["steps"] (defScope s_turned_back_by) := ⟨rfl, rfl, rfl, by decide +kernel, rfl, by decide +kernel, by decide +kernel⟩
abbrev s_turned_back : Stmt := topS 47
theorem sc_turned_back : FnScope ["steps"] ["steps"] (defScope s_turned_back) := ⟨rfl, rfl, rfl, by decide +kernel, rfl, by decide +kernel, by decide +kernel⟩
abbrev s_undone_by : Stmt := topS 48
theorem sc_undone_by : FnScope ["steps", "rows", "row", "one", "b"] ["steps"] (defScope s_undone_by) := ⟨rfl, rfl, rfl, by decide +kernel, rfl, by decide +kernel, by decide +kernel⟩
abbrev s_undone : Stmt := topS 49
theorem sc_undone : FnScope ["steps"] ["steps"] (defScope s_undone) := ⟨rfl, rfl, rfl, by decide +kernel, rfl, by decide +kernel, by decide +kernel⟩
abbrev s_Steps_init : Stmt := inClass (topS 35) 0
theorem sc_Steps_init : FnScope ["self", "a", "b", "row"] ["self", "a", "b"] (defScope s_Steps_init) := ⟨rfl, rfl, rfl, by decide +kernel, rfl, by decide +kernel, by decide +kernel⟩
abbrev s_Steps_eq : Stmt := inClass (topS 35) 1
theorem sc_Steps_eq : FnScope ["self", "other"] ["self", "other"] (defScope s_Steps_eq) := ⟨rfl, rfl, rfl, by decide +kernel, rfl, by decide +kernel, by decide +kernel⟩
section
variable {P : Program} {w : World} {K : PySem.W.Frag} {mg : Str → Option Value} {base : Heap} {c : Cc} {S_Steps C_BadNumber C_BadRow C_BadTable C_TooMany S : Addr} {Cs : Nat → Addr} {cd P' : Addr}

theorem d_less_by (F : Has K mg "less_by" s_less_by) (T : Blt mg) (D_added : KpO P w K mg base c 2 "added" ["one", "other"] (spR2 C0 fAdd)) (D_opposite : KpO P w K mg base c 1 "opposite" ["number"] (spR1 fNeg)) : KpO P w K mg base c 3 "less_by" ["one", "other"] (spR2 C0 fSub) := by
  refine keepO F (fun _ _ _ _ _ _ us hl => match us, hl with | [_, _], _ => rfl) sc_less_by (fun f cdv A outer s H E hr => ⟨_, (pus_one (pus_ret (pu_callO D_added hr takesF (pa_cons' (pu_var 0) (pa_cons' (pu_callO D_opposite hr takesF (pa_cons' (pu_var 1) pa_nil')) pa_nil'))))), fun ss R EX hl h => ?_⟩)
  obtain ⟨p, q, rfl, bp, bq, _, h⟩ := h
  walk_at "pv"
  exact ⟨q, rfl, p, -q, rfl, bp, br_neg bq, True.intro, h⟩
theorem d_is_list (F : Has K mg "is_list" s_is_list) (T : Blt mg)  : KpO P w K mg base c 1 "is_list" ["value"] (spList) := by
  refine keepO F (fun _ _ _ _ _ _ us hl => match us, hl with | [_], _ => rfl) sc_is_list (fun f cdv A outer s H E hr => ⟨_, (pus_one (pus_ret (pu_isi2 isi_list isi_tuple T.b_isinstance T.b_list (by decide +kernel) T.b_tuple (by decide +kernel) (pu_var 0)))), fun ss R EX hl h => ?_⟩)
  obtain ⟨x, rfl, h⟩ := h
  walk_at "pv"
  exact h
theorem d_is_row (F : Has K mg "is_row" s_is_row) (T : Blt mg) (D_is_list : KpO P w K mg base c 1 "is_list" ["value"] (spList)) (D_is_ratio : KpO P w K mg base c 2 "is_ratio" ["value"] (spIsRat)) : KpO P w K mg base c 3 "is_row" ["value", "many"] (spIsRow) := by
  refine keepO F (fun _ _ _ _ _ _ us hl => match us, hl with | [_, _], _ => rfl) sc_is_row (fun f cdv A outer s H E hr => ⟨_, (pus_one (pus_ret (pu_and (pu_callO D_is_list hr takesF (pa_cons' (pu_var 0) pa_nil')) (pu_and (pu_cmp (op_eqD (hu64 hr)) ro_eq (pu_callB c_len rb_len T.b_len PySem.boot_len (pa_cons' (pu_var 0) pa_nil')) (pu_var 1)) (pu_one (pu_callB (cr_all rfl) rb_all T.b_all (by decide +kernel) (pa_cons' (pu_lc (own := [("one", 2)]) rfl sc_is_row.nd (pui_seq (pu_var 0)) (blkOk_by (by show blkC ["value", "many", "one"] (defScope s_is_row) _ _ = true; decide +kernel)) (fun ci => (pug_name (i := 2) sc_is_row.nd)) (fun ci => (pu_callO D_is_ratio hr takes0 (pa_cons' (pu_var 2) pa_nil')))) pa_nil'))))))), fun ss R EX hl h => ?_⟩)
  obtain ⟨x, n, rfl, hb, h⟩ := h
  have lc : ∀ l : List PyData, l.length ≤ 1000 → ∀ K : List PyData → Prop, K (l.map fun d => .bool (isRat d)) → pLcL (pgName 2) pYes (pCalln 1 spIsRat (pCons (pVar 2) pNil)) [some (.d x), some (.d (.int n)), none] l [] K := fun l hl K hK => by
    refine lc_map (fun d => .bool (isRat d)) (by omega) (fun d _ R hR => ?_) hK
    walk_at "pv"
    exact ⟨d, rfl, hR⟩
  have go : ∀ l : List PyData, seqD x = some l → ((l.length : Int) = n → R (.d (.bool (l.all isRat)))) ∧ ((l.length : Int) ≠ n → R (.d (.bool false))) := fun l e => by
    unfold rowOk at h
    rw [e] at h
    refine ⟨fun z => ?_, fun z => ?_⟩
    · have z1 : ((l.length : Int) == n) = true := by simpa using z
      simpa [z1] using h
    · have z1 : ((l.length : Int) == n) = false := by simpa using z
      simpa [z1] using h
  walk_at "pv"
  refine ⟨x, rfl, ?_⟩
  have fin : ∀ l : List PyData, seqD x = some l → l.length ≤ 1000 → (l.length : Int) = n → pLcL (pgName 2) pYes (pCalln 1 spIsRat (pCons (pVar 2) pNil)) [some (.d x), some (.d (.int n)), none] l [] fun es => ∃ bs, boolsOf es = some bs ∧ R (.d (.bool (bs.all id))) := fun l e hl hn => by
    refine lc l hl _ ⟨l.map isRat, bools_israt l, ?_⟩
    rw [all_israt]
    exact (go l e).1 hn
  cases x with
  | list l =>
    refine ⟨fun _ => ?_, fun z => by simp [isTy, tyN] at z⟩
    walk_at "pv"
    exact ⟨fun z => fin l rfl (hb l rfl) z, fun z => (go l rfl).2 z⟩
  | tuple l =>
    refine ⟨fun _ => ?_, fun z => by simp [isTy, tyN] at z⟩
    walk_at "pv"
    exact ⟨fun z => fin l rfl (hb l rfl) z, fun z => (go l rfl).2 z⟩
  | _ =>
    refine ⟨fun z => by simp [isTy, tyN] at z, fun _ => ?_⟩
    exact h
theorem d_is_indexes (F : Has K mg "is_indexes" s_is_indexes) (T : Blt mg) (D_is_integer : KpO P w K mg base c 1 "is_integer" ["value"] (spIsInt)) (D_is_list : KpO P w K mg base c 1 "is_list" ["value"] (spList)) : KpO P w K mg base c 2 "is_indexes" ["value", "many"] (spIdx) := by
  refine keepO F (fun _ _ _ _ _ _ us hl => match us, hl with | [_, _], _ => rfl) sc_is_indexes (fun f cdv A outer s H E hr => ⟨_, (pus_one (pus_ret (pu_and (pu_callO D_is_list hr takesF (pa_cons' (pu_var 0) pa_nil')) (pu_and (pu_cmp (op_eqD (hu64 hr)) ro_eq (pu_callB c_len rb_len T.b_len PySem.boot_len (pa_cons' (pu_var 0) pa_nil')) (pu_var 1)) (pu_one (pu_callB (cr_all rfl) rb_all T.b_all (by decide +kernel) (pa_cons' (pu_lc (own := [("one", 2)]) rfl sc_is_indexes.nd (pui_seq (pu_var 0)) (blkOk_by (by show blkC ["value", "many", "one"] (defScope s_is_indexes) _ _ = true; decide +kernel)) (fun ci => (pug_name (i := 2) sc_is_indexes.nd)) (fun ci => (pu_callO D_is_integer hr takes0 (pa_cons' (pu_var 2) pa_nil')))) pa_nil'))))))), fun ss R EX hl h => ?_⟩)
  obtain ⟨x, n, rfl, hb, h⟩ := h
  have lc : ∀ l : List PyData, l.length ≤ 1000 → ∀ K : List PyData → Prop, K (l.map fun d => .bool (isIntD d)) → pLcL (pgName 2) pYes (pCalln 1 spIsInt (pCons (pVar 2) pNil)) [some (.d x), some (.d (.int n)), none] l [] K := fun l hl K hK => by
    refine lc_map (fun d => .bool (isIntD d)) (by omega) (fun d _ R hR => ?_) hK
    walk_at "pv"
    exact ⟨d, rfl, hR⟩
  have go : ∀ l : List PyData, seqD x = some l → ((l.length : Int) = n → R (.d (.bool (l.all isIntD)))) ∧ ((l.length : Int) ≠ n → R (.d (.bool false))) := fun l e => by
    unfold idxOk at h
    rw [e] at h
    refine ⟨fun z => ?_, fun z => ?_⟩
    · have z1 : ((l.length : Int) == n) = true := by simpa using z
      simpa [z1] using h
    · have z1 : ((l.length : Int) == n) = false := by simpa using z
      simpa [z1] using h
  walk_at "pv"
  refine ⟨x, rfl, ?_⟩
  have fin : ∀ l : List PyData, seqD x = some l → l.length ≤ 1000 → (l.length : Int) = n → pLcL (pgName 2) pYes (pCalln 1 spIsInt (pCons (pVar 2) pNil)) [some (.d x), some (.d (.int n)), none] l [] fun es => ∃ bs, boolsOf es = some bs ∧ R (.d (.bool (bs.all id))) := fun l e hl hn => by
    refine lc l hl _ ⟨l.map isIntD, bools_map l, ?_⟩
    rw [all_idmap]
    exact (go l e).1 hn
  cases x with
  | list l =>
    refine ⟨fun _ => ?_, fun z => by simp [isTy, tyN] at z⟩
    walk_at "pv"
    exact ⟨fun z => fin l rfl (hb l rfl) z, fun z => (go l rfl).2 z⟩
  | tuple l =>
    refine ⟨fun _ => ?_, fun z => by simp [isTy, tyN] at z⟩
    walk_at "pv"
    exact ⟨fun z => fin l rfl (hb l rfl) z, fun z => (go l rfl).2 z⟩
  | _ =>
    refine ⟨fun z => by simp [isTy, tyN] at z, fun _ => ?_⟩
    exact h
theorem d_is_all_numbers (F : Has K mg "is_all_numbers" s_is_all_numbers) (T : Blt mg) (Z : Blx mg) (D_is_indexes : KpO P w K mg base c 2 "is_indexes" ["value", "many"] (spIdx)) : KpO P w K mg base c 3 "is_all_numbers" ["value", "many"] (spAllN) := by
  refine keepO F (fun _ _ _ _ _ _ us hl => match us, hl with | [_, _], _ => rfl) sc_is_all_numbers (fun f cdv A outer s H E hr => ⟨_, (pus_cons (pus_if (pt_not' (pt_val' (pu_callO D_is_indexes hr takesF (pa_cons' (pu_var 0) (pa_cons' (pu_var 1) pa_nil'))))) (pus_one (pus_ret pu_bl)) pus_nil)
    (pus_one (pus_ret (pu_cmp (op_eqD (hu64 hr)) ro_eq (pu_callB cr_sorted2 rb_sorted Z.s (by decide +kernel) (pa_cons' (pu_var 0) pa_nil')) (pu_listRg rfl T.b_list (purg_1 T.b_range (pu_var 1))))))), fun ss R EX hl h => ?_⟩)
  obtain ⟨x, n, rfl, hn, hb, h1, h2⟩ := h
  refine if_opt (!idxOk x n) (fun R' hR => not_i (idxOk x n) (fun R' hR => ?_) hR) (fun z => ?_) (fun z => ?_)
  · walk_at "pv"
    exact ⟨x, n, rfl, hb, hR⟩
  · walk_at "pv"
    exact h1 (by simpa using z)
  · have z : idxOk x n = true := by simpa using z
    obtain ⟨ns, hx, hl⟩ := idx_ints z
    obtain ⟨k1, k2⟩ := h2 ns hx hl
    walk_at "pv"
    refine ⟨x, ns, rfl, hx, fun ns' p1 p2 => ⟨by omega, okE_intsL _, by rw [rgD_ints]; exact okE_intsL _, ?_⟩⟩
    rw [rgD_ints, eqv_intsL]
    by_cases e : ns.Perm (rgI n)
    · rw [decide_eq_true (sort_eq (p1.trans e) p2)]
      exact k1 e
    · rw [decide_eq_false fun z => e (by rw [← z]; exact p1.symm)]
      exact k2 e
theorem d_Steps_init {qI : Str} {fI : Addr} {fdI : FuncData} (Fu : Fun K "__init__" qI s_Steps_init fI fdI) (T : Blt mg) (Z : Blx mg) (O_Steps : ObK K mg "Steps" S_Steps ["a", "b"]) (X_BadRow : XcI K mg "BadRow" C_BadRow ["what", "row"]) (X_BadTable : XcI K mg "BadTable" C_BadTable ["what"]) (D_is_list : KpO P w K mg base c 1 "is_list" ["value"] (spList)) (D_is_row : KpO P w K mg base c 3 "is_row" ["value", "many"] (spIsRow)) : FnOk P w K mg base (L2.CX P w) 4 fI fdI ["self", "a", "b"] (liftI c S_Steps 2 (spInit S_Steps C_BadTable C_BadRow)) := by
  refine keepI (ps := ["a", "b"]) Fu sc_Steps_init (fun f cdv A outer s H E hr => ⟨_, (pus_cons (pus_if (PuW.pt (pw_or' (pt_not' (pt_val' (pu_callO D_is_list hr takesF (pa_cons' (pu_var 1) pa_nil')))) (pw_or' (pt_not' (pt_chain' op_le ro_le op_le ro_le pu_int (pu_callB c_len rb_len T.b_len PySem.boot_len (pa_cons' (pu_var 1) pa_nil')) (pu_const_MOST_STAGES Z))) (pw_or1' (pt_not' (pt_val' (pu_callB (cr_all rfl) rb_all T.b_all (by decide +kernel) (pa_cons' (pu_lc (own := [("row", 3)]) rfl sc_Steps_init.nd (pui_seq (pu_var 1)) (blkOk_by (by show blkC ["self", "a", "b", "row"] (defScope s_Steps_init) _ _ = true; decide +kernel)) (fun ci => (pug_name (i := 3) sc_Steps_init.nd)) (fun ci => (pu_callO D_is_row hr takes0 (pa_cons' (pu_var 3) (pa_cons' (pu_callB c_len rb_len T.b_len PySem.boot_len (pa_cons' (pu_var 1) pa_nil')) pa_nil'))))) pa_nil')))))))) (pus_one (pus_raise X_BadTable hr takesF (pa_cons' pu_str pa_nil'))) pus_nil)
    (pus_cons (pus_if (pt_not' (pt_val' (pu_callO D_is_row hr takesF (pa_cons' (pu_var 2) (pa_cons' (pu_callB c_len rb_len T.b_len PySem.boot_len (pa_cons' (pu_var 1) pa_nil')) pa_nil'))))) (pus_one (pus_raise X_BadRow hr takesF (pa_cons' pu_str (pa_cons' (pu_var 2) pa_nil')))) pus_nil)
    (pus_cons (pus_fld (i := 0) O_Steps.o (pu_callTy c_tuple rb_tuple T.b_tuple (by decide +kernel) (pa_cons' (pu_lc (own := [("row", 3)]) rfl sc_Steps_init.nd (pui_seq (pu_var 1)) (blkOk_by (by show blkC ["self", "a", "b", "row"] (defScope s_Steps_init) _ _ = true; decide +kernel)) (fun ci => (pug_name (i := 3) sc_Steps_init.nd)) (fun ci => (pu_callTy c_tuple rb_tuple T.b_tuple (by decide +kernel) (pa_cons' (pu_var 3) pa_nil')))) pa_nil')))
    (pus_one (pus_fld (i := 0) O_Steps.o (pu_callTy c_tuple rb_tuple T.b_tuple (by decide +kernel) (pa_cons' (pu_var 2) pa_nil'))))))), fun x ss R EX hl h => ?_⟩)
  obtain ⟨x', y, rfl, hsx, hsy, e1, e2, h⟩ := h
  have len : ∀ {env : Ev} {R : Sl → Prop} {E : XP} {l : List PyData}, nth env 1 = some (.d x') → seqD x' = some l → R (.d (.int (l.length : Int))) → pB bLen (pCons (pVar 1) pNil) env R E := fun {env R E l} e hl hR => by
    simp only [pB, pCons, pVar, e, pNil]
    cases x' <;> simp [seqD] at hl <;> (subst hl; exact hR)
  have itr : ∀ {env : Ev} {R : List PyData → Prop} {E : XP} {l : List PyData}, nth env 1 = some (.d x') → seqD x' = some l → R l → Px.iS (pVar 1) env R E := fun {env R E l} e hl hR => by
    simp only [Px.iS, pVar, e]
    cases x' <;> simp [seqD] at hl <;> (subst hl; exact hR)
  cases hq : seqD x' with
  | none =>
    have hm : matOk x' = false := by unfold matOk; rw [hq]
    refine if_yes (fun R' hR => or_yes (fun R' hR => not_i false (fun R' hR => ?_) hR) hR) ?_
    · walk_at "pv"
      refine ⟨x', rfl, ?_⟩
      have : (isTy "list" x' || isTy "tuple" x') = false := by cases x' <;> simp [seqD] at hq <;> simp [isTy, tyN]
      rw [this]; exact hR
    · walk_at "pv"
      exact e1 hm
  | some l =>
    have tyx : (isTy "list" x' || isTy "tuple" x') = true := by cases x' <;> simp [seqD] at hq <;> simp [isTy, tyN]
    obtain ⟨hl1, hl2⟩ := hsx l hq
    have tot : matOk x' = (decide (1 ≤ l.length) && decide (l.length ≤ 8) && l.all fun d => rowOk d (l.length : Int)) := by unfold matOk; rw [hq]
    have allc : ∀ {R : Bool → Prop} {env : Ev} {E : XP}, env = [some (.slf x S_Steps []), some (.d x'), some (.d y), none] → R (l.all fun d => rowOk d (l.length : Int)) → ptB (pB bAll (pCons (pLc (Px.iS (pVar 1)) (pgName 3) pYes (pCalln 2 spIsRow (pCons (pVar 3) (pCons (pB bLen (pCons (pVar 1) pNil)) pNil))) [3]) pNil)) env R E := by
      rintro R env E rfl hR
      refine tB_i _ (fun R' hR => ?_) hR
      simp only [pB, pCons, pNil, pLc]
      refine itr rfl hq ?_
      refine lc_map (fun d => .bool (rowOk d (l.length : Int))) (by omega) (fun d hd R hR => ?_) ⟨_, bools_map l, by rw [all_idmap]; exact hR⟩
      simp only [pgName, pCalln, pCons, pNil]
      show pB bLen (pCons (pVar 1) pNil) _ _ _
      refine len rfl hq ⟨rfl, d, _, rfl, fun l' e' => hl2 d hd l' e', hR⟩
    refine if_opt (!matOk x') (fun R' hR => ?_) (fun z => ?_) (fun z => ?_)
    · refine or_two false (!matOk x') (fun R' hR => not_no' (fun R' hR => ?_) hR) (fun _ R' hR => ?_) (by rw [Bool.false_or]; exact hR)
      · walk_at "pv"
        exact ⟨x', rfl, by rw [tyx]; exact hR⟩
      · refine or_two (!(decide (1 ≤ l.length) && decide (l.length ≤ 8))) (!matOk x') (fun R' hR => not_i _ (fun R' hR => ?_) hR) (fun z R' hR => ?_) ?_
        · refine tB_i (decide (1 ≤ l.length) && decide (l.length ≤ 8)) (fun R' hR => ?_) hR
          simp only [pChain, pC]
          refine len rfl hq ?_
          walk_at "pv"
          refine ⟨fun z => ?_, fun z => ?_⟩
          · rw [show decide ((l.length : Int) ≤ 8) = decide (l.length ≤ 8) by rw [decide_eq_decide]; omega]
            rw [decide_eq_true (show 1 ≤ l.length by omega), Bool.true_and] at hR
            exact hR
          · rw [decide_eq_false (show ¬ 1 ≤ l.length by omega), Bool.false_and] at hR
            exact hR
        · refine not_i (matOk x') (fun R' hR => ?_) hR
          refine allc rfl ?_
          have z : (decide (1 ≤ l.length) && decide (l.length ≤ 8)) = true := by simpa using z
          rw [tot, z, Bool.true_and] at hR
          exact hR
        · cases z : (decide (1 ≤ l.length) && decide (l.length ≤ 8)) with
          | true => simpa using hR
          | false =>
            have : matOk x' = false := by rw [tot, z, Bool.false_and]
            rw [this] at hR ⊢
            exact hR
    · walk_at "pv"
      exact e1 (by simpa using z)
    have hm : matOk x' = true := by simpa using z
    have hm' := hm
    rw [tot] at hm'
    simp only [Bool.and_eq_true, decide_eq_true_eq, List.all_eq_true] at hm'
    obtain ⟨⟨n1, n8⟩, hrows⟩ := hm'
    refine if_opt (!rowOk y (l.length : Int)) (fun R' hR => not_i (rowOk y (l.length : Int)) (fun R' hR => ?_) hR) (fun z => ?_) (fun z => ?_)
    · refine tB_i _ (fun R' hR => ?_) hR
      simp only [pCalln, pCons, pNil]
      show pB bLen (pCons (pVar 1) pNil) _ _ _
      exact len rfl hq ⟨rfl, y, _, rfl, hsy, hR⟩
    · walk_at "pv"
      exact e2 l hq hm (by simpa using z)
    have hy : rowOk y (l.length : Int) = true := by simpa using z
    obtain ⟨a, ha, hal⟩ := rows_of (n := l.length) hrows
    obtain ⟨b, hb, hbl⟩ := row_of hy
    have T1 : Tab l.length a b := ⟨by rw [← rows_len ha], hal, hbl⟩
    refine seq_i (fld_i (matD a) rfl (fun R' hR => ?_) (by simp) (by simp) (by simp) rfl ?_)
    · simp only [pB, pCons, pNil, pLc]
      refine itr rfl hq ?_
      refine lc_map toT (by omega) (fun d hd R hR => ?_) ?_
      · obtain ⟨r, h1, h2⟩ := rows_all ha T1.lr d hd
        rcases h1 with rfl | rfl <;> (walk_at "pv"; exact hR)
      · simp only [bTuple]
        rw [toT_rows ha]
        exact hR
    refine fld_i (rowD b) rfl (fun R' hR => ?_) (by simp; decide) (by simp) (by simp) rfl ⟨_, rfl, h _ a b l hq ha hb T1 n1 n8⟩
    rcases hb with rfl | rfl <;> (walk_at "pv"; exact hR)
theorem d_Steps_eq {qI : Str} {fI : Addr} {fdI : FuncData} (Fu : Fun K "__eq__" qI s_Steps_eq fI fdI) (T : Blt mg) (O_Steps : ObK K mg "Steps" S_Steps ["a", "b"]) : FnOk P w K mg base (L2.CX P w) 2 fI fdI ["self", "other"] (lift c 2 (spEqS S_Steps)) := by
  refine keepM (ps := ["self", "other"]) Fu sc_Steps_eq (fun f cdv A outer s H E hr => ⟨_, (pus_one (pus_ret (pu_and (pu_isO O_Steps T.b_isinstance (pu_var 1)) (pu_one (pu_cmp (op_eqD (hu64 hr)) ro_eq (pu_tup (pa_cons' (pu_at O_Steps.o (pu_var 0)) (pa_cons' (pu_at O_Steps.o (pu_var 0)) pa_nil'))) (pu_tup (pa_cons' (pu_at O_Steps.o (pu_var 1)) (pa_cons' (pu_at O_Steps.o (pu_var 1)) pa_nil')))))))), fun ss R EX hl h => ?_⟩)
  rcases h with ⟨a, b, rfl, la, lr, lb, h⟩ | ⟨ds, d, rfl, h⟩
  · walk_at "pv"
    exact same_i (okN_E (okN_tab a b) (by decide)) h
  · walk_at "pv"
    exact h
theorem d_need_steps (F : Has K mg "need_steps" s_need_steps) (T : Blt mg) (O_Steps : ObK K mg "Steps" S_Steps ["a", "b"]) (X_BadTable : XcI K mg "BadTable" C_BadTable ["what"]) : KpO P w K mg base c 3 "need_steps" ["steps", "what"] (spNeedS S_Steps C_BadTable) := by
  refine keepO F (fun _ _ _ _ _ _ us hl => match us, hl with | [_, _], _ => rfl) sc_need_steps (fun f cdv A outer s H E hr => ⟨_, (pus_cons (pus_if (pt_not' (pt_val' (pu_isO O_Steps T.b_isinstance (pu_var 0)))) (pus_one (pus_raise X_BadTable hr takesF (pa_cons' (pu_var 1) pa_nil'))) pus_nil)
    (pus_one (pus_ret (pu_var 0)))), fun ss R EX hl h => ?_⟩)
  rcases h with ⟨ds, x, rfl, h⟩ | ⟨d, x, rfl, h⟩
  · walk_at "pv"
    exact h
  · walk_at "pv"
    exact h
theorem d_total (F : Has K mg "total" s_total) (T : Blt mg) (D_added : KpO P w K mg base c 2 "added" ["one", "other"] (spR2 C0 fAdd)) : KpO P w K mg base c 3 "total" ["row"] (spTot) := by
  refine keepO F (fun _ _ _ _ _ _ us hl => match us, hl with | [_], _ => rfl) sc_total (fun f cdv A outer s H E hr => ⟨_, (pus_cons (pus_set (i := 1) sc_total.nd pu_int)
    (pus_cons (pus_for passF rfl (pui_seq (pu_var 0)) (pug_name (i := 2) sc_total.nd) (pus_one (pus_set (i := 1) sc_total.nd (pu_callO D_added hr takesF (pa_cons' (pu_var 1) (pa_cons' (pu_var 2) pa_nil'))))))
    (pus_one (pus_ret (pu_var 1))))), fun ss R EX hl h => ?_⟩)
  obtain ⟨r, rfl, hl, hb, h⟩ := h
  refine set_step (fun s => s = .d (ratD 0)) (fun R' hR => hR _ rfl) ?_
  rintro s rfl
  refine for_step (r.map ratD) (fun R' hR => ?_) ?_
  · walk_at "pv"
    exact hR
  refine for_foldT ratD (fun i (q : Rat) env => ∃ s2, env = [some (.d (rowD r)), some (.d (ratD q)), s2]) (fun a b => a + b) (a0 := 0) ⟨_, rfl⟩ (fun i q env N hi hE hN => ?_) fun env hE => ?_
  · obtain ⟨s2, rfl⟩ := hE
    have B := sum_br (l := r.take i) (fun q hq => hb q (List.mem_of_mem_take hq))
    have hq := hb q (List.mem_of_getElem? hi)
    have hm : (r.take i).length ≤ 8 := by rw [List.length_take]; omega
    walk_at "pv"
    exact r2_i (br_up B (by omega)) (br_up hq (by omega)) True.intro (hN _ ⟨_, rfl⟩)
  · obtain ⟨s2, rfl⟩ := hE
    walk_at "pv"
    exact h
theorem d_nodes_by (F : Has K mg "nodes_by" s_nodes_by) (T : Blt mg) (O_Steps : ObK K mg "Steps" S_Steps ["a", "b"]) (D_total : KpO P w K mg base c 3 "total" ["row"] (spTot)) : KpO P w K mg base c 4 "nodes_by" ["steps"] (spNodB S_Steps) := by
  refine keepO F (fun _ _ _ _ _ _ us hl => match us, hl with | [_], _ => rfl) sc_nodes_by (fun f cdv A outer s H E hr => ⟨_, (pus_one (pus_ret (pu_callTy c_tuple rb_tuple T.b_tuple (by decide +kernel) (pa_cons' (pu_lc (own := [("row", 1)]) rfl sc_nodes_by.nd (pui_seq (pu_at O_Steps.o (pu_var 0))) (blkOk_by (by show blkC ["steps", "row"] (defScope s_nodes_by) _ _ = true; decide +kernel)) (fun ci => (pug_name (i := 1) sc_nodes_by.nd)) (fun ci => (pu_callO D_total hr takes0 (pa_cons' (pu_var 1) pa_nil')))) pa_nil')))), fun ss R EX hl h => ?_⟩)
  obtain ⟨n, a, b, rfl, Ta, n8, ha, h⟩ := h
  have la := Ta.la
  walk_at "pv"
  refine lc_mapT rowD (fun r => ratD (rsum r)) (by omega) (fun r hr R hR => ?_) ?_
  · walk_at "pv"
    exact ⟨r, rfl, by rw [Ta.lr r hr]; exact n8, ha r hr, hR⟩
  · rw [show (fun r => ratD (rsum r)) = ratD ∘ rsum from rfl, ← List.map_map]
    exact h
theorem d_nodes (F : Has K mg "nodes" s_nodes) (T : Blt mg) (D_need_steps : KpO P w K mg base c 3 "need_steps" ["steps", "what"] (spNeedS S_Steps C_BadTable)) (D_nodes_by : KpO P w K mg base c 4 "nodes_by" ["steps"] (spNodB S_Steps)) : KpO P w K mg base c 5 "nodes" ["steps"] (spNod S_Steps C_BadTable) := by
  refine keepO F (fun _ _ _ _ _ _ us hl => match us, hl with | [_], _ => rfl) sc_nodes (fun f cdv A outer s H E hr => ⟨_, (pus_one (pus_ret (pu_callO D_nodes_by hr takesF (pa_cons' (pu_callO D_need_steps hr takesF (pa_cons' (pu_var 0) (pa_cons' pu_str pa_nil'))) pa_nil')))), fun ss R EX hl h => ?_⟩)
  rcases h with ⟨d, rfl, h⟩ | ⟨n, a, b, rfl, h⟩
  · walk_at "pv"
    exact .inr ⟨_, _, rfl, h⟩
  · walk_at "pv"
    exact .inl ⟨_, _, rfl, n, a, b, rfl, h⟩
theorem d_is_explicit_by (F : Has K mg "is_explicit_by" s_is_explicit_by) (T : Blt mg) (Z : Blx mg) (O_Steps : ObK K mg "Steps" S_Steps ["a", "b"]) : KpO P w K mg base c 3 "is_explicit_by" ["steps"] (spExpB S_Steps) := by
  refine keepO F (fun _ _ _ _ _ _ us hl => match us, hl with | [_], _ => rfl) sc_is_explicit_by (fun f cdv A outer s H E hr => ⟨_, (pus_one (pus_ret (pu_callB (cr_all rfl) rb_all T.b_all (by decide +kernel) (pa_cons' (pu_lc2 (own := [("i", 2), ("row", 3), ("one", 1)]) [1] rfl sc_is_explicit_by.nd (pui_enumT Z.e (pa_cons' (pu_at O_Steps.o (pu_var 0)) pa_nil')) (blkOk_by (by show blkC ["steps", "one", "i", "row"] (defScope s_is_explicit_by) _ _ = true; decide +kernel)) (fun ci => (pug_tup (n := 2) (by rfl) (pugs_cons (pug_name (i := 2) sc_is_explicit_by.nd) (pugs_cons (pug_name (i := 3) sc_is_explicit_by.nd) pugs_nil)))) (fun ci => (pui_seq (pu_slice (pu_var 3) (puo_some (pu_var 2)) puo_none))) (fun ci => (pug_name (i := 1) sc_is_explicit_by.nd)) (fun ci => (pu_cmp (op_eqD (hu64 hr)) ro_eq (pu_var 1) pu_int))) pa_nil')))), fun ss R EX hl h => ?_⟩)
  obtain ⟨n, a, b, rfl, Ta, n8, h⟩ := h
  have la := Ta.la
  walk_at "pv"
  simp only [pLc2, iEnumP]
  walk_at "pv"
  rw [enumR_map]
  refine lc2_flat (fun p : List Rat × Nat => .tuple [.int (p.2 : Nat), rowD p.1]) ratD (fun p => p.1.drop p.2) (fun q => .bool (decide (q.num = 0))) (m := 8) (acc := []) (by simp only [List.length_zipIdx, List.length_nil]; omega) (fun p hp => ?_) (fun p hp acc K hl hK => ?_) ?_
  · obtain ⟨r, i⟩ := p
    have hr := List.fst_mem_of_mem_zipIdx hp
    rw [List.length_drop, Ta.lr r hr]; omega
  · obtain ⟨r, i⟩ := p
    have hr := List.fst_mem_of_mem_zipIdx hp
    have hi := List.snd_lt_of_mem_zipIdx hp
    have lr := Ta.lr r hr
    walk_at "pv"
    rw [cut_drop _ (by omega) (by rw [List.length_map, lr]; omega), Int.toNat_natCast, ← List.map_drop]
    have hl : acc.length + (r.drop i).length ≤ 1000000 := hl
    refine lc_mapA ratD (fun q => .bool (decide (q.num = 0))) hl (fun q hq R hR => ?_) hK
    walk_at "pv"
    exact hR
  · rw [List.nil_append, show (fun q : Rat => PyData.bool (decide (q.num = 0))) = (fun d => .bool (decide (topD d = 0))) ∘ ratD from funext fun q => by simp only [Function.comp]; rw [topD_rat], ← List.map_map]
    refine ⟨_, bools_map (f := fun d => decide (topD d = 0)) _, ?_⟩
    rw [all_idmap, expl_all]
    exact h
theorem d_is_explicit (F : Has K mg "is_explicit" s_is_explicit) (T : Blt mg) (D_is_explicit_by : KpO P w K mg base c 3 "is_explicit_by" ["steps"] (spExpB S_Steps)) (D_need_steps : KpO P w K mg base c 3 "need_steps" ["steps", "what"] (spNeedS S_Steps C_BadTable)) : KpO P w K mg base c 4 "is_explicit" ["steps"] (spExp S_Steps C_BadTable) := by
  refine keepO F (fun _ _ _ _ _ _ us hl => match us, hl with | [_], _ => rfl) sc_is_explicit (fun f cdv A outer s H E hr => ⟨_, (pus_one (pus_ret (pu_callO D_is_explicit_by hr takesF (pa_cons' (pu_callO D_need_steps hr takesF (pa_cons' (pu_var 0) (pa_cons' pu_str pa_nil'))) pa_nil')))), fun ss R EX hl h => ?_⟩)
  rcases h with ⟨d, rfl, h⟩ | ⟨n, a, b, rfl, h⟩
  · walk_at "pv"
    exact .inr ⟨_, _, rfl, h⟩
  · walk_at "pv"
    exact .inl ⟨_, _, rfl, n, a, b, rfl, h⟩
theorem d_renumbered_by (F : Has K mg "renumbered_by" s_renumbered_by) (T : Blt mg) (O_Steps : ObK K mg "Steps" S_Steps ["a", "b"]) (D_Steps : KpI P w K mg base c 4 "Steps" S_Steps 2 (spInit S_Steps C_BadTable C_BadRow)) : KpO P w K mg base c 6 "renumbered_by" ["steps", "order"] (spRenB S_Steps) := by
  refine keepO F (fun _ _ _ _ _ _ us hl => match us, hl with | [_, _], _ => rfl) sc_renumbered_by (fun f cdv A outer s H E hr => ⟨_, (pus_one (pus_ret (pu_make D_Steps hr takesF (pa_cons' (pu_lc (own := [("i", 2)]) rfl sc_renumbered_by.nd (pui_seq (pu_var 1)) (blkOk_by (by show blkC ["steps", "order", "i", "k"] (defScope s_renumbered_by) _ _ = true; decide +kernel)) (fun ci => (pug_name (i := 2) sc_renumbered_by.nd)) (fun ci => (pu_lc (own := [("k", 3)]) rfl sc_renumbered_by.nd (pui_seq (pu_var 1)) (blkOk_in (by show blkC ["steps", "order", "i", "k"] _ _ _ = true; decide +kernel)) (fun ci => (pug_name (i := 3) sc_renumbered_by.nd)) (fun ci => (pu_ix (pu_ix (pu_at O_Steps.o (pu_var 0)) (pu_var 2)) (pu_var 3)))))) (pa_cons' (pu_lc (own := [("k", 3)]) rfl sc_renumbered_by.nd (pui_seq (pu_var 1)) (blkOk_by (by show blkC ["steps", "order", "i", "k"] (defScope s_renumbered_by) _ _ = true; decide +kernel)) (fun ci => (pug_name (i := 3) sc_renumbered_by.nd)) (fun ci => (pu_ix (pu_at O_Steps.o (pu_var 0)) (pu_var 3)))) pa_nil'))))), fun ss R EX hl h => ?_⟩)
  obtain ⟨n, a, b, o, rfl, Ta, n1, n8, ol, hol, h⟩ := h
  have la := Ta.la
  have lb := Ta.lb
  walk_at "pv"
  refine lc_mapT (fun i : Nat => .int (i : Nat)) (fun i => .list ((o.map fun k => (a.getD i []).getD k 0).map ratD)) (by omega) (fun i hi R hR => ?_) ?_
  · have hi' := hol i hi
    have hg : a[i]? = some (a.getD i []) := by rw [List.getD_eq_getElem?_getD, List.getElem?_eq_getElem (by omega)]; rfl
    have hr := Ta.lr _ (List.mem_of_getElem? hg)
    generalize a.getD i [] = r at hg hr hR ⊢
    have ha : atI (a.map rowD) ((i : Nat) : Int) = some (rowD r) := atI_nat (by rw [List.getElem?_map, hg]; rfl)
    walk_at "pv"
    refine lc_mapT (fun i : Nat => .int (i : Nat)) (fun k => ratD (r.getD k 0)) (by omega) (fun k hk R hR => ?_) ?_
    · have hk' := hol k hk
      walk_at "pv"
      refine ⟨_, ha, ratD (r.getD k 0), atI_nat ?_, hR⟩
      rw [List.getElem?_map, List.getD_eq_getElem?_getD, List.getElem?_eq_getElem (by omega)]
      rfl
    · rw [show (fun k => ratD (r.getD k 0)) = ratD ∘ (fun k => r.getD k 0) from rfl, ← List.map_map]
      exact hR
  · refine lc_mapT (fun i : Nat => .int (i : Nat)) (fun k => ratD (b.getD k 0)) (by omega) (fun k hk R hR => ?_) ?_
    · have hk' := hol k hk
      walk_at "pv"
      refine ⟨ratD (b.getD k 0), atI_nat ?_, hR⟩
      rw [List.getElem?_map, List.getD_eq_getElem?_getD, List.getElem?_eq_getElem (by omega)]
      rfl
    rw [show (fun k => ratD (b.getD k 0)) = ratD ∘ (fun k => b.getD k 0) from rfl, ← List.map_map, show (fun i => PyData.list ((o.map fun k => (a.getD i []).getD k 0).map ratD)) = (fun r => .list (List.map ratD r)) ∘ (fun i => o.map fun k => (a.getD i []).getD k 0) from rfl, ← List.map_map]
    exact init_ok (.inl rfl) rats_inL (.inl rfl) (tab_ren Ta ol) n1 n8 h
theorem d_renumbered (F : Has K mg "renumbered" s_renumbered) (T : Blt mg) (O_Steps : ObK K mg "Steps" S_Steps ["a", "b"]) (X_BadRow : XcI K mg "BadRow" C_BadRow ["what", "row"]) (D_is_all_numbers : KpO P w K mg base c 3 "is_all_numbers" ["value", "many"] (spAllN)) (D_need_steps : KpO P w K mg base c 3 "need_steps" ["steps", "what"] (spNeedS S_Steps C_BadTable)) (D_renumbered_by : KpO P w K mg base c 6 "renumbered_by" ["steps", "order"] (spRenB S_Steps)) : KpO P w K mg base c 7 "renumbered" ["steps", "order"] (spRen S_Steps C_BadTable C_BadRow) := by
  refine keepO F (fun _ _ _ _ _ _ us hl => match us, hl with | [_, _], _ => rfl) sc_renumbered (fun f cdv A outer s H E hr => ⟨_, (pus_cons (pus_expr (pu_callO D_need_steps hr takesF (pa_cons' (pu_var 0) (pa_cons' pu_str pa_nil'))))
    (pus_cons (pus_if (pt_not' (pt_val' (pu_callO D_is_all_numbers hr takesF (pa_cons' (pu_var 1) (pa_cons' (pu_callB c_len rb_len T.b_len PySem.boot_len (pa_cons' (pu_at O_Steps.o (pu_var 0)) pa_nil')) pa_nil'))))) (pus_one (pus_raise X_BadRow hr takesF (pa_cons' pu_str (pa_cons' (pu_var 1) pa_nil')))) pus_nil)
    (pus_one (pus_ret (pu_callO D_renumbered_by hr takesF (pa_cons' (pu_var 0) (pa_cons' (pu_callTy c_tuple rb_tuple T.b_tuple (by decide +kernel) (pa_cons' (pu_var 1) pa_nil')) pa_nil'))))))), fun ss R EX hl h => ?_⟩)
  rcases h with ⟨d, x, rfl, h⟩ | ⟨n, a, b, x, rfl, Ta, n1, n8, h⟩
  · refine drop_i ?_
    walk_at "pv"
    exact .inr ⟨_, _, rfl, h⟩
  refine drop_step (fun R' hR => ?_) ?_
  · walk_at "pv"
    exact .inl ⟨_, _, rfl, hR _⟩
  have lb := Ta.lb
  rcases h with ⟨hs, hbad, h⟩ | ⟨o, hx, ho, h⟩
  · refine if_yes (fun R' hR => not_i false (fun R' hR => ?_) hR) ?_
    · walk_at "pv"
      rw [lb]
      exact ⟨_, n, rfl, n8, hs, fun _ => hR, fun ns e1 e2 => ⟨fun z => absurd z (hbad ns e1), fun _ => hR⟩⟩
    · walk_at "pv"
      exact h
  · have hlen : o.length = n := by rw [ho.length_eq, List.length_range]
    refine if_no (fun R' hR => not_no' (fun R' hR => ?_) hR) ?_
    · walk_at "pv"
      rw [lb]
      refine ⟨_, n, rfl, n8, fun l e => ?_, fun z => ?_, fun ns e1 e2 => ⟨fun _ => hR, fun z => absurd ?_ z⟩⟩
      · rcases hx with rfl | rfl <;> (cases e; simp [natsD]; omega)
      · rw [idx_nats hx hlen] at z; cases z
      · have := ints_inj hx e1
        subst this
        exact ho.map _
    · have hb : ∀ i ∈ o, i < n := fun i hi => List.mem_range.mp (ho.mem_iff.mp hi)
      rcases hx with rfl | rfl
      · walk_at "pv"
        exact ⟨n, a, b, o, rfl, Ta, n1, n8, hlen, hb, h⟩
      · walk_at "pv"
        exact ⟨n, a, b, o, rfl, Ta, n1, n8, hlen, hb, h⟩
theorem d_scaled_by (F : Has K mg "scaled_by" s_scaled_by) (T : Blt mg) (O_Steps : ObK K mg "Steps" S_Steps ["a", "b"]) (D_Steps : KpI P w K mg base c 4 "Steps" S_Steps 2 (spInit S_Steps C_BadTable C_BadRow)) (D_multiplied : KpO P w K mg base c 2 "multiplied" ["one", "other"] (spR2 C0 fMul)) : KpO P w K mg base c 6 "scaled_by" ["steps", "r"] (spScB S_Steps) := by
  refine keepO F (fun _ _ _ _ _ _ us hl => match us, hl with | [_, _], _ => rfl) sc_scaled_by (fun f cdv A outer s H E hr => ⟨_, (pus_one (pus_ret (pu_make D_Steps hr takesF (pa_cons' (pu_lc (own := [("row", 2)]) rfl sc_scaled_by.nd (pui_seq (pu_at O_Steps.o (pu_var 0))) (blkOk_by (by show blkC ["steps", "r", "row", "one"] (defScope s_scaled_by) _ _ = true; decide +kernel)) (fun ci => (pug_name (i := 2) sc_scaled_by.nd)) (fun ci => (pu_lc (own := [("one", 3)]) rfl sc_scaled_by.nd (pui_seq (pu_var 2)) (blkOk_in (by show blkC ["steps", "r", "row", "one"] _ _ _ = true; decide +kernel)) (fun ci => (pug_name (i := 3) sc_scaled_by.nd)) (fun ci => (pu_callO D_multiplied hr takes0 (pa_cons' (pu_var 1) (pa_cons' (pu_var 3) pa_nil'))))))) (pa_cons' (pu_lc (own := [("one", 3)]) rfl sc_scaled_by.nd (pui_seq (pu_at O_Steps.o (pu_var 0))) (blkOk_by (by show blkC ["steps", "r", "row", "one"] (defScope s_scaled_by) _ _ = true; decide +kernel)) (fun ci => (pug_name (i := 3) sc_scaled_by.nd)) (fun ci => (pu_callO D_multiplied hr takes0 (pa_cons' (pu_var 1) (pa_cons' (pu_var 3) pa_nil'))))) pa_nil'))))), fun ss R EX hl h => ?_⟩)
  obtain ⟨n, a, b, r, rfl, Ta, n1, n8, ha, hb, hr, h⟩ := h
  have la := Ta.la
  have lb := Ta.lb
  walk_at "pv"
  refine lc_mapT rowD (fun row => .list ((row.map fun q => r * q).map ratD)) (by omega) (fun row hrow R hR => ?_) ?_
  · have lr := Ta.lr row hrow
    walk_at "pv"
    refine lc_mapT ratD (fun q => ratD (r * q)) (by omega) (fun q hq R hR => ?_) ?_
    · walk_at "pv"
      exact r2_i hr (ha row hrow q hq) True.intro hR
    · rw [show (fun q => ratD (r * q)) = ratD ∘ (fun q => r * q) from rfl, ← List.map_map]
      exact hR
  · refine lc_mapT ratD (fun q => ratD (r * q)) (by omega) (fun q hq R hR => ?_) ?_
    · walk_at "pv"
      exact r2_i hr (hb q hq) True.intro hR
    rw [show (fun q => ratD (r * q)) = ratD ∘ (fun q => r * q) from rfl, ← List.map_map, show (fun row : List Rat => PyData.list ((row.map fun q => r * q).map ratD)) = (fun r => .list (List.map ratD r)) ∘ (fun row => row.map fun q => r * q) from rfl, ← List.map_map]
    exact init_ok (.inl rfl) rats_inL (.inl rfl) (tab_sc Ta) n1 n8 h
theorem d_scaled (F : Has K mg "scaled" s_scaled) (T : Blt mg) (X_BadNumber : XcI K mg "BadNumber" C_BadNumber ["what", "number"]) (D_is_ratio : KpO P w K mg base c 2 "is_ratio" ["value"] (spIsRat)) (D_need_steps : KpO P w K mg base c 3 "need_steps" ["steps", "what"] (spNeedS S_Steps C_BadTable)) (D_scaled_by : KpO P w K mg base c 6 "scaled_by" ["steps", "r"] (spScB S_Steps)) : KpO P w K mg base c 7 "scaled" ["steps", "r"] (spSc S_Steps C_BadTable C_BadNumber) := by
  refine keepO F (fun _ _ _ _ _ _ us hl => match us, hl with | [_, _], _ => rfl) sc_scaled (fun f cdv A outer s H E hr => ⟨_, (pus_cons (pus_expr (pu_callO D_need_steps hr takesF (pa_cons' (pu_var 0) (pa_cons' pu_str pa_nil'))))
    (pus_cons (pus_if (pt_not' (pt_val' (pu_callO D_is_ratio hr takesF (pa_cons' (pu_var 1) pa_nil')))) (pus_one (pus_raise X_BadNumber hr takesF (pa_cons' pu_str (pa_cons' (pu_var 1) pa_nil')))) pus_nil)
    (pus_one (pus_ret (pu_callO D_scaled_by hr takesF (pa_cons' (pu_var 0) (pa_cons' (pu_var 1) pa_nil'))))))), fun ss R EX hl h => ?_⟩)
  rcases h with ⟨d, x, rfl, h⟩ | ⟨n, a, b, x, rfl, h⟩
  · refine drop_i ?_
    walk_at "pv"
    exact .inr ⟨_, _, rfl, h⟩
  refine drop_step (fun R' hR => ?_) ?_
  · walk_at "pv"
    exact .inl ⟨_, _, rfl, hR _⟩
  rcases h with ⟨hbad, h⟩ | ⟨r, rfl, h⟩
  · refine if_yes (fun R' hR => not_i false (fun R' hR => ?_) hR) ?_
    · walk_at "pv"
      exact ⟨_, rfl, by rw [hbad]; exact hR⟩
    · walk_at "pv"
      exact h
  · refine if_no (fun R' hR => not_no' (fun R' hR => ?_) hR) ?_
    · walk_at "pv"
      exact ⟨_, rfl, by rw [isRat_rat]; exact hR⟩
    · walk_at "pv"
      exact ⟨n, a, b, r, rfl, h⟩
theorem d_turned_back_by (F : Has K mg "turned_back_by" s_turned_back_by) (T : Blt mg) (O_Steps : ObK K mg "Steps" S_Steps ["a", "b"]) (D_Steps : KpI P w K mg base c 4 "Steps" S_Steps 2 (spInit S_Steps C_BadTable C_BadRow)) (D_less_by : KpO P w K mg base c 3 "less_by" ["one", "other"] (spR2 C0 fSub)) : KpO P w K mg base c 6 "turned_back_by" ["steps"] (spTbB S_Steps) := by
  refine keepO F (fun _ _ _ _ _ _ us hl => match us, hl with | [_], _ => rfl) sc_turned_back_by (fun f cdv A outer s H E hr => ⟨_, (pus_one (pus_ret (pu_make D_Steps hr takesF (pa_cons' (pu_lc (own := [("row", 1)]) rfl sc_turned_back_by.nd (pui_seq (pu_at O_Steps.o (pu_var 0))) (blkOk_by (by show blkC ["steps", "row", "one", "b"] (defScope s_turned_back_by) _ _ = true; decide +kernel)) (fun ci => (pug_name (i := 1) sc_turned_back_by.nd)) (fun ci => (pu_lc (own := [("one", 2), ("b", 3)]) rfl sc_turned_back_by.nd (pui_zipU T.b_zip (pa_cons' (pu_var 1) (pa_cons' (pu_at O_Steps.o (pu_var 0)) pa_nil'))) (blkOk_in (by show blkC ["steps", "row", "one", "b"] _ _ _ = true; decide +kernel)) (fun ci => (pug_tup (n := 2) (by rfl) (pugs_cons (pug_name (i := 2) sc_turned_back_by.nd) (pugs_cons (pug_name (i := 3) sc_turned_back_by.nd) pugs_nil)))) (fun ci => (pu_callO D_less_by hr takes0 (pa_cons' (pu_var 3) (pa_cons' (pu_var 2) pa_nil'))))))) (pa_cons' (pu_at O_Steps.o (pu_var 0)) pa_nil'))))), fun ss R EX hl h => ?_⟩)
  obtain ⟨n, a, b, rfl, Ta, n1, n8, ba, bb, h⟩ := h
  have la := Ta.la
  have lb := Ta.lb
  walk_at "pv"
  refine lc_mapT rowD (fun r => .list ((List.zipWith (fun p q => q + -p) r b).map ratD)) (by omega) (fun r hr R hR => ?_) ?_
  · have lr := Ta.lr r hr
    walk_at "pv"
    rw [zipD_map]
    refine lc_mapT (fun z : Rat × Rat => .tuple [ratD z.1, ratD z.2]) (fun z => ratD (z.2 + -z.1)) (by rw [List.length_zip]; omega) (fun z hz R hR => ?_) ?_
    · obtain ⟨z1, z2⟩ := List.of_mem_zip hz
      walk_at "pv"
      exact ⟨_, _, rfl, bb _ z2, ba r hr _ z1, True.intro, hR⟩
    · have e : ((r.zip b).map fun z => ratD (z.2 + -z.1)) = (List.zipWith (fun p q => q + -p) r b).map ratD := by rw [List.zip, List.map_zipWith, List.map_zipWith]
      rw [e]; exact hR
  · rw [show (fun r => PyData.list ((List.zipWith (fun p q => q + -p) r b).map ratD)) = (fun r => .list (List.map ratD r)) ∘ (fun r => List.zipWith (fun p q => q + -p) r b) from rfl, ← List.map_map]
    exact init_ok (.inl rfl) rats_inL (.inr rfl) (tab_tb Ta) n1 n8 h
theorem d_turned_back (F : Has K mg "turned_back" s_turned_back) (T : Blt mg) (D_need_steps : KpO P w K mg base c 3 "need_steps" ["steps", "what"] (spNeedS S_Steps C_BadTable)) (D_turned_back_by : KpO P w K mg base c 6 "turned_back_by" ["steps"] (spTbB S_Steps)) : KpO P w K mg base c 7 "turned_back" ["steps"] (spTb S_Steps C_BadTable) := by
  refine keepO F (fun _ _ _ _ _ _ us hl => match us, hl with | [_], _ => rfl) sc_turned_back (fun f cdv A outer s H E hr => ⟨_, (pus_one (pus_ret (pu_callO D_turned_back_by hr takesF (pa_cons' (pu_callO D_need_steps hr takesF (pa_cons' (pu_var 0) (pa_cons' pu_str pa_nil'))) pa_nil')))), fun ss R EX hl h => ?_⟩)
  rcases h with ⟨d, rfl, h⟩ | ⟨n, a, b, rfl, h⟩
  · walk_at "pv"
    exact .inr ⟨_, _, rfl, h⟩
  · walk_at "pv"
    exact .inl ⟨_, _, rfl, n, a, b, rfl, h⟩
theorem d_undone_by (F : Has K mg "undone_by" s_undone_by) (T : Blt mg) (O_Steps : ObK K mg "Steps" S_Steps ["a", "b"]) (D_Steps : KpI P w K mg base c 4 "Steps" S_Steps 2 (spInit S_Steps C_BadTable C_BadRow)) (D_less_by : KpO P w K mg base c 3 "less_by" ["one", "other"] (spR2 C0 fSub)) (D_opposite : KpO P w K mg base c 1 "opposite" ["number"] (spR1 fNeg)) : KpO P w K mg base c 6 "undone_by" ["steps"] (spUnB S_Steps) := by
  refine keepO F (fun _ _ _ _ _ _ us hl => match us, hl with | [_], _ => rfl) sc_undone_by (fun f cdv A outer s H E hr => ⟨_, (pus_cons (pus_setLc (i := 1) (own := [("row", 2)]) rfl sc_undone_by.nd (pui_seq (pu_at O_Steps.o (pu_var 0))) (blkOk_by (by show blkC ["steps", "rows", "row", "one", "b"] (defScope s_undone_by) _ _ = true; decide +kernel)) (fun ci => (pug_name (i := 2) sc_undone_by.nd)) (fun ci => (pu_lc (own := [("one", 3), ("b", 4)]) rfl sc_undone_by.nd (pui_zipU T.b_zip (pa_cons' (pu_var 2) (pa_cons' (pu_at O_Steps.o (pu_var 0)) pa_nil'))) (blkOk_in (by show blkC ["steps", "rows", "row", "one", "b"] _ _ _ = true; decide +kernel)) (fun ci => (pug_tup (n := 2) (by rfl) (pugs_cons (pug_name (i := 3) sc_undone_by.nd) (pugs_cons (pug_name (i := 4) sc_undone_by.nd) pugs_nil)))) (fun ci => (pu_callO D_less_by hr takes0 (pa_cons' (pu_var 3) (pa_cons' (pu_var 4) pa_nil')))))))
    (pus_one (pus_ret (pu_make D_Steps hr takesF (pa_cons' (pu_var 1) (pa_cons' (pu_lc (own := [("one", 3)]) rfl sc_undone_by.nd (pui_seq (pu_at O_Steps.o (pu_var 0))) (blkOk_by (by show blkC ["steps", "rows", "row", "one", "b"] (defScope s_undone_by) _ _ = true; decide +kernel)) (fun ci => (pug_name (i := 3) sc_undone_by.nd)) (fun ci => (pu_callO D_opposite hr takes0 (pa_cons' (pu_var 3) pa_nil')))) pa_nil')))))), fun ss R EX hl h => ?_⟩)
  obtain ⟨n, a, b, rfl, Ta, n1, n8, ba, bb, h⟩ := h
  refine set_step (fun s => s = .d (.list ((unA a b).map fun r => .list (r.map ratD)))) (fun R' hR => ?_) ?_
  · walk_at "pv"
    have la := Ta.la
    have lb := Ta.lb
    refine lc_mapT rowD (fun r => .list ((List.zipWith (fun p q => p + -q) r b).map ratD)) (by omega) (fun r hr R hR => ?_) ?_
    · have lr := Ta.lr r hr
      walk_at "pv"
      rw [zipD_map]
      refine lc_mapT (fun z : Rat × Rat => .tuple [ratD z.1, ratD z.2]) (fun z => ratD (z.1 + -z.2)) (by rw [List.length_zip]; omega) (fun z hz R hR => ?_) ?_
      · obtain ⟨z1, z2⟩ := List.of_mem_zip hz
        walk_at "pv"
        exact ⟨_, _, rfl, ba r hr _ z1, bb _ z2, True.intro, hR⟩
      · have e : ((r.zip b).map fun z => ratD (z.1 + -z.2)) = (List.zipWith (fun p q => p + -q) r b).map ratD := by rw [List.zip, List.map_zipWith, List.map_zipWith]
        rw [e]; exact hR
    · refine hR _ ?_
      unfold unA
      rw [List.map_map]
      rfl
  rintro s rfl
  walk_at "pv"
  have lb := Ta.lb
  refine lc_mapT ratD (fun q => ratD (-q)) (by omega) (fun q hq R hR => ?_) ?_
  · walk_at "pv"
    exact ⟨q, rfl, hR⟩
  · rw [show (fun q => ratD (-q)) = ratD ∘ (fun q => -q) from rfl, ← List.map_map]
    exact init_ok (.inl rfl) rats_inL (.inl rfl) (tab_un Ta) n1 n8 h
theorem d_undone (F : Has K mg "undone" s_undone) (T : Blt mg) (D_need_steps : KpO P w K mg base c 3 "need_steps" ["steps", "what"] (spNeedS S_Steps C_BadTable)) (D_undone_by : KpO P w K mg base c 6 "undone_by" ["steps"] (spUnB S_Steps)) : KpO P w K mg base c 7 "undone" ["steps"] (spUn S_Steps C_BadTable) := by
  refine keepO F (fun _ _ _ _ _ _ us hl => match us, hl with | [_], _ => rfl) sc_undone (fun f cdv A outer s H E hr => ⟨_, (pus_one (pus_ret (pu_callO D_undone_by hr takesF (pa_cons' (pu_callO D_need_steps hr takesF (pa_cons' (pu_var 0) (pa_cons' pu_str pa_nil'))) pa_nil')))), fun ss R EX hl h => ?_⟩)
  rcases h with ⟨d, rfl, h⟩ | ⟨n, a, b, rfl, h⟩
  · walk_at "pv"
    exact .inr ⟨_, _, rfl, h⟩
  · walk_at "pv"
    exact .inl ⟨_, _, rfl, n, a, b, rfl, h⟩
end
end K11
namespace K11
open PySem PySem.Spec PyProof.Rows L2 Lx Px

/-- a drawn table -/
structure Dr (n : Nat) (a : List (List Rat)) (b : List Rat) : Prop where
  t : Tab n a b
  ra : ∀ r ∈ a, ∀ q ∈ r, Br 40 q
  rb : ∀ q ∈ b, Br 40 q
def spFrac (c : Cc) : PSp := fun ss R _ => ss = [.raw (.ref c.p)] ∧ ∀ q : Rat, Br 3 q → R (.d (ratD q))
def spShuf (c : Cc) : PSp := fun ss R _ => ∃ l : List PyData, ss = [.raw (.ref c.p), .d (.list l)] ∧ l.length ≤ 8 ∧ ∀ l' : List PyData, l'.Perm l → R (.d (.list l'))
def spTab (c : Cc) : PSp := fun ss R _ => ∃ m : Int, ss = [.raw (.ref c.p), .d (.int m)] ∧ 1 ≤ m ∧ m ≤ 4 ∧ ∀ n a b, Dr n a b → 1 ≤ n → (n : Int) ≤ m → R (.d (.tuple [matD a, rowD b]))
def spIsS (S : Addr) : PSp := fun ss R _ => ∃ a b, ss = [stS S a b, .d (matD a), .d (rowD b)] ∧ a.length ≤ 8 ∧ (∀ r ∈ a, r.length ≤ 8) ∧ b.length ≤ 8 ∧ R (.d (.bool true))
theorem rest_br {l : List Rat} (h : ∀ q ∈ l, Br 3 q) (hl : l.length ≤ 3) : Br 40 (l.foldl (fun t q => t + -q) 1) := by
  have go : ∀ (l : List Rat) (k : Nat) (a : Rat), Br k a → (∀ q ∈ l, Br 3 q) → Br (4 * l.length + k) (l.foldl (fun t q => t + -q) a) := by
    intro l
    induction l with
    | nil => intro k a h _; simpa using h
    | cons q l ih =>
      intro k a h hl
      rw [List.foldl_cons]
      have := ih (k + 3 + 1) (a + -q) (br_add h (br_neg (hl q List.mem_cons_self))) fun p hp => hl p (List.mem_cons_of_mem _ hp)
      exact br_up this (by rw [List.length_cons]; omega)
  exact br_up (go l 1 1 (br_one (n := 0)) h) (by omega)
theorem own_i {i : Nat} {pn : PTN} {rest : PTS} {P : PD} {env : Ev} (I : List PyData → Prop) (h1 : ∀ R : List PyData → Prop, (∀ ds, I ds → R ds) → pn env R P.ex) (h2 : ∀ ds, I ds → rest P (env.set i (some (.own ds)))) : psSeq (psOwnN i pn) rest P env := h1 _ h2
theorem seq_of {x : PyData} {xs : List PyData} (h : seqD x = some xs) : SeqOf xs x := by
  cases x with
  | list l => cases h; exact .inl rfl
  | tuple l => cases h; exact .inr rfl
  | _ => cases h
def Pl : Nat → PyData → Prop
  | 0, _ => False
  | n + 1, d => (∃ i : Int, d = .int i) ∨ ∃ l, d = .tuple l ∧ l.length ≤ 1000 ∧ ∀ x ∈ l, Pl n x
def spIsD (n : Nat) : PSp := fun ss R _ => ∃ d, ss = [.d d, .d d] ∧ Pl n d ∧ R (.d (.bool true))
theorem okN_pl : ∀ (n : Nat) (d : PyData), Pl n d → OkN n d
  | 0, _, h => h.elim
  | n + 1, d, h => by
    rcases h with ⟨i, rfl⟩ | ⟨l, rfl, _, hx⟩
    · exact okN_up (okN_int i) (Nat.zero_le _)
    · exact okN_tup fun x hx' => okN_pl n x (hx x hx')
theorem pl_rat {n : Nat} (q : Rat) : Pl (n + 2) (ratD q) := by
  rcases ratD_or q with ⟨i, e, _⟩ | ⟨a, b, e, _⟩ <;> rw [e]
  · exact .inl ⟨i, rfl⟩
  · refine .inr ⟨_, rfl, by simp, fun x hx => ?_⟩
    simp only [List.mem_cons, List.not_mem_nil, or_false] at hx
    rcases hx with rfl | rfl <;> exact .inl ⟨_, rfl⟩
theorem pl_row {n : Nat} {b : List Rat} (h : b.length ≤ 8) : Pl (n + 3) (rowD b) := .inr ⟨_, rfl, by rw [List.length_map]; omega, fun x hx => by
  obtain ⟨q, _, rfl⟩ := List.mem_map.mp hx
  exact pl_rat q⟩
theorem pl_mat {n : Nat} {a : List (List Rat)} (h : a.length ≤ 8) (hr : ∀ r ∈ a, r.length ≤ 8) : Pl (n + 4) (matD a) := .inr ⟨_, rfl, by rw [List.length_map]; omega, fun x hx => by
  obtain ⟨r, hm, rfl⟩ := List.mem_map.mp hx
  exact pl_row (hr r hm)⟩
theorem all_of_get {α : Type} {P : α → Prop} {l : List α} (h : ∀ (i : Nat) (x : α), l[i]? = some x → P x) : ∀ x ∈ l, P x := fun x hx => by
  obtain ⟨i, hi⟩ := List.mem_iff_getElem?.mp hx
  exact h i x hi
theorem cut_takeN (l : List PyData) (k : Nat) : Px.cutD l none (some ((k : Nat) : Int)) = l.take k := by
  unfold Px.cutD
  rw [HT.sIx_nat, HT.sIx_none, List.drop_zero, Nat.sub_zero]
  rcases Nat.le_total k l.length with h | h
  · rw [Nat.min_eq_left h]
  · rw [Nat.min_eq_right h, List.take_of_length_le (Nat.le_refl _), List.take_of_length_le h]
theorem noLs_rat : ∀ l : List Rat, noLs (l.map ratD) = true
  | [] => rfl
  | q :: l => by
    rw [List.map_cons, noLs, noLs_rat l, Bool.and_true]
    rcases ratD_or q with ⟨i, e, _⟩ | ⟨a, b, e, _⟩ <;> rw [e] <;> rfl
theorem fold_snoc {α β : Type} (g : α → β) : ∀ (l : List α) (acc : List β), l.foldl (fun acc x => acc ++ [g x]) acc = acc ++ l.map g
  | [], acc => by simp
  | x :: l, acc => by rw [List.foldl_cons, fold_snoc g l, List.map_cons, List.append_assoc]; rfl
theorem ratD_zero : ratD 0 = .int 0 := rfl

local macro_rules | `(tactic| walk_at "pv") => `(tactic| simp only [psParNN, psParNE, pLstN, psAppPop, psExt, pSlO, pIxO, psSetI, pTr, pLendN, pLcN, pLend, uAt_a, uAt_b, List.length_map, uIsO, pMake, psOwnN, pListN, pLr, pRg1, pRg2, pTupO, pLenO, oRep, pChain, iEnumP, iZipTL, List.lookup_cons, psSeq, psSet, psPar, psIf, psRet, psDrop, psCont, psNext, psAsg, psFor, psRaise, psOwn, psApp, psShow, uIsP, uFld, pCallE, pdNo, pVar, nth, pC, pOp, pUn, oI, oI0, uI, oAdd, oEq, oEqE, eqv_rat0, List.isEmpty_nil, List.isEmpty_cons, oNe, oIs, oNis, oIx, pNil, pCons, allD, pTup, pLst, pDisp0, bOf, ptB, ptAnd, ptOr, ptNot, pIf, pAndV, pOrV, pNotV, pCalln, pB, bInt, bAbs, bGcd, bLen, bList, bTuple, bRepr, bAll, uIsi, uIsi2, pgName, pgNil, pgCons, pgTup, Px.iR1, Px.iR2, Px.iS, Px.iZip, iZipU, pSl, pNo, pSome, pLc, pYes, noOwn, noOwn1, wipeE, pdOf, startP, List.set, List.map, List.append, List.cons_append, List.nil_append, List.length_cons, List.length_nil, List.replicate, Nat.reduceAdd, Nat.reduceSub, List.getElem?_cons_zero, List.getElem?_cons_succ, isNone, isBool, oSub, oMul, oDiv, oMod, oPow, oLt, oLe, oGt, oGe, at_0, at_1, okE_int, okE_bool, okE_none, okE_rat, eqv_int, eqv_ti, isTy_int_int, isTy_int_tup, isTy_tup_tup, isTy_tup_int, isTy_bool_int, true_and, and_true, beq_iff_eq, decide_eq_true_eq, decide_eq_false_iff_not, beq_eq_false_iff_ne, Bool.not_true, Bool.not_false, Bool.not_eq_true', Bool.not_eq_false', Nat.reduceLeDiff, Option.some.injEq, exists_eq_left', exists_eq_left, forall_const, true_imp_iff, Bool.false_eq_true, Bool.true_eq_false, false_imp_iff, reduceCtorEq])
local macro_rules | `(tactic| walk_at "pvs") => `(tactic| simp [isTy, tyN, at_0, at_1, okE_int, okE_bool, okE_none, eqv_int, oLt, oLe, oGt, oGe, oSub, oMul, oDiv, oMod, oI, oI0])
local macro_rules | `(tactic| walk_at "pvh") => `(tactic| simp only [psParNN, psParNE, pLstN, psAppPop, psExt, pSlO, pIxO, psSetI, pTr, pLendN, pLcN, pLend, uAt_a, uAt_b, List.length_map, uIsO, pMake, psOwnN, pListN, pLr, pRg1, pRg2, pTupO, pLenO, oRep, pChain, iEnumP, iZipTL, List.lookup_cons, psSeq, psSet, psPar, psIf, psRet, psDrop, psCont, psNext, psAsg, psFor, psRaise, psOwn, psApp, psShow, uIsP, uFld, pCallE, pdNo, pVar, nth, pC, pOp, pUn, oI, oI0, uI, oAdd, oEq, oEqE, eqv_rat0, List.isEmpty_nil, List.isEmpty_cons, oNe, oIs, oNis, oIx, pNil, pCons, allD, pTup, pLst, pDisp0, bOf, ptB, ptAnd, ptOr, ptNot, pIf, pAndV, pOrV, pNotV, pCalln, pB, bInt, bAbs, bGcd, bLen, bList, bTuple, bRepr, bAll, uIsi, uIsi2, pgName, pgNil, pgCons, pgTup, Px.iR1, Px.iR2, Px.iS, Px.iZip, iZipU, pSl, pNo, pSome, pLc, pYes, noOwn, noOwn1, wipeE, pdOf, startP, List.set, List.map, List.append, List.cons_append, List.nil_append, List.length_cons, List.length_nil, List.replicate, Nat.reduceAdd, Nat.reduceSub, List.getElem?_cons_zero, List.getElem?_cons_succ, isNone, isBool, oSub, oMul, oDiv, oMod, oPow, oLt, oLe, oGt, oGe, at_0, at_1, okE_int, okE_bool, okE_none, okE_rat, eqv_int, eqv_ti, isTy_int_int, isTy_int_tup, isTy_tup_tup, isTy_tup_int, isTy_bool_int, true_and, and_true, beq_iff_eq, decide_eq_true_eq, decide_eq_false_iff_not, beq_eq_false_iff_ne, Bool.not_true, Bool.not_false, Bool.not_eq_true', Bool.not_eq_false', Nat.reduceLeDiff, Option.some.injEq, exists_eq_left', exists_eq_left, forall_const, true_imp_iff, Bool.false_eq_true, Bool.true_eq_false, false_imp_iff, reduceCtorEq, if_true, if_false, not_false_eq_true, not_true_eq_false, *])
local macro_rules | `(tactic| walk_at "env") => `(tactic| try simp only [startP, List.map, List.append, List.cons_append, List.nil_append, List.length_cons, List.length_nil, List.replicate, Nat.reduceAdd, Nat.reduceSub, List.set_cons_zero, List.set_cons_succ])

abbrev s_law_fraction : Stmt := topS 71
theorem sc_law_fraction : FnScope ["pen"] ["pen"] (defScope s_law_fraction) := ⟨rfl, rfl, rfl, by decide +kernel, rfl, by decide +kernel, by decide +kernel⟩
abbrev s_law_shuffled : Stmt := topS 54
theorem sc_law_shuffled : FnScope ["pen", "some", "lap", "left", "found"] ["pen", "some"] (defScope s_law_shuffled) := ⟨rfl, rfl, rfl, by decide +kernel, rfl, by decide +kernel, by decide +kernel⟩
abbrev s_law_table : Stmt := topS 72
theorem sc_law_table : FnScope ["pen", "most", "rows", "i", "b", "many", "way", "rest", "one", "k"] ["pen", "most"] (defScope s_law_table) := ⟨rfl, rfl, rfl, by decide +kernel, rfl, by decide +kernel, by decide +kernel⟩
abbrev s_law_is_steps : Stmt := topS 73
theorem sc_law_is_steps : FnScope ["told", "a", "b"] ["told", "a", "b"] (defScope s_law_is_steps) := ⟨rfl, rfl, rfl, by decide +kernel, rfl, by decide +kernel, by decide +kernel⟩
abbrev s_law_sum : Stmt := topS 74
theorem sc_law_sum : FnScope ["row", "found", "one"] ["row"] (defScope s_law_sum) := ⟨rfl, rfl, rfl, by decide +kernel, rfl, by decide +kernel, by decide +kernel⟩
section
variable {P : Program} {w : World} {K : PySem.W.Frag} {mg : Str → Option Value} {base : Heap} {c : Cc} {S_Steps C_BadNumber C_BadRow C_BadTable C_TooMany S : Addr} {Cs : Nat → Addr} {cd P' : Addr}

theorem d_law_fraction (F : Has K mg "_law_fraction" s_law_fraction) (T : Blt mg) (D_law_draw : Kp P w K mg base c 1 "_law_draw" ["pen", "many"] (spDrawP c)) (D_law_low : Kp P w K mg base c 2 "_law_low" ["top", "bottom"] (spLow)) : Kp P w K mg base c 3 "_law_fraction" ["pen"] (spFrac c) := by
  refine keepP F (fun _ _ _ _ _ _ us hl => match us, hl with | [_], _ => rfl) sc_law_fraction (fun f cdv A outer s H E hr hg => ⟨_, (pus_one (pus_ret (pu_call D_law_low hr hg takesF (pa_cons' (pu_op op_sub ro_sub (pu_call D_law_draw hr hg takesF (pa_cons' (pu_var 0) (pa_cons' pu_int pa_nil'))) pu_int) (pa_cons' (pu_op op_addU ro_add pu_int (pu_call D_law_draw hr hg takesF (pa_cons' (pu_var 0) (pa_cons' pu_int pa_nil')))) pa_nil'))))), fun ss R EX hl h => ?_⟩)
  obtain ⟨rfl, h⟩ := h
  walk_at "pv"
  refine dr_i (by decide) (by decide) fun r r0 r1 => ?_
  walk_at "pv"
  refine dr_i (by decide) (by decide) fun r' r2 r3 => ?_
  walk_at "pv"
  exact ⟨r - 3, 1 + r', rfl, by omega, bn_mono (a := 3) (by unfold Bn; omega), h _ (br_frac (by omega) (by omega) (by omega) (by omega))⟩
theorem d_law_shuffled (F : Has K mg "_law_shuffled" s_law_shuffled) (T : Blt mg) (D_law_draw : Kp P w K mg base c 1 "_law_draw" ["pen", "many"] (spDrawP c)) : Kp P w K mg base c 2 "_law_shuffled" ["pen", "some"] (spShuf c) := by
  refine keepP F (fun _ _ _ _ _ _ us hl => match us, hl with | [_, _], _ => rfl) sc_law_shuffled (fun f cdv A outer s H E hr hg => ⟨_, (pus_cons (pus_parNN (i := 3) (j := 4) rfl sc_law_shuffled.nd (pun_list T.b_list (pu_var 1)) (pun_lst pa_nil'))
    (pus_cons (pus_for passF rfl (pui_range1 T.b_range (pa_cons' (pu_callB c_len rb_len T.b_len PySem.boot_len (pa_cons' (pu_var 1) pa_nil')) pa_nil')) (pug_name (i := 2) sc_law_shuffled.nd) (pus_one (pus_appPop 4 3 (pu_call D_law_draw hr hg takesF (pa_cons' (pu_var 0) (pa_cons' (pu_lenO 3 T.b_len) pa_nil'))))))
    (pus_show 4 (pus_one (pus_ret (pu_var 4)))))), fun ss R EX hl h => ?_⟩)
  obtain ⟨l, rfl, hl, h⟩ := h
  walk_at "pv"
  refine ⟨by omega, by omega, pForL_ind (fun i env => ∃ (left found : List PyData) (s2 : Option Sl), env = [some (.raw (.ref c.p)), some (.d (.list l)), s2, some (.own left), some (.own found)] ∧ (left ++ found).Perm l ∧ found.length = i) ⟨l, [], _, rfl, by simp, rfl⟩ (fun i d env N hi hE hN => ?_) fun env hE => ?_⟩
  · obtain ⟨left, found, s2, rfl, hp, hf⟩ := hE
    have hi' := (rangeD_at hi).1
    rw [Int.toNat_natCast] at hi'
    have hlen := hp.length_eq
    rw [List.length_append] at hlen
    walk_at "pv"
    refine dr_i (by omega) (by omega) fun r r0 r1 => ?_
    have hr : r.toNat < left.length := by omega
    refine ⟨r.toNat, left[r.toNat], ixN_nat r0 r1, List.getElem?_eq_getElem hr, by omega, by omega, by omega, hN _ ⟨_, _, _, rfl, ?_, by rw [List.length_append, hf]; rfl⟩⟩
    have e := erase_perm (List.getElem?_eq_getElem hr)
    refine List.Perm.trans ?_ hp
    rw [← List.append_assoc]
    refine (List.perm_append_comm (l₁ := left.eraseIdx r.toNat ++ found) (l₂ := [left[r.toNat]])).trans ?_
    rw [List.singleton_append, ← List.cons_append]
    exact e.append_right found
  · obtain ⟨left, found, s2, rfl, hp, hf⟩ := hE
    rw [rangeD_len, Int.toNat_natCast] at hf
    have hlen := hp.length_eq
    rw [List.length_append] at hlen
    have : left = [] := List.eq_nil_of_length_eq_zero (by omega)
    subst this
    walk_at "pv"
    exact h _ (by simpa using hp)
theorem d_law_table (F : Has K mg "_law_table" s_law_table) (T : Blt mg) (D_law_draw : Kp P w K mg base c 1 "_law_draw" ["pen", "many"] (spDrawP c)) (D_law_fraction : Kp P w K mg base c 3 "_law_fraction" ["pen"] (spFrac c)) (D_law_minus : Kp P w K mg base c 4 "_law_minus" ["one", "other"] (spR2 C0 fSub)) : Kp P w K mg base c 5 "_law_table" ["pen", "most"] (spTab c) := by
  refine keepP F (fun _ _ _ _ _ _ us hl => match us, hl with | [_, _], _ => rfl) sc_law_table (fun f cdv A outer s H E hr hg => ⟨_, (pus_cons (pus_asg (pu_tup (pa_cons' (pu_op op_addU ro_add pu_int (pu_call D_law_draw hr hg takesF (pa_cons' (pu_var 0) (pa_cons' (pu_var 1) pa_nil')))) (pa_cons' (pu_call D_law_draw hr hg takesF (pa_cons' (pu_var 0) (pa_cons' pu_int pa_nil'))) pa_nil'))) (pug_tup (n := 2) (by rfl) (pugs_cons (pug_name (i := 5) sc_law_table.nd) (pugs_cons (pug_name (i := 6) sc_law_table.nd) pugs_nil))))
    (pus_cons (pus_own (i := 2) sc_law_table.nd pa_nil')
    (pus_cons (pus_for passF rfl (pui_range1 T.b_range (pa_cons' (pu_var 5) pa_nil')) (pug_name (i := 3) sc_law_table.nd) (pus_one (pus_app (i := 2) (pu_callTy c_tuple rb_tuple T.b_tuple (by decide +kernel) (pa_cons' (pu_lc (own := [("k", 9)]) rfl sc_law_table.nd (pui_range1 T.b_range (pa_cons' (pu_var 5) pa_nil')) (blkOk_by (by show blkC ["pen", "most", "rows", "i", "b", "many", "way", "rest", "one", "k"] (defScope s_law_table) _ _ = true; decide +kernel)) (fun ci => (pug_name (i := 9) sc_law_table.nd)) (fun ci => (pu_if (PuW.pt (pw_or' (pt_cmp' op_gt ro_gt (pu_var 6) pu_int) (pw_or1' (pt_cmp' op_lt ro_lt (pu_var 9) (pu_var 3))))) (pu_call D_law_fraction hr hg takes0 (pa_cons' (pu_var 0) pa_nil')) pu_int))) pa_nil')))))
    (pus_cons (pus_ownLc0 (i := 4) (own := [("k", 9)]) rfl sc_law_table.nd (pui_range1 T.b_range (pa_cons' (pu_var 5) pa_nil')) (blkOk_by (by show blkC ["pen", "most", "rows", "i", "b", "many", "way", "rest", "one", "k"] (defScope s_law_table) _ _ = true; decide +kernel)) (fun ci => (pug_name (i := 9) sc_law_table.nd)) (fun ci => (pu_call D_law_fraction hr hg takes0 (pa_cons' (pu_var 0) pa_nil'))))
    (pus_cons (pus_if (pt_cmp' (op_eqD (hu64 hr)) ro_eq (pu_call D_law_draw hr hg takesF (pa_cons' (pu_var 0) (pa_cons' pu_int pa_nil'))) pu_int) (pus_cons (pus_set (i := 7) sc_law_table.nd pu_int)
    (pus_cons (pus_for passF rfl (pui_seq (pu_slO 4 puo_none (puo_some (pu_negK pu_int)))) (pug_name (i := 8) sc_law_table.nd) (pus_one (pus_set (i := 7) sc_law_table.nd (pu_call D_law_minus hr hg takesF (pa_cons' (pu_var 7) (pa_cons' (pu_var 8) pa_nil'))))))
    (pus_one (pus_setI 4 (pu_negK pu_int) (pu_var 7))))) pus_nil)
    (pus_one (pus_ret (pu_tup (pa_cons' (pu_tupO 2 T.b_tuple) (pa_cons' (pu_tupO 4 T.b_tuple) pa_nil')))))))))), fun ss R EX hl h => ?_⟩)
  obtain ⟨m, rfl, m1, m4, h⟩ := h
  walk_at "env"
  refine asg_step (fun s => ∃ (n : Nat) (w : Int), s = .d (.tuple [.int (n : Nat), .int w]) ∧ 1 ≤ n ∧ (n : Int) ≤ m) (fun R' hR => ?_) ?_
  · walk_at "pv"
    refine dr_i (by omega) (by omega) fun r r0 r1 => ?_
    walk_at "pv"
    refine dr_i (by decide) (by decide) fun r' r2 r3 => ?_
    exact ⟨by simp, hR _ ⟨(1 + r).toNat, r', by rw [Int.toNat_of_nonneg (by omega)], by omega, by omega⟩⟩
  rintro s ⟨n, w, rfl, n1, nm⟩
  refine g2_i ?_
  walk_at "env"
  refine own_step ?_
  walk_at "env"
  refine for_step (rangeD 0 n) (fun R' hR => ?_) ?_
  · walk_at "pv"
    exact ⟨by omega, by omega, by rw [Int.toNat_natCast]; exact hR⟩
  refine pForL_ind (fun i env => ∃ (a : List (List Rat)) (s3 s9 : Option Sl), env = [some (.raw (.ref c.p)), some (.d (.int m)), some (.own (a.map rowD)), s3, none, some (.d (.int (n : Nat))), some (.d (.int w)), none, none, s9] ∧ a.length = i ∧ ∀ r ∈ a, r.length = n ∧ ∀ q ∈ r, Br 40 q) ⟨[], _, _, rfl, rfl, fun r hr => by cases hr⟩ (fun i d env N hi hE hN => ?_) fun env hE => ?_
  · obtain ⟨a, s3, s9, rfl, ha, hr⟩ := hE
    have hi' := (rangeD_at hi).1
    walk_at "pv"
    have hd := (rangeD_at hi).2
    subst hd
    refine ⟨by omega, by omega, lc_rel ratD (fun _ q => Br 40 q) (by rw [rangeD_len]; omega) (fun k d hk R hR => ?_) fun b hb hp => ?_⟩
    · obtain ⟨_, rfl⟩ := rangeD_at hk
      have fr : spFrac c [.raw (.ref c.p)] R fun _ _ => False := ⟨rfl, fun q hq => hR q (br_up hq (by decide))⟩
      walk_at "pv"
      exact ⟨fun _ => fr, fun _ => ⟨fun _ => fr, fun _ => hR 0 br_zero⟩⟩
    · refine ⟨by omega, hN _ ⟨a ++ [b], _, _, by rw [List.map_append]; rfl, by rw [List.length_append, ha]; rfl, fun r hr' => ?_⟩⟩
      rcases List.mem_append.mp hr' with hr' | hr'
      · exact hr r hr'
      · rw [List.mem_singleton.mp hr']
        exact ⟨by rw [hb, rangeD_len, Int.toNat_natCast], all_of_get hp⟩
  obtain ⟨a, s3, s9, rfl, ha, hr⟩ := hE
  rw [rangeD_len] at ha
  have fin : ∀ (b : List Rat) (s3 s7 s8 s9 : Option Sl), b.length = n → (∀ q ∈ b, Br 40 q) → psRet (pTup (pCons (pTupO 2) (pCons (pTupO 4) pNil))) (pdOf R EX) [some (.raw (.ref c.p)), some (.d (.int m)), some (.own (a.map rowD)), s3, some (.own (b.map ratD)), some (.d (.int (n : Nat))), some (.d (.int w)), s7, s8, s9] := fun b s3 s7 s8 s9 hb hq => by
    walk_at "pv"
    exact h n a b ⟨⟨ha, fun r h => (hr r h).1, hb⟩, fun r h => (hr r h).2, hq⟩ n1 nm
  walk_at "env"
  refine own_i (fun ds => ∃ b : List Rat, ds = b.map ratD ∧ b.length = n ∧ ∀ q ∈ b, Br 3 q) (fun R' hR => ?_) ?_
  · walk_at "pv"
    refine ⟨by omega, by omega, lc_rel ratD (fun _ q => Br 3 q) (by rw [rangeD_len]; omega) (fun k d hk R hR => ?_) fun b hb hp => ?_⟩
    · obtain ⟨_, rfl⟩ := rangeD_at hk
      walk_at "pv"
      exact ⟨rfl, fun q hq => hR q hq⟩
    · exact hR _ ⟨b, rfl, by rw [hb, rangeD_len, Int.toNat_natCast], all_of_get hp⟩
  rintro ds ⟨b, rfl, hb, hq⟩
  walk_at "env"
  refine if_any (fun R' hR => ?_) ?_ (by exact fin b _ _ _ _ hb fun q h => br_up (hq q h) (by decide))
  · walk_at "pv"
    exact dr_i (by decide) (by decide) fun r r0 r1 => (by walk_at "pv"; exact hR _)
  refine set_step (fun s => s = .d (ratD 1)) (fun R' hR => hR _ rfl) ?_
  rintro s rfl
  walk_at "env"
  have hcut : Px.cutD (b.map ratD) none (some (-1)) = (b.take (n - 1)).map ratD := by rw [cut_last _ (by rw [List.length_map]; omega), List.length_map, hb, List.map_take]
  refine for_step ((b.take (n - 1)).map ratD) (fun R' hR => ?_) ?_
  · walk_at "pv"
    rw [hcut]
    exact hR
  have hq' : ∀ q ∈ b.take (n - 1), Br 3 q := fun q h => hq q (List.mem_of_mem_take h)
  refine for_foldT ratD (fun i (t : Rat) env => ∃ s8, env = [some (.raw (.ref c.p)), some (.d (.int m)), some (.own (a.map rowD)), s3, some (.own (b.map ratD)), some (.d (.int (n : Nat))), some (.d (.int w)), some (.d (ratD t)), s8, s9]) (fun t q => t + -q) (a0 := 1) ⟨_, rfl⟩ (fun i q env N hi hE hN => ?_) fun env hE => ?_
  · obtain ⟨s8, rfl⟩ := hE
    have hi' := (List.getElem?_eq_some_iff.mp hi).1
    rw [List.length_take] at hi'
    have B := rest_br (l := (b.take (n - 1)).take i) (fun q h => hq' q (List.mem_of_mem_take h)) (by rw [List.length_take, List.length_take]; omega)
    walk_at "pv"
    exact r2_i (br_up B (by decide)) (br_up (hq' q (List.mem_of_getElem? hi)) (by decide)) True.intro (hN _ ⟨_, rfl⟩)
  · obtain ⟨s8, rfl⟩ := hE
    have B := rest_br (l := b.take (n - 1)) hq' (by rw [List.length_take]; omega)
    generalize (b.take (n - 1)).foldl (fun t q => t + -q) 1 = t at B ⊢
    walk_at "pv"
    refine ⟨n - 1, by rw [hb]; exact ixN_last (by omega), ?_⟩
    rw [← List.map_set]
    refine h n a (b.set (n - 1) t) ⟨⟨ha, fun r h => (hr r h).1, by rw [List.length_set]; exact hb⟩, fun r h => (hr r h).2, fun q h => ?_⟩ n1 nm
    rcases List.mem_or_eq_of_mem_set h with h | rfl
    · exact br_up (hq q h) (by decide)
    · exact B
theorem d_law_isN (F : Has K mg "_law_is" s_law_is) (T : Blt mg) {n : Nat} (D_law_is : Kp P w K mg base c n "_law_is" ["told", "due"] (spIsD n)) : Kp P w K mg base c (n + 1) "_law_is" ["told", "due"] (spIsD (n + 1)) := by
  refine keepP F (fun _ _ _ _ _ _ us hl => match us, hl with | [_, _], _ => rfl) sc_law_is (fun f cdv A outer s H E hr hg => ⟨_, (pus_cons (pus_if (pt_val' (pu_isi isi_tuple T.b_isinstance T.b_tuple (by decide +kernel) (pu_var 1))) (pus_cons (pus_if (PuW.pt (pw_or' (pt_not' (pt_val' (pu_isi isi_tuple T.b_isinstance T.b_tuple (by decide +kernel) (pu_var 0)))) (pw_or1' (pt_cmp' (op_neD (hu64 hr)) ro_ne (pu_callB c_len rb_len T.b_len PySem.boot_len (pa_cons' (pu_var 0) pa_nil')) (pu_callB c_len rb_len T.b_len PySem.boot_len (pa_cons' (pu_var 1) pa_nil')))))) (pus_one (pus_ret pu_bl)) pus_nil)
    (pus_one (pus_ret (pu_cmp (op_eqE (hu64 hr)) ro_eqE (pu_lcI (own := [("at", 2)]) rfl sc_law_is.nd (pui_range1 T.b_range (pa_cons' (pu_callB c_len rb_len T.b_len PySem.boot_len (pa_cons' (pu_var 1) pa_nil')) pa_nil')) (blkOk_by (by show blkC ["told", "due", "at"] (defScope s_law_is) _ _ = true; decide +kernel)) (fun ci => (pug_name (i := 2) sc_law_is.nd)) (fun ci => (pt_not' (pt_val' (pu_call (hjk := Nat.le_refl _) D_law_is hr hg takes0 (pa_cons' (pu_ix (pu_var 0) (pu_var 2)) (pa_cons' (pu_ix (pu_var 1) (pu_var 2)) pa_nil')))))) (fun ci => (pu_var 2))) (pu_lstK pa_nilK))))) pus_nil)
    (pus_cons (pus_if (pt_cmp' op_isC ro_is (pu_var 1) pu_non) (pus_one (pus_ret (pu_cmp op_isC ro_is (pu_var 0) pu_non))) pus_nil)
    (pus_cons (pus_if (pt_cmp' op_isC ro_is (pu_var 1) pu_bl) (pus_one (pus_ret (pu_cmp op_isC ro_is (pu_var 0) pu_bl))) pus_nil)
    (pus_cons (pus_if (pt_cmp' op_isC ro_is (pu_var 1) pu_bl) (pus_one (pus_ret (pu_cmp op_isC ro_is (pu_var 0) pu_bl))) pus_nil)
    (pus_cons (pus_if (pt_val' (pu_isi isi_str T.b_isinstance T.b_str (by decide +kernel) (pu_var 1))) (pus_one (pus_ret (pu_and (pu_isi isi_str T.b_isinstance T.b_str (by decide +kernel) (pu_var 0)) (pu_one (pu_cmp (op_eqD (hu64 hr)) ro_eq (pu_var 0) (pu_var 1)))))) pus_nil)
    (pus_one (pus_ret (pu_and (pu_isi isi_int T.b_isinstance T.b_int (by decide +kernel) (pu_var 0)) (pu_and (pu_not (pu_isi isi_bool T.b_isinstance T.b_bool (by decide +kernel) (pu_var 0))) (pu_one (pu_cmp (op_eqD (hu64 hr)) ro_eq (pu_var 0) (pu_var 1)))))))))))), fun ss R EX hl h => ?_⟩)
  obtain ⟨d, rfl, hd, h⟩ := h
  rcases hd with ⟨i, rfl⟩ | ⟨l, rfl, hll, hx⟩
  · walk_at "pv"
    simpa [isTy, tyN, okE_int, eqv_int] using h
  · walk_at "pv"
    refine ⟨fun z => absurd rfl z, by omega, by omega, pLcL_ind (fun i acc => acc = []) rfl (fun i d acc N hi hacc hN => ?_) fun acc e => by subst e; exact h⟩
    subst hacc
    obtain ⟨hk, rfl⟩ := rangeD_at hi
    rw [Int.toNat_natCast] at hk
    have at' : atI l (0 + ((i : Nat) : Int)) = some l[i] := by rw [Int.zero_add]; exact atI_nat (List.getElem?_eq_getElem hk)
    walk_at "pv"
    exact ⟨_, at', _, at', _, rfl, hx _ (List.getElem_mem _), fun z => Bool.noConfusion z, fun _ => hN _ rfl⟩
theorem d_law_is_steps (F : Has K mg "_law_is_steps" s_law_is_steps) (T : Blt mg) (O_Steps : ObK K mg "Steps" S_Steps ["a", "b"]) (D_law_is : Kp P w K mg base c 5 "_law_is" ["told", "due"] (spIsD 5)) : Kp P w K mg base c 6 "_law_is_steps" ["told", "a", "b"] (spIsS S_Steps) := by
  refine keepP F (fun _ _ _ _ _ _ us hl => match us, hl with | [_, _, _], _ => rfl) sc_law_is_steps (fun f cdv A outer s H E hr hg => ⟨_, (pus_one (pus_ret (pu_and (pu_isO O_Steps T.b_isinstance (pu_var 0)) (pu_and (pu_call D_law_is hr hg takesF (pa_cons' (pu_at O_Steps.o (pu_var 0)) (pa_cons' (pu_var 1) pa_nil'))) (pu_one (pu_call D_law_is hr hg takesF (pa_cons' (pu_at O_Steps.o (pu_var 0)) (pa_cons' (pu_var 2) pa_nil')))))))), fun ss R EX hl h => ?_⟩)
  obtain ⟨a, b, rfl, la, lr, lb, h⟩ := h
  walk_at "pv"
  refine ⟨_, rfl, pl_mat la lr, fun _ => ⟨_, rfl, pl_row lb, h⟩, fun z => Bool.noConfusion z⟩
theorem d_law_sum (F : Has K mg "_law_sum" s_law_sum) (T : Blt mg) (D_law_plus : Kp P w K mg base c 3 "_law_plus" ["one", "other"] (spR2 C0 fAdd)) : Kp P w K mg base c 4 "_law_sum" ["row"] (spTot) := by
  refine keepP F (fun _ _ _ _ _ _ us hl => match us, hl with | [_], _ => rfl) sc_law_sum (fun f cdv A outer s H E hr hg => ⟨_, (pus_cons (pus_set (i := 1) sc_law_sum.nd pu_int)
    (pus_cons (pus_for passF rfl (pui_seq (pu_var 0)) (pug_name (i := 2) sc_law_sum.nd) (pus_one (pus_set (i := 1) sc_law_sum.nd (pu_call D_law_plus hr hg takesF (pa_cons' (pu_var 1) (pa_cons' (pu_var 2) pa_nil'))))))
    (pus_one (pus_ret (pu_var 1))))), fun ss R EX hl h => ?_⟩)
  obtain ⟨r, rfl, hl, hb, h⟩ := h
  refine set_step (fun s => s = .d (ratD 0)) (fun R' hR => hR _ rfl) ?_
  rintro s rfl
  refine for_step (r.map ratD) (fun R' hR => ?_) ?_
  · walk_at "pv"
    exact hR
  refine for_foldT ratD (fun i (q : Rat) env => ∃ s2, env = [some (.d (rowD r)), some (.d (ratD q)), s2]) (fun a b => a + b) (a0 := 0) ⟨_, rfl⟩ (fun i q env N hi hE hN => ?_) fun env hE => ?_
  · obtain ⟨s2, rfl⟩ := hE
    have B := sum_br (l := r.take i) (fun q hq => hb q (List.mem_of_mem_take hq))
    have hq := hb q (List.mem_of_getElem? hi)
    have hm : (r.take i).length ≤ 8 := by rw [List.length_take]; omega
    walk_at "pv"
    exact r2_i (br_up B (by omega)) (br_up hq (by omega)) True.intro (hN _ ⟨_, rfl⟩)
  · obtain ⟨s2, rfl⟩ := hE
    walk_at "pv"
    exact h
end
end K11
namespace K11
open PySem PySem.Spec PyProof.Rows L2 Lx Px

def ok4 (mg : Str → Option Value) (f : Addr) : Prop := mg "nodes" = some (.ref f) ∨ mg "is_explicit" = some (.ref f) ∨ mg "turned_back" = some (.ref f) ∨ mg "undone" = some (.ref f)
def spRef1 (C : Addr) : PSp := fun ss _ EX => ∃ d, ss = [.d d] ∧ EX C [("what", .str "steps")]
def ok2 (mg : Str → Option Value) (f : Addr) : Prop := mg "renumbered" = some (.ref f) ∨ mg "scaled" = some (.ref f)
/-- the two of two arguments, refused -/
def spRef2 (mg : Str → Option Value) (S CT CR CN : Addr) (f : Addr) : PSp := fun ss _ EX => (∃ d x, ss = [.d d, .d x] ∧ EX CT [("what", .str "steps")]) ∨
  (mg "renumbered" = some (.ref f) ∧ ∃ n a b x, ss = [stS S a b, .d x] ∧ Tab n a b ∧ 1 ≤ n ∧ n ≤ 8 ∧ Sh1 x ∧ (∀ ns : List Int, (x = .list (intsD ns) ∨ x = .tuple (intsD ns)) → ¬ ns.Perm (rgI n)) ∧ EX CR [("row", x), ("what", .str "order")]) ∨
  (mg "scaled" = some (.ref f) ∧ ∃ a b x, ss = [stS S a b, .d x] ∧ isRat x = false ∧ EX CN [("number", x), ("what", .str "r")])
abbrev tSteps : PyData := .tuple [.str "table", .str "steps"]
def spOne (mg : Str → Option Value) : PSp := fun ss R _ => ∃ f d, ss = [.raw (.ref f), .d d] ∧ ok4 mg f ∧ R (.d tSteps)
def spTwo (S : Addr) : PSp := fun ss R _ => ∃ x y, ss = [.d x, .d y] ∧ Sh2 x ∧ Sh1 y ∧ ((matOk x = false ∧ R (.d (.tuple [.str "table", .str "a"]))) ∨
  (∃ l, seqD x = some l ∧ matOk x = true ∧ rowOk y (l.length : Int) = false ∧ OkR y ∧ R (.d (.tuple [.str "row", .str "b", .str y.shown]))) ∨
  ((∃ n a b xs, seqD x = some xs ∧ RowsIn a xs ∧ RowIn b y ∧ Tab n a b ∧ 1 ≤ n ∧ n ≤ 8) ∧ R (.d .none)))
def spMore (mg : Str → Option Value) (S : Addr) : PSp := fun ss R _ => ∃ f s x, ss = [.raw (.ref f), s, .d x] ∧ ok2 mg f ∧ ((∃ d, s = .d d ∧ R (.d tSteps)) ∨
  (mg "renumbered" = some (.ref f) ∧ ∃ n a b, s = stS S a b ∧ Tab n a b ∧ 1 ≤ n ∧ n ≤ 8 ∧ Sh1 x ∧ OkR x ∧ (∀ ns : List Int, (x = .list (intsD ns) ∨ x = .tuple (intsD ns)) → ¬ ns.Perm (rgI n)) ∧ R (.d (.tuple [.str "row", .str "order", .str x.shown]))) ∨
  (mg "scaled" = some (.ref f) ∧ ∃ a b, s = stS S a b ∧ isRat x = false ∧ OkR x ∧ R (.d (.tuple [.str "number", .str "r", .str x.shown]))))
theorem due2 {Cs : Nat → Addr} {x : Str} (hx : OkR (.str x)) : dueK Cs (Cs 2) [("what", .str x)] (.tuple [.str "table", .str x]) :=
  ⟨2, [.str x], rfl, rfl, by decide, rfl, fun v hv => by rw [List.mem_singleton.mp hv]; exact hx, rfl⟩
section
variable {X : Cx} {c : Cc} {W : WX} {S : Addr} {Cs : Nat → Addr}
theorem pu_fltJ {n : Nat} {x : Str} {cd P' : Addr} {params : Arguments} {body : Expr} {scope : Scope} {p lpos pos : Pos} {pe : PTE} (FF : Has X.K X.mg "_law_fault" s_law_fault) (T : Blt X.mg) (hVE : X.mg "ValueError" = none) (TC : Tc X.K X.mg S tab Cs) (DK : KpE X.prog X.w X.K X.mg X.base c 2 "_law_kinds" ["e"] (spKindsP Cs)) (M : Mk X.base X.mg c x cd P')
    (hr : Room (n + 3) X.A) (hg : X.A.guards = some []) (L : LamX.LamS X.env.scope scope) (hbody : ∀ (A : Around) (outer : List Env) (s : Shared) (H : Hp) (E : XK) (f c' : Addr), Room (n + 1) (A.deeper (LamX.lamEnv X scope s.heap.objs.size f c')) → PuE (LamX.lamCx X A outer s H E scope f c') c (WF E) body pe)
    (hq : X.env.qual ++ "<lambda>" = lamQ x := by rfl) (hcode : X.env.code = .ref cd := by rfl) (hgl : Gl X "_law_fault" := by rfl) (hdef : defaultsOf params X.env = ([], []) := by rfl)
    (hbind : ∀ (q : Str) (cl : List (Str × Addr)) (pm cv ctv : Value), bindArgs (PySem.W.kla_fn "<lambda>" q params body scope cl pm cv ctv) ⟨[], []⟩ = pure [] := by intros; rfl) :
    PuE X c W (.Call (.Name "_law_fault" p) [.Lambda params body scope lpos] [] pos) (pFault (dueK Cs) pe) :=
  pu_fault FF (fun _ _ _ _ _ _ us hl => match us, hl with | [_], _ => rfl) sc_law_fault rfl (.inl rfl) (fun g cdg => give_fault (j := n) T hVE TC DK hr hg) M.tb hcode (by rw [hq]; exact M.inT) (fun p hp e => by rw [hq]; exact M.un p hp e) hr L hbody hgl hdef hbind
end

local macro_rules | `(tactic| walk_at "pv") => `(tactic| simp only [psParNN, psParNE, pLstN, psAppPop, psExt, pSlO, pIxO, psSetI, pTr, pLendN, pLcN, pLend, uAt_a, uAt_b, List.length_map, uIsO, pMake, psOwnN, pListN, pLr, pRg1, pRg2, pTupO, pLenO, oRep, pChain, iEnumP, iZipTL, List.lookup_cons, psSeq, psSet, psPar, psIf, psRet, psDrop, psCont, psNext, psAsg, psFor, psRaise, psOwn, psApp, psShow, uIsP, uFld, pCallE, pdNo, pVar, nth, pC, pOp, pUn, oI, oI0, uI, oAdd, oEq, oEqE, eqv_rat0, List.isEmpty_nil, List.isEmpty_cons, oNe, oIs, oNis, oIx, pNil, pCons, allD, pTup, pLst, pDisp0, bOf, ptB, ptAnd, ptOr, ptNot, pIf, pAndV, pOrV, pNotV, pCalln, pB, bInt, bAbs, bGcd, bLen, bList, bTuple, bRepr, bAll, uIsi, uIsi2, pgName, pgNil, pgCons, pgTup, Px.iR1, Px.iR2, Px.iS, Px.iZip, iZipU, pSl, pNo, pSome, pLc, pYes, noOwn, noOwn1, wipeE, pdOf, startP, List.set, List.map, List.append, List.cons_append, List.nil_append, List.length_cons, List.length_nil, List.replicate, Nat.reduceAdd, Nat.reduceSub, List.getElem?_cons_zero, List.getElem?_cons_succ, isNone, isBool, oSub, oMul, oDiv, oMod, oPow, oLt, oLe, oGt, oGe, at_0, at_1, okE_int, okE_bool, okE_none, okE_rat, eqv_int, eqv_ti, isTy_int_int, isTy_int_tup, isTy_tup_tup, isTy_tup_int, isTy_bool_int, true_and, and_true, beq_iff_eq, decide_eq_true_eq, decide_eq_false_iff_not, beq_eq_false_iff_ne, Bool.not_true, Bool.not_false, Bool.not_eq_true', Bool.not_eq_false', Nat.reduceLeDiff, Option.some.injEq, exists_eq_left', exists_eq_left, forall_const, true_imp_iff, Bool.false_eq_true, Bool.true_eq_false, false_imp_iff, reduceCtorEq])
local macro_rules | `(tactic| walk_at "pvs") => `(tactic| simp [isTy, tyN, at_0, at_1, okE_int, okE_bool, okE_none, eqv_int, oLt, oLe, oGt, oGe, oSub, oMul, oDiv, oMod, oI, oI0])
local macro_rules | `(tactic| walk_at "pvh") => `(tactic| simp only [psParNN, psParNE, pLstN, psAppPop, psExt, pSlO, pIxO, psSetI, pTr, pLendN, pLcN, pLend, uAt_a, uAt_b, List.length_map, uIsO, pMake, psOwnN, pListN, pLr, pRg1, pRg2, pTupO, pLenO, oRep, pChain, iEnumP, iZipTL, List.lookup_cons, psSeq, psSet, psPar, psIf, psRet, psDrop, psCont, psNext, psAsg, psFor, psRaise, psOwn, psApp, psShow, uIsP, uFld, pCallE, pdNo, pVar, nth, pC, pOp, pUn, oI, oI0, uI, oAdd, oEq, oEqE, eqv_rat0, List.isEmpty_nil, List.isEmpty_cons, oNe, oIs, oNis, oIx, pNil, pCons, allD, pTup, pLst, pDisp0, bOf, ptB, ptAnd, ptOr, ptNot, pIf, pAndV, pOrV, pNotV, pCalln, pB, bInt, bAbs, bGcd, bLen, bList, bTuple, bRepr, bAll, uIsi, uIsi2, pgName, pgNil, pgCons, pgTup, Px.iR1, Px.iR2, Px.iS, Px.iZip, iZipU, pSl, pNo, pSome, pLc, pYes, noOwn, noOwn1, wipeE, pdOf, startP, List.set, List.map, List.append, List.cons_append, List.nil_append, List.length_cons, List.length_nil, List.replicate, Nat.reduceAdd, Nat.reduceSub, List.getElem?_cons_zero, List.getElem?_cons_succ, isNone, isBool, oSub, oMul, oDiv, oMod, oPow, oLt, oLe, oGt, oGe, at_0, at_1, okE_int, okE_bool, okE_none, okE_rat, eqv_int, eqv_ti, isTy_int_int, isTy_int_tup, isTy_tup_tup, isTy_tup_int, isTy_bool_int, true_and, and_true, beq_iff_eq, decide_eq_true_eq, decide_eq_false_iff_not, beq_eq_false_iff_ne, Bool.not_true, Bool.not_false, Bool.not_eq_true', Bool.not_eq_false', Nat.reduceLeDiff, Option.some.injEq, exists_eq_left', exists_eq_left, forall_const, true_imp_iff, Bool.false_eq_true, Bool.true_eq_false, false_imp_iff, reduceCtorEq, if_true, if_false, not_false_eq_true, not_true_eq_false, *])
local macro_rules | `(tactic| walk_at "env") => `(tactic| try simp only [startP, List.map, List.append, List.cons_append, List.nil_append, List.length_cons, List.length_nil, List.replicate, Nat.reduceAdd, Nat.reduceSub, List.set_cons_zero, List.set_cons_succ])

abbrev s_law_one : Stmt := topS 78
theorem sc_law_one : FnScope ["call", "one"] ["call", "one"] (defScope s_law_one) := ⟨rfl, rfl, rfl, by decide +kernel, rfl, by decide +kernel, by decide +kernel⟩
abbrev s_law_two : Stmt := topS 79
theorem sc_law_two : FnScope ["a", "b"] ["a", "b"] (defScope s_law_two) := ⟨rfl, rfl, rfl, by decide +kernel, rfl, by decide +kernel, by decide +kernel⟩
abbrev s_law_more : Stmt := topS 80
theorem sc_law_more : FnScope ["call", "one", "other"] ["call", "one", "other"] (defScope s_law_more) := ⟨rfl, rfl, rfl, by decide +kernel, rfl, by decide +kernel, by decide +kernel⟩
section
variable {P : Program} {w : World} {K : PySem.W.Frag} {mg : Str → Option Value} {base : Heap} {c : Cc} {S_Steps C_BadNumber C_BadRow C_BadTable C_TooMany S : Addr} {Cs : Nat → Addr} {cd P' : Addr}

theorem d_law_one (F : HasC K mg "_law_one" s_law_one cd) (T : Blt mg) (hVE : mg "ValueError" = none) (TC : Tc K mg S tab Cs) (FF : Has K mg "_law_fault" s_law_fault) (DK : KpE P w K mg base c 2 "_law_kinds" ["e"] (spKindsP Cs)) (M : Mk base mg c "_law_one" cd P')  (D_nodes : KpO P w K mg base c 5 "nodes" ["steps"] (spNod S_Steps (Cs 2))) (D_is_explicit : KpO P w K mg base c 4 "is_explicit" ["steps"] (spExp S_Steps (Cs 2))) (D_turned_back : KpO P w K mg base c 7 "turned_back" ["steps"] (spTb S_Steps (Cs 2))) (D_undone : KpO P w K mg base c 7 "undone" ["steps"] (spUn S_Steps (Cs 2))) : Kp P w K mg base c 10 "_law_one" ["call", "one"] (spOne mg) := by
  have go : ∀ {x : Str} {f : Addr} {ps : List Str} {j : Nat} {sp : PSp}, KpO P w K mg base c j x ps sp → j ≤ 7 → ps.length = 1 → (∀ ss R EX, spRef1 (Cs 2) ss R EX → sp ss R EX) → mg x = some (.ref f) → (∃ fd ps, FnOk P w K mg base (L2.CX P w) 7 f fd ps (lift c 1 (spRef1 (Cs 2))) ∧ Binds K fd ps []) ∧ PySem.W.keepIn K (.ref f) = true := fun D hj hp hi e => by
    obtain ⟨f', fd, F', hm, hk, hb⟩ := ((D.mono hj).imp hi).ex
    rw [e] at hm
    cases hm
    rw [hp] at F'
    exact ⟨⟨fd, _, F', hb⟩, hk⟩
  have hF : ∀ f, ok4 mg f → (∃ fd ps, FnOk P w K mg base (L2.CX P w) 7 f fd ps (lift c 1 (spRef1 (Cs 2))) ∧ Binds K fd ps []) ∧ PySem.W.keepIn K (.ref f) = true := fun f hf => by
    rcases hf with e | e | e | e
    · exact go D_nodes (by decide) rfl (fun ss R EX h => .inl h) e
    · exact go D_is_explicit (by decide) rfl (fun ss R EX h => .inl h) e
    · exact go D_turned_back (by decide) rfl (fun ss R EX h => .inl h) e
    · exact go D_undone (by decide) rfl (fun ss R EX h => .inl h) e
  refine keepPC F (fun _ _ _ _ _ _ us hl => match us, hl with | [_, _], _ => rfl) sc_law_one (fun f A outer s H E hr hg => ⟨_, (pus_one (pus_ret (pu_fltJ FF T hVE TC DK M hr hg (LamX.lamS_by (by show LamX.lamSB (defScope s_law_one) _ = true; decide +kernel)) (fun A outer s H E f c' hr2 => (pu_callR (k := 7) (i := 0) (n := 1) (ok := ok4 mg) (sp := spRef1 (Cs 2)) hF hr2 (takes_of rfl rfl rfl rfl) (pa_cons' (pu_var 1) pa_nil')))))), fun ss R EX hl h => ?_⟩)
  obtain ⟨f, d, rfl, hf, h⟩ := h
  refine flt_i ?_
  walk_at "pv"
  refine ⟨⟨f, rfl, hf⟩, ?_⟩
  walk_at "pv"
  exact ⟨d, rfl, _, due2 (okR_of (by decide +kernel)).1, h⟩
theorem d_law_two (F : HasC K mg "_law_two" s_law_two cd) (T : Blt mg) (hVE : mg "ValueError" = none) (TC : Tc K mg S tab Cs) (FF : Has K mg "_law_fault" s_law_fault) (DK : KpE P w K mg base c 2 "_law_kinds" ["e"] (spKindsP Cs)) (M : Mk base mg c "_law_two" cd P') (D_Steps : KpI P w K mg base c 4 "Steps" S_Steps 2 (spInit S_Steps (Cs 2) (Cs 1))) : Kp P w K mg base c 8 "_law_two" ["a", "b"] (spTwo S_Steps) := by
  refine keepPC F (fun _ _ _ _ _ _ us hl => match us, hl with | [_, _], _ => rfl) sc_law_two (fun f A outer s H E hr hg => ⟨_, (pus_one (pus_ret (pu_fltJ FF T hVE TC DK M hr hg (LamX.lamS_by (by show LamX.lamSB (defScope s_law_two) _ = true; decide +kernel)) (fun A outer s H E f c' hr2 => (pu_make D_Steps hr2 (takes_of rfl rfl rfl rfl) (pa_cons' (pu_var 0) (pa_cons' (pu_var 1) pa_nil'))))))), fun ss R EX hl h => ?_⟩)
  obtain ⟨x, y, rfl, sx, sy, h⟩ := h
  refine flt_i ?_
  walk_at "pv"
  refine ⟨x, y, rfl, sx, sy, fun z => ?_, fun l e z z' => ?_, fun n a b xs e h1 h2 T n1 n8 => ?_⟩
  · rcases h with ⟨e, h⟩ | ⟨l, e, e', _⟩ | ⟨⟨n, a, b, xs, e, h1, h2, T, n1, n8⟩, h⟩
    · exact ⟨_, due2 (okR_of (by decide +kernel)).1, h⟩
    · rw [e'] at z; cases z
    · rw [matOk_of (seq_of e) h1 T n1 n8] at z; cases z
  · rcases h with ⟨e', h⟩ | ⟨l', e', _, e2, ho, h⟩ | ⟨⟨n, a, b, xs, e', h1, h2, T, n1, n8⟩, h⟩
    · rw [e'] at z; cases z
    · exact ⟨_, due1 (okR_of (by decide +kernel)).1 ho, h⟩
    · rw [e] at e'
      cases e'
      rw [rows_len h1, T.la, rowIn_ok h2 T.lb] at z'
      cases z'
  · rcases h with ⟨e', h⟩ | ⟨l', e', _, e2, ho, h⟩ | ⟨_, h⟩
    · rw [matOk_of (seq_of e) h1 T n1 n8] at e'; cases e'
    · rw [e] at e'
      cases e'
      rw [rows_len h1, T.la, rowIn_ok h2 T.lb] at e2
      cases e2
    · exact h
theorem d_law_more (F : HasC K mg "_law_more" s_law_more cd) (T : Blt mg) (hVE : mg "ValueError" = none) (TC : Tc K mg S tab Cs) (FF : Has K mg "_law_fault" s_law_fault) (DK : KpE P w K mg base c 2 "_law_kinds" ["e"] (spKindsP Cs)) (M : Mk base mg c "_law_more" cd P')  (hne : ∀ f, mg "renumbered" = some (.ref f) → mg "scaled" = some (.ref f) → False) (D_renumbered : KpO P w K mg base c 7 "renumbered" ["steps", "order"] (spRen S_Steps (Cs 2) (Cs 1))) (D_scaled : KpO P w K mg base c 7 "scaled" ["steps", "r"] (spSc S_Steps (Cs 2) (Cs 0))) : Kp P w K mg base c 10 "_law_more" ["call", "one", "other"] (spMore mg S_Steps) := by
  have go : ∀ {x : Str} {f : Addr} {ps : List Str} {j : Nat} {sp : PSp}, KpO P w K mg base c j x ps sp → j ≤ 7 → ps.length = 2 → (∀ ss R EX, spRef2 mg S_Steps (Cs 2) (Cs 1) (Cs 0) f ss R EX → sp ss R EX) → mg x = some (.ref f) → (∃ fd ps, FnOk P w K mg base (L2.CX P w) 7 f fd ps (lift c 2 (spRef2 mg S_Steps (Cs 2) (Cs 1) (Cs 0) f)) ∧ Binds K fd ps []) ∧ PySem.W.keepIn K (.ref f) = true := fun D hj hp hi e => by
    obtain ⟨f', fd, F', hm, hk, hb⟩ := ((D.mono hj).imp hi).ex
    rw [e] at hm
    cases hm
    rw [hp] at F'
    exact ⟨⟨fd, _, F', hb⟩, hk⟩
  have ne : ∀ {f : Addr}, mg "renumbered" = some (.ref f) → mg "scaled" = some (.ref f) → False := fun e1 e2 => hne _ e1 e2
  have hF : ∀ f, ok2 mg f → (∃ fd ps, FnOk P w K mg base (L2.CX P w) 7 f fd ps (lift c 2 (spRef2 mg S_Steps (Cs 2) (Cs 1) (Cs 0) f)) ∧ Binds K fd ps []) ∧ PySem.W.keepIn K (.ref f) = true := fun f hf => by
    rcases hf with e | e
    · refine go D_renumbered (by decide) rfl (fun ss R EX h => ?_) e
      rcases h with h | ⟨_, n, a, b, x, rfl, Ta, n1, n8, hs, hb, h⟩ | ⟨e', _⟩
      · exact .inl h
      · exact .inr ⟨n, a, b, x, rfl, Ta, n1, n8, .inl ⟨hs, hb, h⟩⟩
      · exact (ne e e').elim
    · refine go D_scaled (by decide) rfl (fun ss R EX h => ?_) e
      rcases h with h | ⟨e', _⟩ | ⟨_, a, b, x, rfl, hb, h⟩
      · exact .inl h
      · exact (ne e' e).elim
      · exact .inr ⟨0, a, b, x, rfl, .inl ⟨hb, h⟩⟩
  refine keepPC F (fun _ _ _ _ _ _ us hl => match us, hl with | [_, _, _], _ => rfl) sc_law_more (fun f A outer s H E hr hg => ⟨_, (pus_one (pus_ret (pu_fltJ FF T hVE TC DK M hr hg (LamX.lamS_by (by show LamX.lamSB (defScope s_law_more) _ = true; decide +kernel)) (fun A outer s H E f c' hr2 => (pu_callRf (k := 7) (i := 0) (n := 2) (ok := ok2 mg) (sp := spRef2 mg S_Steps (Cs 2) (Cs 1) (Cs 0)) hF hr2 (takes_of rfl rfl rfl rfl) (pa_cons' (pu_var 1) (pa_cons' (pu_var 2) pa_nil'))))))), fun ss R EX hl h => ?_⟩)
  obtain ⟨f, s, x, rfl, hf, h⟩ := h
  refine flt_i ⟨f, rfl, hf, ?_⟩
  rcases h with ⟨d, rfl, h⟩ | ⟨e, n, a, b, rfl, T, n1, n8, sx, ho, hp, h⟩ | ⟨e, a, b, rfl, hb, ho, h⟩
  · walk_at "pv"
    exact .inl ⟨d, x, rfl, _, due2 (okR_of (by decide +kernel)).1, h⟩
  · walk_at "pv"
    exact .inr (.inl ⟨e, n, a, b, x, rfl, T, n1, n8, sx, hp, _, due1 (okR_of (by decide +kernel)).1 ho, h⟩)
  · walk_at "pv"
    exact .inr (.inr ⟨e, a, b, x, rfl, hb, _, due0 (okR_of (by decide +kernel)).1 ho, h⟩)
end
end K11
namespace K11
open PySem PySem.Spec PyProof.Rows L2 Lx Px

def spMade (c : Cc) : PSp := fun ss R _ => ∃ n a b, ss = [.raw (.ref c.p), .d (matD a), .d (rowD b)] ∧ Dr n a b ∧ 1 ≤ n ∧ n ≤ 4 ∧ R (.d (.bool true))
def spRefu (S : Addr) (c : Cc) : PSp := fun ss R _ => ∃ (n : Nat) (a : List (List Rat)) (b : List Rat), ss = [.raw (.ref c.p), stS S a b, .d (.int (n : Int))] ∧ Tab n a b ∧ 1 ≤ n ∧ n ≤ 4 ∧ R (.d (.bool true))
theorem sh2_tup {l : List PyData} (h : l.length ≤ 1000) (h2 : ∀ d ∈ l, Sh1 d) : Sh2 (.tuple l) := fun l' e => by cases e; exact ⟨h, h2⟩
theorem sh1_tup {l : List PyData} (h : l.length ≤ 1000) : Sh1 (.tuple l) := fun l' e => by cases e; exact h
theorem sh1_rowD {r : List Rat} (h : r.length ≤ 8) : Sh1 (rowD r) := sh1_tup (by rw [List.length_map]; omega)
theorem matOk_no {l : List PyData} {d : PyData} (hd : d ∈ l) (h : rowOk d (l.length : Int) = false) : matOk (.tuple l) = false := by
  unfold matOk
  simp only [seqD]
  rw [Bool.and_eq_false_iff]
  refine .inr ?_
  rw [Bool.eq_false_iff]
  intro z
  have := List.all_eq_true.mp z d hd
  rw [h] at this
  cases this
theorem rowOk_len {l : List PyData} {n : Int} (h : (l.length : Int) ≠ n) : rowOk (.tuple l) n = false := by
  unfold rowOk
  simp only [seqD]
  rw [show ((l.length : Int) == n) = false from by simpa using h, Bool.false_and]
theorem rowOk_odd {l : List PyData} {d : PyData} {n : Int} (hd : d ∈ l) (h : isRat d = false) : rowOk (.tuple l) n = false := by
  unfold rowOk
  simp only [seqD]
  rw [Bool.and_eq_false_iff]
  refine .inr ?_
  rw [Bool.eq_false_iff]
  intro z
  have := List.all_eq_true.mp z d hd
  rw [h] at this
  cases this
theorem odds_norat : ∀ d ∈ odds, isRat d = false := fun d hd => by
  have := List.all_eq_true.mp (by decide +kernel : odds.all (fun d => !isRat d) = true) d hd
  simpa using this
theorem no_perm {x : PyData} {ms : List Int} {n : Nat} (hx : x = .tuple (intsD ms)) (hp : ms.isPerm (rgI n) = false) : ∀ ns : List Int, (x = .list (intsD ns) ∨ x = .tuple (intsD ns)) → ¬ ns.Perm (rgI n) := fun ns h => by
  subst hx
  rcases h with h | h
  · cases h
  · injection h with h
    rw [← intsD_inj h]
    intro z
    rw [List.isPerm_iff.mpr z] at hp
    cases hp
def notInts : PyData → Bool
  | .tuple l => !l.all isIntD
  | .list l => !l.all isIntD
  | _ => true
theorem intsD_all (ns : List Int) : (intsD ns).all isIntD = true := by
  rw [List.all_eq_true]
  intro d hd
  obtain ⟨i, _, rfl⟩ := List.mem_map.mp hd
  rfl
theorem no_perm' {x : PyData} {n : Nat} (hx : notInts x = true) : ∀ ns : List Int, (x = .list (intsD ns) ∨ x = .tuple (intsD ns)) → ¬ ns.Perm (rgI n) := fun ns h => by
  rcases h with rfl | rfl <;> (simp only [notInts, intsD_all] at hx; cases hx)
theorem rb_up {b : List Rat} (hb : ∀ q ∈ b, Br 40 q) : ∀ d ∈ b.map ratD, ∃ q, d = ratD q ∧ Br 145 q := fun d hd => by
  obtain ⟨q, hq, rfl⟩ := List.mem_map.mp hd
  exact ⟨q, rfl, br_up (hb q hq) (by decide)⟩
def outs (n : Nat) : List PyData := [.none, .tuple [], .tuple (rgD 0 ((n : Int) + 1)), if n > 1 then .tuple (repD n [.int 0]) else .tuple [.int 1], .str "0", .dict [], .tuple (repD n [.bool true])]
structure OutOk (n : Nat) (x : PyData) : Prop where
  sh : Sh1 x
  ok : OkR x
  st : PyData.strOk x.shown = true
  np : ∀ ns : List Int, (x = .list (intsD ns) ∨ x = .tuple (intsD ns)) → ¬ ns.Perm (rgI n)
theorem sh1_small {x : PyData} (h : (match seqD x with | some l => decide (l.length ≤ 1000) | none => true) = true) : Sh1 x := fun l e => by rw [e] at h; exact of_decide_eq_true h
theorem outs_ok {n : Nat} (n1 : 1 ≤ n) (n4 : n ≤ 4) : ∀ x ∈ outs n, OutOk n x := by
  have a1 : (outs 1).all okRb = true := by decide +kernel
  have a2 : (outs 2).all okRb = true := by decide +kernel
  have a3 : (outs 3).all okRb = true := by decide +kernel
  have a4 : (outs 4).all okRb = true := by decide +kernel
  have b1 : (outs 1).all (fun x => match seqD x with | some l => decide (l.length ≤ 1000) | none => true) = true := by decide +kernel
  have b2 : (outs 2).all (fun x => match seqD x with | some l => decide (l.length ≤ 1000) | none => true) = true := by decide +kernel
  have b3 : (outs 3).all (fun x => match seqD x with | some l => decide (l.length ≤ 1000) | none => true) = true := by decide +kernel
  have b4 : (outs 4).all (fun x => match seqD x with | some l => decide (l.length ≤ 1000) | none => true) = true := by decide +kernel
  intro x hx
  have hn : n = 1 ∨ n = 2 ∨ n = 3 ∨ n = 4 := by omega
  have np : ∀ ns : List Int, (x = .list (intsD ns) ∨ x = .tuple (intsD ns)) → ¬ ns.Perm (rgI n) := by
    unfold outs at hx
    simp only [List.mem_cons, List.not_mem_nil, or_false] at hx
    rcases hx with rfl | rfl | rfl | rfl | rfl | rfl | rfl
    · exact no_perm' rfl
    · exact no_perm (ms := []) rfl (by rcases hn with rfl | rfl | rfl | rfl <;> decide)
    · rw [show ((n : Int) + 1) = ((n + 1 : Nat) : Int) by omega, rgD_ints]
      exact no_perm rfl (by rcases hn with rfl | rfl | rfl | rfl <;> decide)
    · by_cases h : n > 1
      · rw [if_pos h]
        have e : repD n [PyData.int 0] = intsD (List.replicate n 0) := by rcases hn with rfl | rfl | rfl | rfl <;> rfl
        rw [e]
        exact no_perm rfl (by rcases hn with rfl | rfl | rfl | rfl <;> first | (exact absurd h (by decide)) | decide)
      · have : n = 1 := by omega
        subst this
        exact no_perm (ms := [1]) rfl (by decide)
    · exact no_perm' rfl
    · exact no_perm' rfl
    · exact no_perm' (by rcases hn with rfl | rfl | rfl | rfl <;> rfl)
  rcases hn with rfl | rfl | rfl | rfl
  · exact ⟨sh1_small (List.all_eq_true.mp b1 x hx), (okR_of (List.all_eq_true.mp a1 x hx)).1, (okR_of (List.all_eq_true.mp a1 x hx)).2, np⟩
  · exact ⟨sh1_small (List.all_eq_true.mp b2 x hx), (okR_of (List.all_eq_true.mp a2 x hx)).1, (okR_of (List.all_eq_true.mp a2 x hx)).2, np⟩
  · exact ⟨sh1_small (List.all_eq_true.mp b3 x hx), (okR_of (List.all_eq_true.mp a3 x hx)).1, (okR_of (List.all_eq_true.mp a3 x hx)).2, np⟩
  · exact ⟨sh1_small (List.all_eq_true.mp b4 x hx), (okR_of (List.all_eq_true.mp a4 x hx)).1, (okR_of (List.all_eq_true.mp a4 x hx)).2, np⟩
def wideA : List (List Rat) := List.replicate 8 (List.replicate 8 0)
def wideB : List Rat := List.replicate 8 0
theorem wide_tab : Tab 8 wideA wideB := ⟨rfl, fun r hr => by rw [List.eq_of_mem_replicate hr]; rfl, rfl⟩

local macro_rules | `(tactic| walk_at "pv") => `(tactic| simp only [psParNN, psParNE, pLstN, psAppPop, psExt, pSlO, pIxO, psSetI, pTr, pLendN, pLcN, pLend, uAt_a, uAt_b, List.length_map, uIsO, pMake, psOwnN, pListN, pLr, pRg1, pRg2, pTupO, pLenO, oRep, pChain, iEnumP, iZipTL, List.lookup_cons, psSeq, psSet, psPar, psIf, psRet, psDrop, psCont, psNext, psAsg, psFor, psRaise, psOwn, psApp, psShow, uIsP, uFld, pCallE, pdNo, pVar, nth, pC, pOp, pUn, oI, oI0, uI, oAdd, oEq, oEqE, eqv_rat0, List.isEmpty_nil, List.isEmpty_cons, oNe, oIs, oNis, oIx, pNil, pCons, allD, pTup, pLst, pDisp0, bOf, ptB, ptAnd, ptOr, ptNot, pIf, pAndV, pOrV, pNotV, pCalln, pB, bInt, bAbs, bGcd, bLen, bList, bTuple, bRepr, bAll, uIsi, uIsi2, pgName, pgNil, pgCons, pgTup, Px.iR1, Px.iR2, Px.iS, Px.iZip, iZipU, pSl, pNo, pSome, pLc, pYes, noOwn, noOwn1, wipeE, pdOf, startP, List.set, List.map, List.append, List.cons_append, List.nil_append, List.length_cons, List.length_nil, List.replicate, Nat.reduceAdd, Nat.reduceSub, List.getElem?_cons_zero, List.getElem?_cons_succ, isNone, isBool, oSub, oMul, oDiv, oMod, oPow, oLt, oLe, oGt, oGe, at_0, at_1, okE_int, okE_bool, okE_none, okE_rat, eqv_int, eqv_ti, isTy_int_int, isTy_int_tup, isTy_tup_tup, isTy_tup_int, isTy_bool_int, true_and, and_true, beq_iff_eq, decide_eq_true_eq, decide_eq_false_iff_not, beq_eq_false_iff_ne, Bool.not_true, Bool.not_false, Bool.not_eq_true', Bool.not_eq_false', Nat.reduceLeDiff, Option.some.injEq, exists_eq_left', exists_eq_left, forall_const, true_imp_iff, Bool.false_eq_true, Bool.true_eq_false, false_imp_iff, reduceCtorEq])
local macro_rules | `(tactic| walk_at "pvs") => `(tactic| simp [isTy, tyN, at_0, at_1, okE_int, okE_bool, okE_none, eqv_int, oLt, oLe, oGt, oGe, oSub, oMul, oDiv, oMod, oI, oI0])
local macro_rules | `(tactic| walk_at "pvh") => `(tactic| simp only [psParNN, psParNE, pLstN, psAppPop, psExt, pSlO, pIxO, psSetI, pTr, pLendN, pLcN, pLend, uAt_a, uAt_b, List.length_map, uIsO, pMake, psOwnN, pListN, pLr, pRg1, pRg2, pTupO, pLenO, oRep, pChain, iEnumP, iZipTL, List.lookup_cons, psSeq, psSet, psPar, psIf, psRet, psDrop, psCont, psNext, psAsg, psFor, psRaise, psOwn, psApp, psShow, uIsP, uFld, pCallE, pdNo, pVar, nth, pC, pOp, pUn, oI, oI0, uI, oAdd, oEq, oEqE, eqv_rat0, List.isEmpty_nil, List.isEmpty_cons, oNe, oIs, oNis, oIx, pNil, pCons, allD, pTup, pLst, pDisp0, bOf, ptB, ptAnd, ptOr, ptNot, pIf, pAndV, pOrV, pNotV, pCalln, pB, bInt, bAbs, bGcd, bLen, bList, bTuple, bRepr, bAll, uIsi, uIsi2, pgName, pgNil, pgCons, pgTup, Px.iR1, Px.iR2, Px.iS, Px.iZip, iZipU, pSl, pNo, pSome, pLc, pYes, noOwn, noOwn1, wipeE, pdOf, startP, List.set, List.map, List.append, List.cons_append, List.nil_append, List.length_cons, List.length_nil, List.replicate, Nat.reduceAdd, Nat.reduceSub, List.getElem?_cons_zero, List.getElem?_cons_succ, isNone, isBool, oSub, oMul, oDiv, oMod, oPow, oLt, oLe, oGt, oGe, at_0, at_1, okE_int, okE_bool, okE_none, okE_rat, eqv_int, eqv_ti, isTy_int_int, isTy_int_tup, isTy_tup_tup, isTy_tup_int, isTy_bool_int, true_and, and_true, beq_iff_eq, decide_eq_true_eq, decide_eq_false_iff_not, beq_eq_false_iff_ne, Bool.not_true, Bool.not_false, Bool.not_eq_true', Bool.not_eq_false', Nat.reduceLeDiff, Option.some.injEq, exists_eq_left', exists_eq_left, forall_const, true_imp_iff, Bool.false_eq_true, Bool.true_eq_false, false_imp_iff, reduceCtorEq, if_true, if_false, not_false_eq_true, not_true_eq_false, *])
local macro_rules | `(tactic| walk_at "env") => `(tactic| try simp only [startP, List.map, List.append, List.cons_append, List.nil_append, List.length_cons, List.length_nil, List.replicate, Nat.reduceAdd, Nat.reduceSub, List.set_cons_zero, List.set_cons_succ])

abbrev s_law_made : Stmt := topS 76
theorem sc_law_made : FnScope ["pen", "a", "b", "bad", "wrong", "many", "odd", "row"] ["pen", "a", "b"] (defScope s_law_made) := ⟨rfl, rfl, rfl, by decide +kernel, rfl, by decide +kernel, by decide +kernel⟩
abbrev s_law_refused : Stmt := topS 77
theorem sc_law_refused : FnScope ["pen", "made", "many", "out", "told", "odd", "none", "call"] ["pen", "made", "many"] (defScope s_law_refused) := ⟨rfl, rfl, rfl, by decide +kernel, rfl, by decide +kernel, by decide +kernel⟩
section
variable {P : Program} {w : World} {K : PySem.W.Frag} {mg : Str → Option Value} {base : Heap} {c : Cc} {S_Steps C_BadNumber C_BadRow C_BadTable C_TooMany S : Addr} {Cs : Nat → Addr} {cd P' : Addr}

theorem d_law_made (F : Has K mg "_law_made" s_law_made) (T : Blt mg) (D_law_odd : Kp P w K mg base c 3 "_law_odd" ["pen"] (spOdd c)) (D_law_pick : Kp P w K mg base c 2 "_law_pick" ["pen", "some"] (spPickP c)) (D_law_two : Kp P w K mg base c 8 "_law_two" ["a", "b"] (spTwo S_Steps)) : Kp P w K mg base c 9 "_law_made" ["pen", "a", "b"] (spMade c) := by
  refine keepP F (fun _ _ _ _ _ _ us hl => match us, hl with | [_, _, _], _ => rfl) sc_law_made (fun f cdv A outer s H E hr hg => ⟨_, (pus_cons (pus_par (i := 5) (j := 6) rfl sc_law_made.nd (pa_cons' (pu_callB c_len rb_len T.b_len PySem.boot_len (pa_cons' (pu_var 2) pa_nil')) (pa_cons' (pu_call D_law_odd hr hg takesF (pa_cons' (pu_var 0) pa_nil')) pa_nil')))
    (pus_cons (pus_set (i := 3) sc_law_made.nd (pu_call D_law_pick hr hg takesF (pa_cons' (pu_var 0) (pa_cons' (pu_lst (pa_cons' pu_non (pa_cons' (pu_tupK pa_nilK) (pa_cons' pu_int (pa_cons' pu_str (pa_cons' (pu_op op_addU ro_add (pu_var 1) (pu_tup (pa_cons' (pu_var 2) pa_nil'))) (pa_cons' (pu_callTy c_tuple rb_tuple T.b_tuple (by decide +kernel) (pa_cons' (pu_lc (own := [("row", 7)]) rfl sc_law_made.nd (pui_seq (pu_var 1)) (blkOk_by (by show blkC ["pen", "a", "b", "bad", "wrong", "many", "odd", "row"] (defScope s_law_made) _ _ = true; decide +kernel)) (fun ci => (pug_name (i := 7) sc_law_made.nd)) (fun ci => (pu_op op_addU ro_add (pu_var 7) (pu_tupK (pa_consK pu_int pa_nilK))))) pa_nil')) (pa_cons' (pu_op op_addU ro_add (pu_slice (pu_var 1) puo_none (puo_some (pu_negK pu_int))) (pu_tup (pa_cons' (pu_op op_addU ro_add (pu_slice (pu_ix (pu_var 1) (pu_negK pu_int)) puo_none (puo_some (pu_negK pu_int))) (pu_tup (pa_cons' (pu_var 6) pa_nil'))) pa_nil'))) (pa_cons' (pu_op op_addU ro_add (pu_slice (pu_var 1) puo_none (puo_some (pu_negK pu_int))) (pu_tupK (pa_consK pu_non pa_nilK))) (pa_cons' (pu_op op_repA ro_rep (pu_tup (pa_cons' (pu_op op_repA ro_rep (pu_tupK (pa_consK pu_int pa_nilK)) pu_int) pa_nil')) pu_int) (pa_cons' pu_dispK pa_nil'))))))))))) pa_nil'))))
    (pus_cons (pus_set (i := 4) sc_law_made.nd (pu_call D_law_pick hr hg takesF (pa_cons' (pu_var 0) (pa_cons' (pu_lst (pa_cons' pu_non (pa_cons' (pu_op op_addU ro_add (pu_var 2) (pu_tupK (pa_consK pu_int pa_nilK))) (pa_cons' (pu_slice (pu_var 2) puo_none (puo_some (pu_negK pu_int))) (pa_cons' (pu_op op_addU ro_add (pu_slice (pu_var 2) puo_none (puo_some (pu_negK pu_int))) (pu_tup (pa_cons' (pu_var 6) pa_nil'))) (pa_cons' pu_int (pa_cons' pu_str (pa_cons' pu_dispK pa_nil')))))))) pa_nil'))))
    (pus_cons (pus_if (PuW.pt (pw_or' (pt_cmp' (op_neD (hu64 hr)) ro_ne (pu_call D_law_two hr hg takesF (pa_cons' (pu_var 3) (pa_cons' (pu_var 4) pa_nil'))) (pu_tupK (pa_consK pu_str (pa_consK pu_str pa_nilK)))) (pw_or1' (pt_cmp' (op_neD (hu64 hr)) ro_ne (pu_call D_law_two hr hg takesF (pa_cons' (pu_var 1) (pa_cons' (pu_var 4) pa_nil'))) (pu_tup (pa_cons' pu_str (pa_cons' pu_str (pa_cons' (pu_callB (call_reprQ hg (hu65 hr)) rb_repr T.b_repr (by decide +kernel) (pa_cons' (pu_var 4) pa_nil')) pa_nil')))))))) (pus_one (pus_ret pu_bl)) pus_nil)
    (pus_one (pus_ret (pu_cmp op_isC ro_is (pu_call D_law_two hr hg takesF (pa_cons' (pu_op op_repA ro_rep (pu_tup (pa_cons' (pu_op op_repA ro_rep (pu_tupK (pa_consK pu_int pa_nilK)) pu_int) pa_nil')) pu_int) (pa_cons' (pu_op op_repA ro_rep (pu_tupK (pa_consK pu_int pa_nilK)) pu_int) pa_nil'))) pu_non))))))), fun ss R EX hl h => ?_⟩)
  obtain ⟨n, a, b, rfl, A, n1, n4, h⟩ := h
  have la := A.t.la
  have lb := A.t.lb
  walk_at "env"
  refine par_step (fun s u => ∃ o, s = .d (.int (n : Int)) ∧ u = .d o ∧ o ∈ odds) (fun R' hR => ?_) ?_
  · walk_at "pv"
    refine ⟨rfl, fun d hd => hR _ _ ⟨d, by rw [lb], rfl, hd⟩⟩
  rintro s u ⟨o, rfl, rfl, ho⟩
  walk_at "env"
  have ho' := odds_norat o ho
  have hcutA : Px.cutD (a.map rowD) none (some (-1)) = (a.map rowD).take (n - 1) := by rw [cut_last _ (by rw [List.length_map]; omega), List.length_map, la]
  have hcutB : Px.cutD (b.map ratD) none (some (-1)) = (b.map ratD).take (n - 1) := by rw [cut_last _ (by rw [List.length_map]; omega), List.length_map, lb]
  have hg : a[n - 1]? = some (a.getD (n - 1) []) := by rw [List.getD_eq_getElem?_getD, List.getElem?_eq_getElem (by omega)]; rfl
  have hlast : (a.getD (n - 1) []).length = n := A.t.lr _ (List.mem_of_getElem? hg)
  generalize a.getD (n - 1) [] = z at hg hlast
  have hat : atI (a.map rowD) (-1) = some (rowD z) := by
    unfold atI
    rw [ixN_last (by rw [List.length_map]; omega), List.length_map, la]
    simp [hg]
  have hcutZ : Px.cutD (z.map ratD) none (some (-1)) = (z.map ratD).take (n - 1) := by rw [cut_last _ (by rw [List.length_map]; omega), List.length_map, hlast]
  have shA : ∀ d ∈ a.map rowD, Sh1 d := fun d hd => by
    obtain ⟨r, hr, rfl⟩ := List.mem_map.mp hd
    exact sh1_rowD (by rw [A.t.lr r hr]; omega)
  have lm : (a.map rowD).length = n := by rw [List.length_map, la]
  have lbm : (b.map ratD).length = n := by rw [List.length_map, lb]
  have lzm : (z.map ratD).length = n := by rw [List.length_map, hlast]
  refine set_step (fun s => ∃ x, s = .d x ∧ Sh2 x ∧ matOk x = false) (fun R' hR => ?_) ?_
  · simp only [pCalln]
    refine lcons_i (.raw (.ref c.p)) (fun R h => h) ?_
    refine lcons_i (.d (.list [.none, .tuple [], .int 3, .str "a", .tuple (a.map rowD ++ [rowD b]), .tuple (a.map fun r => .tuple (r.map ratD ++ [.int 0])), .tuple ((a.map rowD).take (n - 1) ++ [.tuple ((z.map ratD).take (n - 1) ++ [o])]), .tuple ((a.map rowD).take (n - 1) ++ [.none]), .tuple (repD 9 [.tuple (repD 9 [.int 0])]), .dict []])) (fun R hR => ?_) ?_
    · simp only [pLst]
      refine lcons_i _ (fun R h => h) ?_
      refine lcons_i _ (fun R h => h) ?_
      refine lcons_i _ (fun R h => h) ?_
      refine lcons_i _ (fun R h => h) ?_
      refine lcons_i (.d (.tuple (a.map rowD ++ [rowD b]))) (fun R h => ?_) ?_
      · walk_at "pv"
        exact ⟨by omega, h⟩
      refine lcons_i (.d (.tuple (a.map fun r => .tuple (r.map ratD ++ [.int 0])))) (fun R h => ?_) ?_
      · walk_at "pv"
        refine lc_mapT rowD (fun r => .tuple (r.map ratD ++ [.int 0])) (by omega) (fun r hr R hR => ?_) h
        have := A.t.lr r hr
        walk_at "pv"
        exact ⟨by omega, hR⟩
      refine lcons_i (.d (.tuple ((a.map rowD).take (n - 1) ++ [.tuple ((z.map ratD).take (n - 1) ++ [o])]))) (fun R h => ?_) ?_
      · walk_at "pv"
        rw [hcutA]
        refine ⟨_, hat, ?_⟩
        walk_at "pv"
        rw [hcutZ]
        exact ⟨by rw [List.length_take, List.length_map]; omega, by rw [List.length_take, List.length_map]; omega, h⟩
      refine lcons_i (.d (.tuple ((a.map rowD).take (n - 1) ++ [.none]))) (fun R h => ?_) ?_
      · walk_at "pv"
        rw [hcutA]
        exact ⟨by rw [List.length_take, List.length_map]; omega, h⟩
      refine lcons_i (.d (.tuple (repD 9 [.tuple (repD 9 [.int 0])]))) (fun R h => ?_) ?_
      · walk_at "pv"
        exact ⟨by decide, by decide, by simp, by decide, by decide, by simp, h⟩
      refine lcons_i _ (fun R h => h) ?_
      simp only [pNil, allD]
      exact ⟨by simp, hR⟩
    · simp only [pNil]
      refine ⟨rfl, _, rfl, by simp, by simp, fun x hx => hR _ ⟨x, rfl, ?_⟩⟩
      simp only [List.mem_cons, List.not_mem_nil, or_false] at hx
      rcases hx with rfl | rfl | rfl | rfl | rfl | rfl | rfl | rfl | rfl | rfl
      · exact ⟨(fun l e => by cases e), rfl⟩
      · exact ⟨sh2_tup (by simp) (fun d hd => by cases hd), rfl⟩
      · exact ⟨(fun l e => by cases e), rfl⟩
      · exact ⟨(fun l e => by cases e), rfl⟩
      · refine ⟨sh2_tup (by rw [List.length_append, lm]; simp; omega) (fun d hd => ?_), matOk_no (d := rowD b) (by simp) (rowOk_len (by rw [List.length_append, lm, lbm]; simp only [List.length_cons, List.length_nil]; omega))⟩
        rcases List.mem_append.mp hd with hd | hd
        · exact shA d hd
        · rw [List.mem_singleton.mp hd]; exact sh1_rowD (by omega)
      · have hz := List.mem_of_getElem? hg
        refine ⟨sh2_tup (by rw [List.length_map]; omega) (fun d hd => ?_), matOk_no (d := .tuple (z.map ratD ++ [.int 0])) (List.mem_map.mpr ⟨z, hz, rfl⟩) (rowOk_len (by rw [List.length_append, lzm, List.length_map, la]; simp only [List.length_cons, List.length_nil]; omega))⟩
        obtain ⟨r, hr, rfl⟩ := List.mem_map.mp hd
        exact sh1_tup (by rw [List.length_append, List.length_map, A.t.lr r hr]; simp; omega)
      · refine ⟨sh2_tup (by rw [List.length_append, List.length_take, lm]; simp; omega) (fun d hd => ?_), matOk_no (d := .tuple ((z.map ratD).take (n - 1) ++ [o])) (by simp) (rowOk_odd (d := o) (by simp) ho')⟩
        rcases List.mem_append.mp hd with hd | hd
        · exact shA d (List.mem_of_mem_take hd)
        · rw [List.mem_singleton.mp hd]; exact sh1_tup (by rw [List.length_append, List.length_take, lzm]; simp; omega)
      · refine ⟨sh2_tup (by rw [List.length_append, List.length_take, lm]; simp; omega) (fun d hd => ?_), matOk_no (d := .none) (by simp) rfl⟩
        rcases List.mem_append.mp hd with hd | hd
        · exact shA d (List.mem_of_mem_take hd)
        · rw [List.mem_singleton.mp hd]; exact fun l e => by cases e
      · refine ⟨sh2_tup (by decide) (fun d hd => ?_), by decide⟩
        have : d = .tuple (repD 9 [.int 0]) := by
          simp only [repD, List.replicate, List.flatten_cons, List.flatten_nil, List.append_nil, List.singleton_append, List.mem_cons, List.not_mem_nil, or_false, or_self] at hd
          exact hd
        subst this
        exact sh1_tup (by decide)
      · exact ⟨(fun l e => by cases e), rfl⟩
  rintro s ⟨bad, rfl, hb1, hb2⟩
  walk_at "env"
  refine set_step (fun s => ∃ y, s = .d y ∧ Sh1 y ∧ rowOk y (n : Int) = false ∧ OkR y ∧ PyData.strOk y.shown = true) (fun R' hR => ?_) ?_
  · simp only [pCalln]
    refine lcons_i (.raw (.ref c.p)) (fun R h => h) ?_
    refine lcons_i (.d (.list [.none, .tuple (b.map ratD ++ [.int 0]), .tuple ((b.map ratD).take (n - 1)), .tuple ((b.map ratD).take (n - 1) ++ [o]), .int 3, .str "b", .dict []])) (fun R hR => ?_) ?_
    · simp only [pLst]
      refine lcons_i _ (fun R h => h) ?_
      refine lcons_i (.d (.tuple (b.map ratD ++ [.int 0]))) (fun R h => ?_) ?_
      · walk_at "pv"
        exact ⟨by omega, h⟩
      refine lcons_i (.d (.tuple ((b.map ratD).take (n - 1)))) (fun R h => ?_) ?_
      · walk_at "pv"
        rw [hcutB]
        exact h
      refine lcons_i (.d (.tuple ((b.map ratD).take (n - 1) ++ [o]))) (fun R h => ?_) ?_
      · walk_at "pv"
        rw [hcutB]
        exact ⟨by rw [List.length_take, List.length_map]; omega, h⟩
      refine lcons_i _ (fun R h => h) ?_
      refine lcons_i _ (fun R h => h) ?_
      refine lcons_i _ (fun R h => h) ?_
      simp only [pNil, allD]
      exact ⟨by simp, hR⟩
    · have B0 : ∀ d ∈ b.map ratD, ∃ q, d = ratD q ∧ Br 145 q := rb_up A.rb
      have B1 : ∀ d ∈ (b.map ratD).take (n - 1), ∃ q, d = ratD q ∧ Br 145 q := fun d hd => B0 d (List.mem_of_mem_take hd)
      simp only [pNil]
      refine ⟨rfl, _, rfl, by simp, by simp, fun x hx => hR _ ⟨x, rfl, ?_⟩⟩
      simp only [List.mem_cons, List.not_mem_nil, or_false] at hx
      have c1 := okR_of (by decide +kernel : okRb .none = true)
      have c2 := okR_of (by decide +kernel : okRb (.int 3) = true)
      have c3 := okR_of (by decide +kernel : okRb (.str "b") = true)
      have c4 := okR_of (by decide +kernel : okRb (.dict []) = true)
      rcases hx with rfl | rfl | rfl | rfl | rfl | rfl | rfl
      · exact ⟨(fun l e => by cases e), rfl, c1⟩
      · refine ⟨sh1_tup (by rw [List.length_append, lbm]; simp; omega), rowOk_len (by rw [List.length_append, lbm]; simp only [List.length_cons, List.length_nil]; omega), bent_ok (.inr ⟨_, rfl, by rw [List.length_append, lbm]; simp; omega, .inl fun d hd => ?_⟩)⟩
        rcases List.mem_append.mp hd with hd | hd
        · exact B0 d hd
        · rw [List.mem_singleton.mp hd]; exact ⟨0, rfl, br_zero⟩
      · exact ⟨sh1_tup (by rw [List.length_take, lbm]; omega), rowOk_len (by rw [List.length_take, lbm]; omega), bent_ok (.inr ⟨_, rfl, by rw [List.length_take, lbm]; omega, .inl B1⟩)⟩
      · exact ⟨sh1_tup (by rw [List.length_append, List.length_take, lbm]; simp; omega), rowOk_odd (d := o) (by simp) ho', bent_ok (.inr ⟨_, rfl, by rw [List.length_append, List.length_take, lbm]; simp; omega, .inr ⟨_, [], o, rfl, ho, B1, fun d hd => by cases hd⟩⟩)⟩
      · exact ⟨(fun l e => by cases e), rfl, c2⟩
      · exact ⟨(fun l e => by cases e), rfl, c3⟩
      · exact ⟨(fun l e => by cases e), rfl, c4⟩
  rintro s ⟨y, rfl, hy1, hy2, hy3, hy4⟩
  walk_at "env"
  have seqA : seqD (matD a) = some (a.map rowD) := rfl
  have okA : matOk (matD a) = true := matOk_of (.inr rfl) rats_in A.t n1 (by omega)
  have shM : Sh2 (matD a) := sh2_mat (.inr rfl) rats_in A.t (by omega)
  refine if_no (fun R' hR => or_no (fun R' hR => ?_) (fun R' hR => ?_) hR) ?_
  · walk_at "pv"
    exact ⟨bad, y, rfl, hb1, hy1, .inl ⟨hb2, same_n (okE_t2 (by decide +kernel) (by decide +kernel)) hR⟩⟩
  · walk_at "pv"
    refine ⟨matD a, y, rfl, shM, hy1, .inr (.inl ⟨_, seqA, okA, by rw [List.length_map, la]; exact hy2, hy3, ?_⟩)⟩
    exact ⟨hy3, same_n (okE_t3 (by decide +kernel) (by decide +kernel) hy4) hR⟩
  walk_at "pv"
  have e1 : repD 8 [PyData.int 0] = (List.replicate 8 (0 : Rat)).map ratD := rep0 8
  refine ⟨by decide, by decide, by simp, by decide, by decide, by simp, by decide, by decide, by simp, _, _, rfl, ?_, ?_, .inr (.inr ⟨⟨8, wideA, wideB, _, rfl, (by have := @rats_in wideA; exact this), .inr rfl, wide_tab, by decide, by decide⟩, h⟩)⟩
  · exact sh2_mat (a := wideA) (xs := wideA.map rowD) (.inr rfl) rats_in wide_tab (by decide)
  · exact sh1_tup (by decide)
theorem d_law_refused (F : Has K mg "_law_refused" s_law_refused) (T : Blt mg) (D_law_more : Kp P w K mg base c 10 "_law_more" ["call", "one", "other"] (spMore mg S_Steps)) (D_law_odd : Kp P w K mg base c 3 "_law_odd" ["pen"] (spOdd c)) (D_law_one : Kp P w K mg base c 10 "_law_one" ["call", "one"] (spOne mg)) (D_law_pick : Kp P w K mg base c 2 "_law_pick" ["pen", "some"] (spPickP c)) {f_nodes : Addr} (m_nodes : mg "nodes" = some (.ref f_nodes)) {f_is_explicit : Addr} (m_is_explicit : mg "is_explicit" = some (.ref f_is_explicit)) {f_turned_back : Addr} (m_turned_back : mg "turned_back" = some (.ref f_turned_back)) {f_undone : Addr} (m_undone : mg "undone" = some (.ref f_undone)) {f_renumbered : Addr} (m_renumbered : mg "renumbered" = some (.ref f_renumbered)) {f_scaled : Addr} (m_scaled : mg "scaled" = some (.ref f_scaled)) : Kp P w K mg base c 11 "_law_refused" ["pen", "made", "many"] (spRefu S_Steps c) := by
  refine keepP F (fun _ _ _ _ _ _ us hl => match us, hl with | [_, _, _], _ => rfl) sc_law_refused (fun f cdv A outer s H E hr hg => ⟨_, (pus_cons (pus_asg (pu_tup (pa_cons' (pu_call D_law_pick hr hg takesF (pa_cons' (pu_var 0) (pa_cons' (pu_lstK (pa_consK pu_non (pa_consK pu_int (pa_consK pu_bl (pa_consK (pu_tupK (pa_consK (pu_tupK (pa_consK pu_int pa_nilK)) (pa_consK (pu_tupK (pa_consK pu_int pa_nilK)) pa_nilK))) pa_nilK))))) pa_nil'))) (pa_cons' (pu_call D_law_odd hr hg takesF (pa_cons' (pu_var 0) pa_nil')) pa_nil'))) (pug_tup (n := 2) (by rfl) (pugs_cons (pug_name (i := 5) sc_law_refused.nd) (pugs_cons (pug_name (i := 6) sc_law_refused.nd) pugs_nil))))
    (pus_cons (pus_set (i := 3) sc_law_refused.nd (pu_call D_law_pick hr hg takesF (pa_cons' (pu_var 0) (pa_cons' (pu_lst (pa_cons' pu_non (pa_cons' (pu_tupK pa_nilK) (pa_cons' (pu_tupRg rfl T.b_tuple (purg_1 T.b_range (pu_op op_addU ro_add (pu_var 2) pu_int))) (pa_cons' (pu_if (pt_cmp' op_gt ro_gt (pu_var 2) pu_int) (pu_op op_repA ro_rep (pu_tupK (pa_consK pu_int pa_nilK)) (pu_var 2)) (pu_tupK (pa_consK pu_int pa_nilK))) (pa_cons' pu_str (pa_cons' pu_dispK (pa_cons' (pu_op op_repA ro_rep (pu_tupK (pa_consK pu_bl pa_nilK)) (pu_var 2)) pa_nil')))))))) pa_nil'))))
    (pus_cons (pus_ownLcS (i := 4) (own := [("call", 7)]) rfl sc_law_refused.nd (pui_tupS (pa_cons' (pu_glob (v := .ref f_nodes) (s := .raw (.ref f_nodes)) m_nodes rfl (fun _ => rfl)) (pa_cons' (pu_glob (v := .ref f_is_explicit) (s := .raw (.ref f_is_explicit)) m_is_explicit rfl (fun _ => rfl)) (pa_cons' (pu_glob (v := .ref f_turned_back) (s := .raw (.ref f_turned_back)) m_turned_back rfl (fun _ => rfl)) (pa_cons' (pu_glob (v := .ref f_undone) (s := .raw (.ref f_undone)) m_undone rfl (fun _ => rfl)) pa_nil'))))) (blkOk_by (by show blkC ["pen", "made", "many", "out", "told", "odd", "none", "call"] (defScope s_law_refused) _ _ = true; decide +kernel)) (fun ci => (pug_name (i := 7) sc_law_refused.nd)) (fun ci => (pu_call D_law_one hr hg takes0 (pa_cons' (pu_var 7) (pa_cons' (pu_var 5) pa_nil')))))
    (pus_cons (pus_ext 4 (pu_lst (pa_cons' (pu_call D_law_more hr hg takesF (pa_cons' (pu_glob (v := .ref f_renumbered) (s := .raw (.ref f_renumbered)) m_renumbered rfl (fun _ => rfl)) (pa_cons' (pu_var 5) (pa_cons' (pu_var 3) pa_nil')))) (pa_cons' (pu_call D_law_more hr hg takesF (pa_cons' (pu_glob (v := .ref f_renumbered) (s := .raw (.ref f_renumbered)) m_renumbered rfl (fun _ => rfl)) (pa_cons' (pu_var 1) (pa_cons' (pu_var 3) pa_nil')))) (pa_cons' (pu_call D_law_more hr hg takesF (pa_cons' (pu_glob (v := .ref f_scaled) (s := .raw (.ref f_scaled)) m_scaled rfl (fun _ => rfl)) (pa_cons' (pu_var 5) (pa_cons' (pu_var 6) pa_nil')))) (pa_cons' (pu_call D_law_more hr hg takesF (pa_cons' (pu_glob (v := .ref f_scaled) (s := .raw (.ref f_scaled)) m_scaled rfl (fun _ => rfl)) (pa_cons' (pu_var 1) (pa_cons' (pu_var 6) pa_nil')))) pa_nil'))))))
    (pus_show 4 (pus_one (pus_ret (pu_cmp (op_eqD (hu64 hr)) ro_eq (pu_var 4) (pu_op op_addU ro_add (pu_op op_repA ro_rep (pu_lstK (pa_consK (pu_tupK (pa_consK pu_str (pa_consK pu_str pa_nilK))) pa_nilK)) pu_int) (pu_lst (pa_cons' (pu_tup (pa_cons' pu_str (pa_cons' pu_str (pa_cons' (pu_callB (call_reprQ hg (hu65 hr)) rb_repr T.b_repr (by decide +kernel) (pa_cons' (pu_var 3) pa_nil')) pa_nil')))) (pa_cons' (pu_tupK (pa_consK pu_str (pa_consK pu_str pa_nilK))) (pa_cons' (pu_tup (pa_cons' pu_str (pa_cons' pu_str (pa_cons' (pu_callB (call_reprQ hg (hu65 hr)) rb_repr T.b_repr (by decide +kernel) (pa_cons' (pu_var 6) pa_nil')) pa_nil')))) pa_nil'))))))))))))), fun ss R EX hl h => ?_⟩)
  obtain ⟨n, a, b, rfl, T, n1, n4, h⟩ := h
  walk_at "env"
  refine asg_step (fun s => ∃ o x, s = .d (.tuple [o, x]) ∧ x ∈ odds) (fun R' hR => ?_) ?_
  · walk_at "pv"
    refine pk_i (by decide) (by decide) fun x hx => ?_
    refine ⟨rfl, fun d hd => ?_⟩
    walk_at "pv"
    exact hR _ ⟨_, d, rfl, hd⟩
  rintro s ⟨o, x, rfl, hx⟩
  refine g2_i ?_
  walk_at "env"
  have hx' := odds_norat x hx
  have hxo := odds_ok x hx
  refine set_step (fun s => ∃ y, s = .d y ∧ OutOk n y) (fun R' hR => ?_) ?_
  · simp only [pCalln]
    refine lcons_i (.raw (.ref c.p)) (fun R h => h) ?_
    refine lcons_i (.d (.list (outs n))) (fun R hR => ?_) ?_
    · simp only [pLst]
      refine lcons_i _ (fun R h => h) ?_
      refine lcons_i _ (fun R h => h) ?_
      refine lcons_i (.d (.tuple (rgD 0 ((n : Int) + 1)))) (fun R h => ?_) ?_
      · walk_at "pv"
        exact ⟨by omega, h⟩
      refine lcons_i (.d (if n > 1 then .tuple (repD n [.int 0]) else .tuple [.int 1])) (fun R h => ?_) ?_
      · walk_at "pv"
        refine ⟨fun z => ?_, fun z => ?_⟩
        · rw [if_pos (by omega)] at h
          refine ⟨by omega, by omega, by simp, ?_⟩
          rw [Int.toNat_natCast]
          exact h
        · rw [if_neg (by omega)] at h
          exact h
      refine lcons_i _ (fun R h => h) ?_
      refine lcons_i _ (fun R h => h) ?_
      refine lcons_i (.d (.tuple (repD n [.bool true]))) (fun R h => ?_) ?_
      · walk_at "pv"
        refine ⟨by omega, by omega, by simp, ?_⟩
        rw [Int.toNat_natCast]
        exact h
      simp only [pNil, allD]
      exact ⟨by simp, hR⟩
    · simp only [pNil]
      exact ⟨rfl, _, rfl, by simp [outs], by simp [outs], fun y hy => hR _ ⟨y, rfl, outs_ok n1 n4 y hy⟩⟩
  rintro s ⟨y, rfl, Y⟩
  walk_at "env"
  refine own_i (fun ds => ds = [tSteps, tSteps, tSteps, tSteps]) (fun R' hR => ?_) ?_
  · simp only [pLcSN, iTupS, pCons, pNil, pC, pLcLS, pgName]
    walk_at "pv"
    exact ⟨_, _, rfl, .inl m_nodes, _, _, rfl, .inr (.inl m_is_explicit), _, _, rfl, .inr (.inr (.inl m_turned_back)), _, _, rfl, .inr (.inr (.inr m_undone)), hR _ rfl⟩
  rintro ds rfl
  walk_at "env"
  walk_at "pv"
  refine ⟨_, _, _, rfl, .inl m_renumbered, .inl ⟨_, rfl, ?_⟩⟩
  walk_at "pv"
  refine ⟨_, _, _, rfl, .inl m_renumbered, .inr (.inl ⟨m_renumbered, n, a, b, rfl, T, n1, by omega, Y.sh, Y.ok, Y.np, ?_⟩)⟩
  walk_at "pv"
  refine ⟨_, _, _, rfl, .inr m_scaled, .inl ⟨_, rfl, ?_⟩⟩
  walk_at "pv"
  refine ⟨_, _, _, rfl, .inr m_scaled, .inr (.inr ⟨m_scaled, a, b, rfl, hx', hxo.1, ?_⟩)⟩
  walk_at "pv"
  have ts : ∀ {l : List PyData}, (∀ d ∈ l, ∃ s, d = .str s ∧ PyData.strOk s = true) → OkN 1 (.tuple l) := fun h => okN_tup fun d hd => by
    obtain ⟨s, rfl, hs⟩ := h d hd
    exact okN_str hs
  have k1 : OkN 1 tSteps := ts fun d hd => by
    simp only [List.mem_cons, List.not_mem_nil, or_false] at hd
    rcases hd with rfl | rfl <;> exact ⟨_, rfl, by decide +kernel⟩
  have k2 : OkN 1 (.tuple [.str "row", .str "order", .str y.shown]) := ts fun d hd => by
    simp only [List.mem_cons, List.not_mem_nil, or_false] at hd
    rcases hd with rfl | rfl | rfl
    · exact ⟨_, rfl, by decide +kernel⟩
    · exact ⟨_, rfl, by decide +kernel⟩
    · exact ⟨_, rfl, Y.st⟩
  have k3 : OkN 1 (.tuple [.str "number", .str "r", .str x.shown]) := ts fun d hd => by
    simp only [List.mem_cons, List.not_mem_nil, or_false] at hd
    rcases hd with rfl | rfl | rfl
    · exact ⟨_, rfl, by decide +kernel⟩
    · exact ⟨_, rfl, by decide +kernel⟩
    · exact ⟨_, rfl, hxo.2⟩
  have ok : OkN 2 (.list [tSteps, tSteps, tSteps, tSteps, tSteps, .tuple [.str "row", .str "order", .str y.shown], tSteps, .tuple [.str "number", .str "r", .str x.shown]]) := okN_lst fun d hd => by
    simp only [List.mem_cons, List.not_mem_nil, or_false] at hd
    rcases hd with rfl | rfl | rfl | rfl | rfl | rfl | rfl | rfl
    · exact k1
    · exact k1
    · exact k1
    · exact k1
    · exact k1
    · exact k2
    · exact k1
    · exact k3
  exact ⟨by decide, by decide, Y.ok, hxo.1, by decide, same_i (okN_E ok (by decide)) h⟩
end
end K11
namespace K11
open PySem PySem.Spec PyProof.Rows L2 Lx Px

theorem mem_zipW {α β γ : Type} {f : α → β → γ} {q : γ} : ∀ {l : List α} {m : List β}, q ∈ List.zipWith f l m → ∃ a ∈ l, ∃ b ∈ m, q = f a b
  | [], _, h => by simp at h
  | _ :: _, [], h => by simp at h
  | a :: l, b :: m, h => by
    rw [List.zipWith_cons_cons] at h
    rcases List.mem_cons.mp h with h | h
    · exact ⟨a, List.mem_cons_self, b, List.mem_cons_self, h⟩
    · obtain ⟨x, hx, y, hy, e⟩ := mem_zipW h
      exact ⟨x, List.mem_cons_of_mem _ hx, y, List.mem_cons_of_mem _ hy, e⟩
theorem neO_i {S : Addr} {a : List (List Rat)} {b : List Rat} {R : Sl → Prop} (la : a.length ≤ 8) (lr : ∀ r ∈ a, r.length ≤ 8) (lb : b.length ≤ 8) (h : R (.d (.bool false))) : oCmpO S (spEqS S) true (stS S a b) (stS S a b) R := ⟨⟨_, rfl⟩, rfl, .inl ⟨a, b, rfl, la, lr, lb, _, rfl, h⟩⟩
theorem eqO_i {S : Addr} {ds : FD} {d : PyData} {R : Sl → Prop} (h : R (.d (.bool false))) : oCmpO S (spEqS S) false (.obj S ds) (.d d) R := ⟨⟨_, rfl⟩, True.intro, .inr ⟨_, _, rfl, _, rfl, h⟩⟩
theorem tab_le {n k : Nat} {a : List (List Rat)} {b : List Rat} (T : Tab n a b) (h : n ≤ k) : a.length ≤ k ∧ (∀ r ∈ a, r.length ≤ k) ∧ b.length ≤ k := ⟨by rw [T.la]; exact h, fun r hr => by rw [T.lr r hr]; exact h, by rw [T.lb]; exact h⟩
/-! ### the maths -/
def subL (r b : List Rat) : List Rat := List.zipWith (fun p q => q + -p) r b
theorem sub_sub : ∀ {r b : List Rat}, r.length = b.length → subL (subL r b) b = r
  | [], [], _ => rfl
  | p :: r, q :: b, h => by
    have ih := sub_sub (r := r) (b := b) (by simpa using h)
    unfold subL at ih ⊢
    rw [List.zipWith_cons_cons, List.zipWith_cons_cons, ih]
    congr 1
    grind
theorem tb_tb {n : Nat} {a : List (List Rat)} {b : List Rat} (T : Tab n a b) : tbA (tbA a b) b = a := by
  unfold tbA
  rw [List.map_map]
  refine (List.map_congr_left fun r hr => ?_).trans (List.map_id a)
  show subL (subL r b) b = r
  exact sub_sub (by rw [T.lr r hr, T.lb])
theorem un_un1 : ∀ {r b : List Rat}, r.length = b.length → List.zipWith (fun p q => p + -q) (List.zipWith (fun p q => p + -q) r b) (b.map fun q => -q) = r
  | [], [], _ => rfl
  | p :: r, q :: b, h => by
    have ih := un_un1 (r := r) (b := b) (by simpa using h)
    rw [List.zipWith_cons_cons, List.map_cons, List.zipWith_cons_cons, ih]
    congr 1
    grind
theorem un_un {n : Nat} {a : List (List Rat)} {b : List Rat} (T : Tab n a b) : unA (unA a b) (b.map fun q => -q) = a := by
  unfold unA
  rw [List.map_map]
  refine (List.map_congr_left fun r hr => ?_).trans (List.map_id a)
  exact un_un1 (by rw [T.lr r hr, T.lb])
theorem neg_neg (b : List Rat) : (b.map fun q => -q).map (fun q => -q) = b := by
  rw [List.map_map]
  refine (List.map_congr_left fun q _ => ?_).trans (List.map_id b)
  exact Rat.neg_neg q
theorem neg_tb1 : ∀ (r b : List Rat), (List.zipWith (fun p q => q + -p) r b).map (fun q => -q) = List.zipWith (fun p q => p + -q) r b
  | [], _ => by simp
  | _ :: _, [] => by simp
  | p :: r, q :: b => by
    rw [List.zipWith_cons_cons, List.map_cons, List.zipWith_cons_cons, neg_tb1 r b]
    congr 1
    grind
theorem sc_tb1 : ∀ (r b : List Rat), (List.zipWith (fun p q => q + -p) r b).map (fun q => -1 * q) = List.zipWith (fun p q => p + -q) r b
  | [], _ => by simp
  | _ :: _, [] => by simp
  | p :: r, q :: b => by
    rw [List.zipWith_cons_cons, List.map_cons, List.zipWith_cons_cons, sc_tb1 r b]
    congr 1
    grind
theorem sc_tb (a : List (List Rat)) (b : List Rat) : scA (-1) (tbA a b) = unA a b := by
  unfold scA tbA unA
  rw [List.map_map]
  exact List.map_congr_left fun r _ => sc_tb1 r b
theorem sc_neg (b : List Rat) : (b.map fun q => -1 * q) = b.map fun q => -q := List.map_congr_left fun q _ => by grind
theorem zip_rg : ∀ {r b : List Rat} {n : Nat}, r.length = n → b.length = n → ((List.range n).map fun k => b.getD k 0 + -r.getD k 0) = List.zipWith (fun p q => q + -p) r b := fun {r b n} hr hb => by
  refine List.ext_getElem (by simp; omega) fun i h1 h2 => ?_
  have : i < n := by simpa using h1
  simp [List.getElem?_eq_getElem, hr, hb, this]
theorem tb_br {n : Nat} {a : List (List Rat)} {b : List Rat} (A : Dr n a b) : ∀ r ∈ tbA a b, ∀ q ∈ r, Br 81 q := fun r hr q hq => by
  obtain ⟨s, hs, rfl⟩ := List.mem_map.mp hr
  obtain ⟨p, h1, q', h2, rfl⟩ := mem_zipW hq
  exact br_add (A.rb _ h2) (br_neg (A.ra s hs _ h1))
theorem un_br {n : Nat} {a : List (List Rat)} {b : List Rat} (A : Dr n a b) : ∀ r ∈ unA a b, ∀ q ∈ r, Br 81 q := fun r hr q hq => by
  obtain ⟨s, hs, rfl⟩ := List.mem_map.mp hr
  obtain ⟨p, h1, q', h2, rfl⟩ := mem_zipW hq
  exact br_add (A.ra s hs _ h1) (br_neg (A.rb _ h2))
theorem neg_br {k : Nat} {b : List Rat} (h : ∀ q ∈ b, Br k q) : ∀ q ∈ b.map (fun q => -q), Br k q := fun q hq => by
  obtain ⟨p, hp, rfl⟩ := List.mem_map.mp hq
  exact br_neg (h p hp)
def natOf : PyData → Nat
  | .int i => i.toNat
  | _ => 0
theorem nat_of (o : List Nat) : (natsD o).map natOf = o := by
  unfold natsD
  rw [List.map_map]
  refine (List.map_congr_left fun i _ => ?_).trans (List.map_id o)
  simp [natOf]
theorem perm_nats {l : List PyData} {n : Nat} (h : l.Perm (rgD 0 (n : Int))) : ∃ o : List Nat, l = natsD o ∧ o.Perm (List.range n) := by
  have e : rgD 0 (n : Int) = natsD (List.range n) := by rw [rgD_ints, natsD_ints]; rfl
  rw [e] at h
  refine ⟨l.map natOf, ?_, ?_⟩
  · unfold natsD
    rw [List.map_map]
    refine ((List.map_congr_left fun d hd => ?_).trans (List.map_id l)).symm
    obtain ⟨i, _, rfl⟩ := List.mem_map.mp (h.mem_iff.mp hd)
    simp [natOf]
  · have := h.map natOf
    rwa [nat_of] at this
/-- the law's own look at the rows -/
theorem expl_rg {n : Nat} {a : List (List Rat)} (ha : a.length = n) : (((List.range n).filter fun i => !(((a.getD i []).drop i).filter fun q => !decide (q.num = 0)).isEmpty).map fun (i : Nat) => PyData.int (i : Int)).isEmpty = explB a := by
  rw [List.isEmpty_map]
  unfold explB
  have e1 : ∀ (l : List Nat) (p : Nat → Bool), (l.filter p).isEmpty = l.all fun i => !p i := fun l p => by
    induction l with
    | nil => rfl
    | cons x l ih => rw [List.filter_cons, List.all_cons]; cases h : p x <;> simp [ih]
  have e2 : ∀ (l : List Rat), (l.filter fun q => !decide (q.num = 0)).isEmpty = l.all fun q => decide (q.num = 0) := fun l => by
    induction l with
    | nil => rfl
    | cons x l ih =>
      rw [List.filter_cons, List.all_cons]
      by_cases h : x.num = 0 <;> simp [h]
      simpa using ih
  rw [e1]
  have e3 : a.zipIdx = (List.range n).map fun i => (a.getD i [], i) := by
    refine List.ext_getElem (by simp [ha]) fun i h1 h2 => ?_
    have : i < a.length := by simpa using h1
    simp [List.getElem?_eq_getElem this]
  rw [e3, List.all_map]
  congr 1
  funext i
  simp only [Function.comp, Bool.not_not]
  exact e2 _
theorem rangeD_nats (n : Nat) : rangeD 0 n = natsD (List.range n) := by
  unfold rangeD natsD
  refine List.map_congr_left fun i _ => ?_
  rw [Int.zero_add]
theorem eqv_nil (l : List PyData) : PyData.eqv (.list l) (.list []) = l.isEmpty := by cases l <;> simp [PyData.eqv, PyData.eqvAll]
theorem okE_rats (l : List Rat) : Px.okE (.list (l.map ratD)) = true := okN_E (okN_lst (n := 1) fun d hd => by
  obtain ⟨q, _, rfl⟩ := List.mem_map.mp hd
  exact okN_rat q) (by decide)
theorem getD_mem {l : List Rat} {k : Nat} (h : k < l.length) : l.getD k 0 ∈ l := by
  rw [List.getD_eq_getElem?_getD, List.getElem?_eq_getElem h]
  exact List.getElem_mem h

local macro_rules | `(tactic| walk_at "pv") => `(tactic| simp only [psParNN, psParNE, pLstN, psAppPop, psExt, pSlO, pIxO, psSetI, pTr, pLendN, pLcN, pLend, uAt_a, uAt_b, List.length_map, uIsO, pMake, psOwnN, pListN, pLr, pRg1, pRg2, pTupO, pLenO, oRep, pChain, iEnumP, iZipTL, List.lookup_cons, psSeq, psSet, psPar, psIf, psRet, psDrop, psCont, psNext, psAsg, psFor, psRaise, psOwn, psApp, psShow, uIsP, uFld, pCallE, pdNo, pVar, nth, pC, pOp, pUn, oI, oI0, uI, oAdd, oEq, oEqE, eqv_rat0, List.isEmpty_nil, List.isEmpty_cons, oNe, oIs, oNis, oIx, pNil, pCons, allD, pTup, pLst, pDisp0, bOf, ptB, ptAnd, ptOr, ptNot, pIf, pAndV, pOrV, pNotV, pCalln, pB, bInt, bAbs, bGcd, bLen, bList, bTuple, bRepr, bAll, uIsi, uIsi2, pgName, pgNil, pgCons, pgTup, Px.iR1, Px.iR2, Px.iS, Px.iZip, iZipU, pSl, pNo, pSome, pLc, pYes, noOwn, noOwn1, wipeE, pdOf, startP, List.set, List.map, List.append, List.cons_append, List.nil_append, List.length_cons, List.length_nil, List.replicate, Nat.reduceAdd, Nat.reduceSub, List.getElem?_cons_zero, List.getElem?_cons_succ, isNone, isBool, oSub, oMul, oDiv, oMod, oPow, oLt, oLe, oGt, oGe, at_0, at_1, okE_int, okE_bool, okE_none, okE_rat, eqv_int, eqv_ti, isTy_int_int, isTy_int_tup, isTy_tup_tup, isTy_tup_int, isTy_bool_int, true_and, and_true, beq_iff_eq, decide_eq_true_eq, decide_eq_false_iff_not, beq_eq_false_iff_ne, Bool.not_true, Bool.not_false, Bool.not_eq_true', Bool.not_eq_false', Nat.reduceLeDiff, Option.some.injEq, exists_eq_left', exists_eq_left, forall_const, true_imp_iff, Bool.false_eq_true, Bool.true_eq_false, false_imp_iff, reduceCtorEq])
local macro_rules | `(tactic| walk_at "pvs") => `(tactic| simp [isTy, tyN, at_0, at_1, okE_int, okE_bool, okE_none, eqv_int, oLt, oLe, oGt, oGe, oSub, oMul, oDiv, oMod, oI, oI0])
local macro_rules | `(tactic| walk_at "pvh") => `(tactic| simp only [psParNN, psParNE, pLstN, psAppPop, psExt, pSlO, pIxO, psSetI, pTr, pLendN, pLcN, pLend, uAt_a, uAt_b, List.length_map, uIsO, pMake, psOwnN, pListN, pLr, pRg1, pRg2, pTupO, pLenO, oRep, pChain, iEnumP, iZipTL, List.lookup_cons, psSeq, psSet, psPar, psIf, psRet, psDrop, psCont, psNext, psAsg, psFor, psRaise, psOwn, psApp, psShow, uIsP, uFld, pCallE, pdNo, pVar, nth, pC, pOp, pUn, oI, oI0, uI, oAdd, oEq, oEqE, eqv_rat0, List.isEmpty_nil, List.isEmpty_cons, oNe, oIs, oNis, oIx, pNil, pCons, allD, pTup, pLst, pDisp0, bOf, ptB, ptAnd, ptOr, ptNot, pIf, pAndV, pOrV, pNotV, pCalln, pB, bInt, bAbs, bGcd, bLen, bList, bTuple, bRepr, bAll, uIsi, uIsi2, pgName, pgNil, pgCons, pgTup, Px.iR1, Px.iR2, Px.iS, Px.iZip, iZipU, pSl, pNo, pSome, pLc, pYes, noOwn, noOwn1, wipeE, pdOf, startP, List.set, List.map, List.append, List.cons_append, List.nil_append, List.length_cons, List.length_nil, List.replicate, Nat.reduceAdd, Nat.reduceSub, List.getElem?_cons_zero, List.getElem?_cons_succ, isNone, isBool, oSub, oMul, oDiv, oMod, oPow, oLt, oLe, oGt, oGe, at_0, at_1, okE_int, okE_bool, okE_none, okE_rat, eqv_int, eqv_ti, isTy_int_int, isTy_int_tup, isTy_tup_tup, isTy_tup_int, isTy_bool_int, true_and, and_true, beq_iff_eq, decide_eq_true_eq, decide_eq_false_iff_not, beq_eq_false_iff_ne, Bool.not_true, Bool.not_false, Bool.not_eq_true', Bool.not_eq_false', Nat.reduceLeDiff, Option.some.injEq, exists_eq_left', exists_eq_left, forall_const, true_imp_iff, Bool.false_eq_true, Bool.true_eq_false, false_imp_iff, reduceCtorEq, if_true, if_false, not_false_eq_true, not_true_eq_false, *])
local macro_rules | `(tactic| walk_at "env") => `(tactic| try simp only [startP, List.map, List.append, List.cons_append, List.nil_append, List.length_cons, List.length_nil, List.replicate, Nat.reduceAdd, Nat.reduceSub, List.set_cons_zero, List.set_cons_succ])

abbrev s_law_right : Stmt := topS 75
theorem sc_law_right : FnScope ["pen", "many", "made", "order", "r", "back", "lead", "a", "b", "row", "i", "k", "one"] ["pen"] (defScope s_law_right) := ⟨rfl, rfl, rfl, by decide +kernel, rfl, by decide +kernel, by decide +kernel⟩
section
variable {P : Program} {w : World} {K : PySem.W.Frag} {mg : Str → Option Value} {base : Heap} {c : Cc} {S_Steps C_BadNumber C_BadRow C_BadTable C_TooMany S : Addr} {Cs : Nat → Addr} {cd P' : Addr}

theorem d_law_right (F : Has K mg "_law_right" s_law_right) (T : Blt mg) (O_Steps : ObK K mg "Steps" S_Steps ["a", "b"]) (DQ_Steps : KpQ P w K mg base c 2 S_Steps (spEqS S_Steps)) (D_Steps : KpI P w K mg base c 4 "Steps" S_Steps 2 (spInit S_Steps (Cs 2) (Cs 1))) (D_law_draw : Kp P w K mg base c 1 "_law_draw" ["pen", "many"] (spDrawP c)) (D_law_is : Kp P w K mg base c 5 "_law_is" ["told", "due"] (spIsD 5)) (D_law_is_steps : Kp P w K mg base c 6 "_law_is_steps" ["told", "a", "b"] (spIsS S_Steps)) (D_law_made : Kp P w K mg base c 9 "_law_made" ["pen", "a", "b"] (spMade c)) (D_law_minus : Kp P w K mg base c 4 "_law_minus" ["one", "other"] (spR2 C0 fSub)) (D_law_number : Kp P w K mg base c 3 "_law_number" ["pen", "size"] (spNum c)) (D_law_opposite : Kp P w K mg base c 1 "_law_opposite" ["number"] (spR1 fNeg)) (D_law_refused : Kp P w K mg base c 11 "_law_refused" ["pen", "made", "many"] (spRefu S_Steps c)) (D_law_says : Kp P w K mg base c 1 "_law_says" ["told", "due"] (spSays)) (D_law_shuffled : Kp P w K mg base c 2 "_law_shuffled" ["pen", "some"] (spShuf c)) (D_law_size : Kp P w K mg base c 3 "_law_size" ["pen"] (spSize c)) (D_law_sum : Kp P w K mg base c 4 "_law_sum" ["row"] (spTot)) (D_law_table : Kp P w K mg base c 5 "_law_table" ["pen", "most"] (spTab c)) (D_law_times : Kp P w K mg base c 3 "_law_times" ["one", "other"] (spR2 C0 fMul)) (D_is_explicit : KpO P w K mg base c 4 "is_explicit" ["steps"] (spExp S_Steps (Cs 2))) (D_nodes : KpO P w K mg base c 5 "nodes" ["steps"] (spNod S_Steps (Cs 2))) (D_renumbered : KpO P w K mg base c 7 "renumbered" ["steps", "order"] (spRen S_Steps (Cs 2) (Cs 1))) (D_scaled : KpO P w K mg base c 7 "scaled" ["steps", "r"] (spSc S_Steps (Cs 2) (Cs 0))) (D_turned_back : KpO P w K mg base c 7 "turned_back" ["steps"] (spTb S_Steps (Cs 2))) (D_undone : KpO P w K mg base c 7 "undone" ["steps"] (spUn S_Steps (Cs 2))) : Kp P w K mg base c 12 "_law_right" ["pen"] (spPen c) := by
  refine keepP F (fun _ _ _ _ _ _ us hl => match us, hl with | [_], _ => rfl) sc_law_right (fun f cdv A outer s H E hr hg => ⟨_, (pus_cons (pus_asg (pu_call D_law_table hr hg takesF (pa_cons' (pu_var 0) (pa_cons' pu_int pa_nil'))) (pug_tup (n := 2) (by rfl) (pugs_cons (pug_name (i := 7) sc_law_right.nd) (pugs_cons (pug_name (i := 8) sc_law_right.nd) pugs_nil))))
    (pus_cons (pus_set (i := 1) sc_law_right.nd (pu_callB c_len rb_len T.b_len PySem.boot_len (pa_cons' (pu_var 8) pa_nil')))
    (pus_cons (pus_set (i := 2) sc_law_right.nd (pu_make D_Steps hr takesF (pa_cons' (pu_if (pt_cmp' (op_eqD (hu64 hr)) ro_eq (pu_call D_law_draw hr hg takesF (pa_cons' (pu_var 0) (pa_cons' pu_int pa_nil'))) pu_int) (pu_lc (own := [("row", 9)]) rfl sc_law_right.nd (pui_seq (pu_var 7)) (blkOk_by (by show blkC ["pen", "many", "made", "order", "r", "back", "lead", "a", "b", "row", "i", "k", "one"] (defScope s_law_right) _ _ = true; decide +kernel)) (fun ci => (pug_name (i := 9) sc_law_right.nd)) (fun ci => (pu_callTy c_list rb_list T.b_list (by decide +kernel) (pa_cons' (pu_var 9) pa_nil')))) (pu_var 7)) (pa_cons' (pu_callTy c_list rb_list T.b_list (by decide +kernel) (pa_cons' (pu_var 8) pa_nil')) pa_nil'))))
    (pus_cons (pus_if (PuW.pt (pw_or' (pt_not' (pt_val' (pu_call D_law_is_steps hr hg takesF (pa_cons' (pu_var 2) (pa_cons' (pu_var 7) (pa_cons' (pu_var 8) pa_nil')))))) (pw_or' (pt_cmp' (op_neO (O1 := O_Steps) DQ_Steps (hr.mono (by decide))) (ro_cmpO O_Steps DQ_Steps) (pu_var 2) (pu_make D_Steps hr takesF (pa_cons' (pu_var 7) (pa_cons' (pu_var 8) pa_nil')))) (pw_or1' (pt_cmp' (op_eqO DQ_Steps (hr.mono (by decide))) (ro_cmpO O_Steps DQ_Steps) (pu_var 2) (pu_tup (pa_cons' (pu_var 7) (pa_cons' (pu_var 8) pa_nil')))))))) (pus_one (pus_ret pu_bl)) pus_nil)
    (pus_cons (pus_if (pt_not' (pt_val' (pu_call D_law_is hr hg takesF (pa_cons' (pu_callO D_nodes hr takesF (pa_cons' (pu_var 2) pa_nil')) (pa_cons' (pu_callTy c_tuple rb_tuple T.b_tuple (by decide +kernel) (pa_cons' (pu_lc (own := [("row", 9)]) rfl sc_law_right.nd (pui_seq (pu_var 7)) (blkOk_by (by show blkC ["pen", "many", "made", "order", "r", "back", "lead", "a", "b", "row", "i", "k", "one"] (defScope s_law_right) _ _ = true; decide +kernel)) (fun ci => (pug_name (i := 9) sc_law_right.nd)) (fun ci => (pu_call D_law_sum hr hg takes0 (pa_cons' (pu_var 9) pa_nil')))) pa_nil')) pa_nil'))))) (pus_one (pus_ret pu_bl)) pus_nil)
    (pus_cons (pus_if (pt_not' (pt_val' (pu_call D_law_says hr hg takesF (pa_cons' (pu_callO D_is_explicit hr takesF (pa_cons' (pu_var 2) pa_nil')) (pa_cons' (pu_cmp (op_eqE (hu64 hr)) ro_eqE (pu_lcI (own := [("i", 10)]) rfl sc_law_right.nd (pui_range1 T.b_range (pa_cons' (pu_var 1) pa_nil')) (blkOk_by (by show blkC ["pen", "many", "made", "order", "r", "back", "lead", "a", "b", "row", "i", "k", "one"] (defScope s_law_right) _ _ = true; decide +kernel)) (fun ci => (pug_name (i := 10) sc_law_right.nd)) (fun ci => (pt_cmp' (op_neD (hu64 hr)) ro_ne (pu_lcI (own := [("one", 12)]) rfl sc_law_right.nd (pui_seq (pu_slice (pu_ix (pu_var 7) (pu_var 10)) (puo_some (pu_var 10)) puo_none)) (blkOk_in (by show blkC ["pen", "many", "made", "order", "r", "back", "lead", "a", "b", "row", "i", "k", "one"] _ _ _ = true; decide +kernel)) (fun ci => (pug_name (i := 12) sc_law_right.nd)) (fun ci => (pt_cmp' (op_neD (hu64 hr)) ro_ne (pu_var 12) pu_int)) (fun ci => (pu_var 12))) (pu_lstK pa_nilK))) (fun ci => (pu_var 10))) (pu_lstK pa_nilK)) pa_nil'))))) (pus_one (pus_ret pu_bl)) pus_nil)
    (pus_cons (pus_set (i := 3) sc_law_right.nd (pu_callTy c_tuple rb_tuple T.b_tuple (by decide +kernel) (pa_cons' (pu_call D_law_shuffled hr hg takesF (pa_cons' (pu_var 0) (pa_cons' (pu_listRg rfl T.b_list (purg_1 T.b_range (pu_var 1))) pa_nil'))) pa_nil')))
    (pus_cons (pus_if (pt_not' (pt_val' (pu_call D_law_is_steps hr hg takesF (pa_cons' (pu_callO D_renumbered hr takesF (pa_cons' (pu_var 2) (pa_cons' (pu_callTy c_list rb_list T.b_list (by decide +kernel) (pa_cons' (pu_var 3) pa_nil')) pa_nil'))) (pa_cons' (pu_callTy c_tuple rb_tuple T.b_tuple (by decide +kernel) (pa_cons' (pu_lc (own := [("i", 10)]) rfl sc_law_right.nd (pui_seq (pu_var 3)) (blkOk_by (by show blkC ["pen", "many", "made", "order", "r", "back", "lead", "a", "b", "row", "i", "k", "one"] (defScope s_law_right) _ _ = true; decide +kernel)) (fun ci => (pug_name (i := 10) sc_law_right.nd)) (fun ci => (pu_callTy c_tuple rb_tuple T.b_tuple (by decide +kernel) (pa_cons' (pu_lc (own := [("k", 11)]) rfl sc_law_right.nd (pui_seq (pu_var 3)) (blkOk_in (by show blkC ["pen", "many", "made", "order", "r", "back", "lead", "a", "b", "row", "i", "k", "one"] _ _ _ = true; decide +kernel)) (fun ci => (pug_name (i := 11) sc_law_right.nd)) (fun ci => (pu_ix (pu_ix (pu_var 7) (pu_var 10)) (pu_var 11)))) pa_nil')))) pa_nil')) (pa_cons' (pu_callTy c_tuple rb_tuple T.b_tuple (by decide +kernel) (pa_cons' (pu_lc (own := [("k", 11)]) rfl sc_law_right.nd (pui_seq (pu_var 3)) (blkOk_by (by show blkC ["pen", "many", "made", "order", "r", "back", "lead", "a", "b", "row", "i", "k", "one"] (defScope s_law_right) _ _ = true; decide +kernel)) (fun ci => (pug_name (i := 11) sc_law_right.nd)) (fun ci => (pu_ix (pu_var 8) (pu_var 11)))) pa_nil')) pa_nil')))))) (pus_one (pus_ret pu_bl)) pus_nil)
    (pus_cons (pus_set (i := 4) sc_law_right.nd (pu_call D_law_number hr hg takesF (pa_cons' (pu_var 0) (pa_cons' (pu_call D_law_size hr hg takesF (pa_cons' (pu_var 0) pa_nil')) pa_nil'))))
    (pus_cons (pus_if (pt_not' (pt_val' (pu_call D_law_is_steps hr hg takesF (pa_cons' (pu_callO D_scaled hr takesF (pa_cons' (pu_var 2) (pa_cons' (pu_var 4) pa_nil'))) (pa_cons' (pu_callTy c_tuple rb_tuple T.b_tuple (by decide +kernel) (pa_cons' (pu_lc (own := [("row", 9)]) rfl sc_law_right.nd (pui_seq (pu_var 7)) (blkOk_by (by show blkC ["pen", "many", "made", "order", "r", "back", "lead", "a", "b", "row", "i", "k", "one"] (defScope s_law_right) _ _ = true; decide +kernel)) (fun ci => (pug_name (i := 9) sc_law_right.nd)) (fun ci => (pu_callTy c_tuple rb_tuple T.b_tuple (by decide +kernel) (pa_cons' (pu_lc (own := [("one", 12)]) rfl sc_law_right.nd (pui_seq (pu_var 9)) (blkOk_in (by show blkC ["pen", "many", "made", "order", "r", "back", "lead", "a", "b", "row", "i", "k", "one"] _ _ _ = true; decide +kernel)) (fun ci => (pug_name (i := 12) sc_law_right.nd)) (fun ci => (pu_call D_law_times hr hg takes0 (pa_cons' (pu_var 4) (pa_cons' (pu_var 12) pa_nil'))))) pa_nil')))) pa_nil')) (pa_cons' (pu_callTy c_tuple rb_tuple T.b_tuple (by decide +kernel) (pa_cons' (pu_lc (own := [("one", 12)]) rfl sc_law_right.nd (pui_seq (pu_var 8)) (blkOk_by (by show blkC ["pen", "many", "made", "order", "r", "back", "lead", "a", "b", "row", "i", "k", "one"] (defScope s_law_right) _ _ = true; decide +kernel)) (fun ci => (pug_name (i := 12) sc_law_right.nd)) (fun ci => (pu_call D_law_times hr hg takes0 (pa_cons' (pu_var 4) (pa_cons' (pu_var 12) pa_nil'))))) pa_nil')) pa_nil')))))) (pus_one (pus_ret pu_bl)) pus_nil)
    (pus_cons (pus_set (i := 5) sc_law_right.nd (pu_callTy c_tuple rb_tuple T.b_tuple (by decide +kernel) (pa_cons' (pu_lc (own := [("row", 9)]) rfl sc_law_right.nd (pui_seq (pu_var 7)) (blkOk_by (by show blkC ["pen", "many", "made", "order", "r", "back", "lead", "a", "b", "row", "i", "k", "one"] (defScope s_law_right) _ _ = true; decide +kernel)) (fun ci => (pug_name (i := 9) sc_law_right.nd)) (fun ci => (pu_callTy c_tuple rb_tuple T.b_tuple (by decide +kernel) (pa_cons' (pu_lc (own := [("k", 11)]) rfl sc_law_right.nd (pui_range1 T.b_range (pa_cons' (pu_var 1) pa_nil')) (blkOk_in (by show blkC ["pen", "many", "made", "order", "r", "back", "lead", "a", "b", "row", "i", "k", "one"] _ _ _ = true; decide +kernel)) (fun ci => (pug_name (i := 11) sc_law_right.nd)) (fun ci => (pu_call D_law_minus hr hg takes0 (pa_cons' (pu_ix (pu_var 8) (pu_var 11)) (pa_cons' (pu_ix (pu_var 9) (pu_var 11)) pa_nil'))))) pa_nil')))) pa_nil')))
    (pus_cons (pus_if (PuW.pt (pw_or' (pt_not' (pt_val' (pu_call D_law_is_steps hr hg takesF (pa_cons' (pu_callO D_turned_back hr takesF (pa_cons' (pu_var 2) pa_nil')) (pa_cons' (pu_var 5) (pa_cons' (pu_var 8) pa_nil')))))) (pw_or1' (pt_cmp' (op_neO (O1 := O_Steps) DQ_Steps (hr.mono (by decide))) (ro_cmpO O_Steps DQ_Steps) (pu_callO D_turned_back hr takesF (pa_cons' (pu_callO D_turned_back hr takesF (pa_cons' (pu_var 2) pa_nil')) pa_nil')) (pu_var 2))))) (pus_one (pus_ret pu_bl)) pus_nil)
    (pus_cons (pus_set (i := 6) sc_law_right.nd (pu_callTy c_tuple rb_tuple T.b_tuple (by decide +kernel) (pa_cons' (pu_lc (own := [("row", 9)]) rfl sc_law_right.nd (pui_seq (pu_var 5)) (blkOk_by (by show blkC ["pen", "many", "made", "order", "r", "back", "lead", "a", "b", "row", "i", "k", "one"] (defScope s_law_right) _ _ = true; decide +kernel)) (fun ci => (pug_name (i := 9) sc_law_right.nd)) (fun ci => (pu_callTy c_tuple rb_tuple T.b_tuple (by decide +kernel) (pa_cons' (pu_lc (own := [("one", 12)]) rfl sc_law_right.nd (pui_seq (pu_var 9)) (blkOk_in (by show blkC ["pen", "many", "made", "order", "r", "back", "lead", "a", "b", "row", "i", "k", "one"] _ _ _ = true; decide +kernel)) (fun ci => (pug_name (i := 12) sc_law_right.nd)) (fun ci => (pu_call D_law_opposite hr hg takes0 (pa_cons' (pu_var 12) pa_nil')))) pa_nil')))) pa_nil')))
    (pus_cons (pus_if (PuW.pt (pw_or' (pt_not' (pt_val' (pu_call D_law_is_steps hr hg takesF (pa_cons' (pu_callO D_undone hr takesF (pa_cons' (pu_var 2) pa_nil')) (pa_cons' (pu_var 6) (pa_cons' (pu_callTy c_tuple rb_tuple T.b_tuple (by decide +kernel) (pa_cons' (pu_lc (own := [("one", 12)]) rfl sc_law_right.nd (pui_seq (pu_var 8)) (blkOk_by (by show blkC ["pen", "many", "made", "order", "r", "back", "lead", "a", "b", "row", "i", "k", "one"] (defScope s_law_right) _ _ = true; decide +kernel)) (fun ci => (pug_name (i := 12) sc_law_right.nd)) (fun ci => (pu_call D_law_opposite hr hg takes0 (pa_cons' (pu_var 12) pa_nil')))) pa_nil')) pa_nil')))))) (pw_or' (pt_cmp' (op_neO (O1 := O_Steps) DQ_Steps (hr.mono (by decide))) (ro_cmpO O_Steps DQ_Steps) (pu_callO D_undone hr takesF (pa_cons' (pu_callO D_undone hr takesF (pa_cons' (pu_var 2) pa_nil')) pa_nil')) (pu_var 2)) (pw_or1' (pt_cmp' (op_neO (O1 := O_Steps) DQ_Steps (hr.mono (by decide))) (ro_cmpO O_Steps DQ_Steps) (pu_callO D_undone hr takesF (pa_cons' (pu_var 2) pa_nil')) (pu_callO D_scaled hr takesF (pa_cons' (pu_callO D_turned_back hr takesF (pa_cons' (pu_var 2) pa_nil')) (pa_cons' (pu_negK pu_int) pa_nil')))))))) (pus_one (pus_ret pu_bl)) pus_nil)
    (pus_one (pus_ret (pu_and (pu_call D_law_made hr hg takesF (pa_cons' (pu_var 0) (pa_cons' (pu_var 7) (pa_cons' (pu_var 8) pa_nil')))) (pu_one (pu_call D_law_refused hr hg takesF (pa_cons' (pu_var 0) (pa_cons' (pu_var 2) (pa_cons' (pu_var 1) pa_nil')))))))))))))))))))))), fun ss R EX hl h => ?_⟩)
  obtain ⟨rfl, h⟩ := h
  walk_at "env"
  refine asg_step (fun s => ∃ n a b, s = .d (.tuple [matD a, rowD b]) ∧ Dr n a b ∧ 1 ≤ n ∧ n ≤ 4) (fun R' hR => ?_) ?_
  · walk_at "pv"
    exact ⟨4, rfl, by decide, by decide, fun n a b D n1 n3 => hR _ ⟨n, a, b, rfl, D, n1, by omega⟩⟩
  rintro s ⟨n, a, b, rfl, A, n1, n4⟩
  refine g2_i ?_
  walk_at "env"
  have la := A.t.la
  have lb := A.t.lb
  have n8 : n ≤ 8 := by omega
  obtain ⟨t1, t2, t3⟩ := tab_le A.t (k := 8) n8
  have init : ∀ {x y : PyData} {xs : List PyData} {R : FD → Prop} {EX : Addr → FD → Prop}, SeqOf xs x → RowsIn a xs → RowIn b y → R (fdS a b) → spInit S_Steps (Cs 2) (Cs 1) [.d x, .d y] R EX := fun hx hr hb h => init_ok hx hr hb A.t n1 n8 h
  have b4 : ∀ {k : Nat}, k ≤ 4000 → ∀ {l : List Rat}, (∀ q ∈ l, Br k q) → ∀ q ∈ l, Br 4000 q := fun hk l hl q hq => br_up (hl q hq) hk
  have a4 : ∀ {k : Nat}, k ≤ 4000 → ∀ {l : List (List Rat)}, (∀ r ∈ l, ∀ q ∈ r, Br k q) → ∀ r ∈ l, ∀ q ∈ r, Br 4000 q := fun hk l hl r hr q hq => br_up (hl r hr q hq) hk
  refine set_step (fun s => s = .d (.int (n : Nat))) (fun R' hR => ?_) ?_
  · walk_at "pv"
    rw [lb]
    exact hR _ rfl
  rintro s rfl
  walk_at "env"
  refine set_step (fun s => s = stS S_Steps a b) (fun R' hR => ?_) ?_
  · walk_at "pv"
    refine dr_i (by decide) (by decide) fun r r0 r1 => ?_
    walk_at "pv"
    refine ⟨fun _ => ?_, fun _ => ?_⟩
    · refine lc_mapT rowD (fun r => .list (r.map ratD)) (by omega) (fun r hr R hR => ?_) ?_
      · walk_at "pv"
        exact hR
      · exact init (.inl rfl) rats_inL (.inl rfl) (hR _ rfl)
    · exact init (.inr rfl) rats_in (.inl rfl) (hR _ rfl)
  rintro s rfl
  walk_at "env"
  refine if_no (fun R' hR => or_no (fun R' hR => not_no' (fun R' hR => ?_) hR) (fun R' hR => or_no (fun R' hR => ?_) (fun R' hR => ?_) hR) hR) ?_
  · walk_at "pv"
    exact ⟨_, _, rfl, t1, t2, t3, hR⟩
  · walk_at "pv"
    exact init (.inr rfl) rats_in (.inr rfl) (neO_i t1 t2 t3 hR)
  · walk_at "pv"
    exact eqO_i hR
  refine if_no (fun R' hR => not_no' (fun R' hR => ?_) hR) ?_
  · walk_at "pv"
    refine .inr ⟨n, a, b, rfl, A.t, n8, (fun r hr q hq => br_up (A.ra r hr q hq) (by decide)), ?_⟩
    refine lc_mapT rowD (fun r => ratD (rsum r)) (by omega) (fun r hr R hR => ?_) ?_
    · walk_at "pv"
      exact ⟨r, rfl, t2 r hr, fun q hq => br_up (A.ra r hr q hq) (by decide), hR⟩
    · rw [show (fun r => ratD (rsum r)) = ratD ∘ rsum from rfl, ← List.map_map]
      exact ⟨_, rfl, pl_row (by rw [List.length_map]; omega), hR⟩
  refine if_no (fun R' hR => not_no' (fun R' hR => ?_) hR) ?_
  · walk_at "pv"
    refine .inr ⟨n, a, b, rfl, A.t, n8, ?_⟩
    refine ⟨by omega, by omega, ?_⟩
    rw [Int.toNat_natCast, rangeD_nats]
    refine lc_filt (fun i : Nat => .int (i : Int)) (fun i : Nat => .int (i : Int)) (fun i => !(((a.getD i []).drop i).filter fun q => !decide (q.num = 0)).isEmpty) (acc := []) (by simp; omega) (fun i hi N hN => ?_) ?_
    · have hi' := List.mem_range.mp hi
      have hg : a[i]? = some (a.getD i []) := by rw [List.getD_eq_getElem?_getD, List.getElem?_eq_getElem (by omega)]; rfl
      have hr := A.t.lr _ (List.mem_of_getElem? hg)
      generalize a.getD i [] = r at hg hr hN ⊢
      have ha : atI (a.map rowD) ((i : Nat) : Int) = some (rowD r) := atI_nat (by rw [List.getElem?_map, hg]; rfl)
      refine hN _ (fun R hR => tB_i _ (fun R hR => ?_) hR) (fun R hR => ?_)
      · walk_at "pv"
        refine ⟨_, ha, ?_⟩
        walk_at "pv"
        rw [cut_drop _ (by omega) (by rw [List.length_map, hr]; omega), Int.toNat_natCast, ← List.map_drop]
        refine lc_filt ratD ratD (fun q => !decide (q.num = 0)) (acc := []) (by simp; omega) (fun q hq N hN => hN _ (fun R hR => ?_) (fun R hR => ?_)) ?_
        · walk_at "pv"
          exact hR
        · walk_at "pv"
          exact hR
        · rw [List.nil_append]
          refine ⟨okE_rats _, rfl, ?_⟩
          rw [eqv_nil, List.isEmpty_map]
          exact hR
      · walk_at "pv"
        exact hR
    · rw [List.nil_append, expl_rg la]
      exact ⟨_, rfl, hR⟩
  refine set_step (fun s => ∃ o : List Nat, s = .d (.tuple (natsD o)) ∧ o.Perm (List.range n)) (fun R' hR => ?_) ?_
  · walk_at "pv"
    refine ⟨by omega, _, rfl, by unfold rgD; rw [rangeD_len]; omega, fun l' hp => ?_⟩
    obtain ⟨o, rfl, ho⟩ := perm_nats hp
    walk_at "pv"
    exact hR _ ⟨o, rfl, ho⟩
  rintro s ⟨o, rfl, ho⟩
  walk_at "env"
  have ol : o.length = n := by rw [ho.length_eq, List.length_range]
  have hob : ∀ i ∈ o, i < n := fun i hi => List.mem_range.mp (ho.mem_iff.mp hi)
  have TR := tab_ren A.t ol
  obtain ⟨r1, r2, r3⟩ := tab_le TR (k := 8) n8
  have rowE : ∀ (w : List Rat), w.length = n → ∀ {g : Nat → PyData}, True := fun _ _ _ => True.intro
  refine if_no (fun R' hR => not_no' (fun R' hR => ?_) hR) ?_
  · walk_at "pv"
    refine .inr ⟨n, a, b, _, rfl, A.t, n1, n8, .inr ⟨o, .inl rfl, ho, ?_⟩⟩
    refine lc_mapT (fun i : Nat => .int (i : Int)) (fun i => rowD (renB (a.getD i []) o)) (by omega) (fun i hi R hR => ?_) ?_
    · have hi' := hob i hi
      have hg : a[i]? = some (a.getD i []) := by rw [List.getD_eq_getElem?_getD, List.getElem?_eq_getElem (by omega)]; rfl
      have hr := A.t.lr _ (List.mem_of_getElem? hg)
      generalize a.getD i [] = r at hg hr hR ⊢
      have ha : atI (a.map rowD) ((i : Nat) : Int) = some (rowD r) := atI_nat (by rw [List.getElem?_map, hg]; rfl)
      walk_at "pv"
      refine lc_mapT (fun i : Nat => .int (i : Int)) (fun k => ratD (r.getD k 0)) (by omega) (fun k hk R hR => ?_) ?_
      · have hk' := hob k hk
        walk_at "pv"
        refine ⟨_, ha, ratD (r.getD k 0), atI_nat ?_, hR⟩
        rw [List.getElem?_map, List.getD_eq_getElem?_getD, List.getElem?_eq_getElem (by omega)]
        rfl
      · rw [show (fun k => ratD (r.getD k 0)) = ratD ∘ (fun k => r.getD k 0) from rfl, ← List.map_map]
        exact hR
    · refine lc_mapT (fun i : Nat => .int (i : Int)) (fun k => ratD (b.getD k 0)) (by omega) (fun k hk R hR => ?_) ?_
      · have hk' := hob k hk
        walk_at "pv"
        refine ⟨ratD (b.getD k 0), atI_nat ?_, hR⟩
        rw [List.getElem?_map, List.getD_eq_getElem?_getD, List.getElem?_eq_getElem (by omega)]
        rfl
      · rw [show (fun k => ratD (b.getD k 0)) = ratD ∘ (fun k => b.getD k 0) from rfl, ← List.map_map, show (fun i => rowD (renB (a.getD i []) o)) = rowD ∘ (fun i => renB (a.getD i []) o) from rfl, ← List.map_map]
        exact ⟨_, _, rfl, r1, r2, r3, hR⟩
  refine set_step (fun s => ∃ r : Rat, s = .d (ratD r) ∧ Br 145 r) (fun R' hR => ?_) ?_
  · walk_at "pv"
    exact ⟨rfl, ⟨_, rfl, fun q hq => hR _ ⟨q, rfl, hq⟩⟩, ⟨_, rfl, fun q hq => hR _ ⟨q, rfl, hq⟩⟩, ⟨_, rfl, fun q hq => hR _ ⟨q, rfl, hq⟩⟩⟩
  rintro s ⟨r, rfl, hr⟩
  walk_at "env"
  have hr4 : Br 4000 r := br_up hr (by decide)
  obtain ⟨c1, c2, c3⟩ := tab_le (tab_sc (r := r) A.t) (k := 8) n8
  refine if_no (fun R' hR => not_no' (fun R' hR => ?_) hR) ?_
  · walk_at "pv"
    refine .inr ⟨n, a, b, _, rfl, .inr ⟨r, rfl, A.t, n1, n8, a4 (by decide) A.ra, b4 (by decide) A.rb, hr4, ?_⟩⟩
    refine lc_mapT rowD (fun row => rowD (row.map fun q => r * q)) (by omega) (fun row hrow R hR => ?_) ?_
    · have lr := A.t.lr row hrow
      walk_at "pv"
      refine lc_mapT ratD (fun q => ratD (r * q)) (by omega) (fun q hq R hR => ?_) ?_
      · walk_at "pv"
        exact r2_i hr4 (br_up (A.ra row hrow q hq) (by decide)) True.intro hR
      · rw [show (fun q => ratD (r * q)) = ratD ∘ (fun q => r * q) from rfl, ← List.map_map]
        exact hR
    · refine lc_mapT ratD (fun q => ratD (r * q)) (by omega) (fun q hq R hR => ?_) ?_
      · walk_at "pv"
        exact r2_i hr4 (br_up (A.rb q hq) (by decide)) True.intro hR
      rw [show (fun q => ratD (r * q)) = ratD ∘ (fun q => r * q) from rfl, ← List.map_map, show (fun row : List Rat => rowD (row.map fun q => r * q)) = rowD ∘ (fun row => row.map fun q => r * q) from rfl, ← List.map_map]
      exact ⟨_, _, rfl, c1, c2, c3, hR⟩
  refine set_step (fun s => s = .d (matD (tbA a b))) (fun R' hR => ?_) ?_
  · walk_at "pv"
    refine lc_mapT rowD (fun r => rowD (List.zipWith (fun p q => q + -p) r b)) (by omega) (fun r hr R hR => ?_) ?_
    · have lr := A.t.lr r hr
      walk_at "pv"
      refine ⟨by omega, by omega, ?_⟩
      rw [Int.toNat_natCast, rangeD_nats]
      refine lc_mapT (fun k : Nat => .int (k : Int)) (fun k => ratD (b.getD k 0 + -r.getD k 0)) (by simp; omega) (fun k hk R hR => ?_) ?_
      · have hk' := List.mem_range.mp hk
        walk_at "pv"
        refine ⟨ratD (b.getD k 0), atI_nat ?_, ratD (r.getD k 0), atI_nat ?_, r2_i (br_up (A.rb _ (getD_mem (by omega))) (by decide)) (br_up (A.ra r hr _ (getD_mem (by omega))) (by decide)) True.intro hR⟩
        · rw [List.getElem?_map, List.getD_eq_getElem?_getD, List.getElem?_eq_getElem (by omega)]
          rfl
        · rw [List.getElem?_map, List.getD_eq_getElem?_getD, List.getElem?_eq_getElem (by omega)]
          rfl
      · rw [show (fun k => ratD (b.getD k 0 + -r.getD k 0)) = ratD ∘ (fun k => b.getD k 0 + -r.getD k 0) from rfl, ← List.map_map, zip_rg lr lb]
        exact hR
    · rw [show (fun r => rowD (List.zipWith (fun p q => q + -p) r b)) = rowD ∘ (fun r => List.zipWith (fun p q => q + -p) r b) from rfl, ← List.map_map]
      exact hR _ rfl
  rintro s rfl
  walk_at "env"
  have TB := tab_tb A.t
  have TU := tab_un A.t
  obtain ⟨d1, d2, d3⟩ := tab_le TB (k := 8) n8
  obtain ⟨u1, u2, u3⟩ := tab_le TU (k := 8) n8
  have Btb := tb_br A
  have Bun := un_br A
  have tb : ∀ {R : Sl → Prop} {EX : Addr → FD → Prop}, R (stS S_Steps (tbA a b) b) → spTb S_Steps (Cs 2) [stS S_Steps a b] R EX := fun h => .inr ⟨n, a, b, rfl, A.t, n1, n8, a4 (by decide) A.ra, b4 (by decide) A.rb, h⟩
  have un : ∀ {R : Sl → Prop} {EX : Addr → FD → Prop}, R (stS S_Steps (unA a b) (b.map fun q => -q)) → spUn S_Steps (Cs 2) [stS S_Steps a b] R EX := fun h => .inr ⟨n, a, b, rfl, A.t, n1, n8, a4 (by decide) A.ra, b4 (by decide) A.rb, h⟩
  refine if_no (fun R' hR => or_no (fun R' hR => not_no' (fun R' hR => ?_) hR) (fun R' hR => ?_) hR) ?_
  · walk_at "pv"
    exact tb ⟨_, _, rfl, d1, d2, d3, hR⟩
  · walk_at "pv"
    refine tb (.inr ⟨n, _, _, rfl, TB, n1, n8, a4 (by decide) Btb, b4 (by decide) A.rb, ?_⟩)
    rw [tb_tb A.t]
    exact neO_i t1 t2 t3 hR
  refine set_step (fun s => s = .d (matD (unA a b))) (fun R' hR => ?_) ?_
  · walk_at "pv"
    refine lc_mapT rowD (fun r => rowD (r.map fun q => -q)) (by omega) (fun r hr R hR => ?_) ?_
    · have lr := TB.lr r hr
      walk_at "pv"
      refine lc_mapT ratD (fun q => ratD (-q)) (by omega) (fun q hq R hR => ?_) ?_
      · walk_at "pv"
        exact ⟨q, rfl, hR⟩
      · rw [show (fun q => ratD (-q)) = ratD ∘ (fun q => -q) from rfl, ← List.map_map]
        exact hR
    · refine hR _ ?_
      unfold tbA unA matD
      rw [List.map_map, List.map_map]
      refine congrArg Sl.d (congrArg PyData.tuple (List.map_congr_left fun r _ => ?_))
      simp only [Function.comp]
      rw [neg_tb1]
  rintro s rfl
  walk_at "env"
  have b1 : ∀ q ∈ b.map (fun q => -q), Br 40 q := neg_br A.rb
  refine if_no (fun R' hR => or_no (fun R' hR => not_no' (fun R' hR => ?_) hR) (fun R' hR => or_no (fun R' hR => ?_) (fun R' hR => ?_) hR) hR) ?_
  · walk_at "pv"
    refine un ?_
    refine lc_mapT ratD (fun q => ratD (-q)) (by omega) (fun q hq R hR => ?_) ?_
    · walk_at "pv"
      exact ⟨q, rfl, hR⟩
    · rw [show (fun q => ratD (-q)) = ratD ∘ (fun q => -q) from rfl, ← List.map_map]
      exact ⟨_, _, rfl, u1, u2, u3, hR⟩
  · walk_at "pv"
    refine un (.inr ⟨n, _, _, rfl, TU, n1, n8, a4 (by decide) Bun, b4 (by decide) b1, ?_⟩)
    rw [un_un A.t, neg_neg]
    exact neO_i t1 t2 t3 hR
  · walk_at "pv"
    refine un (tb (.inr ⟨n, _, _, _, rfl, .inr ⟨-1, rfl, TB, n1, n8, a4 (by decide) Btb, b4 (by decide) A.rb, ⟨by decide, by decide⟩, ?_⟩⟩))
    rw [sc_tb, sc_neg]
    exact neO_i u1 u2 u3 hR
  walk_at "pv"
  exact ⟨n, a, b, rfl, A, n1, n4, ⟨fun _ => ⟨n, a, b, rfl, A.t, n1, n4, h⟩, fun z => Bool.noConfusion z⟩⟩
end
end K11
namespace K11
open PySem PySem.Spec PyProof.Rows L2 Lx Px
local macro_rules | `(tactic| walk_at "pv") => `(tactic| simp only [psParNN, psParNE, pLstN, psAppPop, psExt, pSlO, pIxO, psSetI, pTr, pLendN, pLcN, pLend, uAt_a, uAt_b, List.length_map, uIsO, pMake, psOwnN, pListN, pLr, pRg1, pRg2, pTupO, pLenO, oRep, pChain, iEnumP, iZipTL, List.lookup_cons, psSeq, psSet, psPar, psIf, psRet, psDrop, psCont, psNext, psAsg, psFor, psRaise, psOwn, psApp, psShow, uIsP, uFld, pCallE, pdNo, pVar, nth, pC, pOp, pUn, oI, oI0, uI, oAdd, oEq, oEqE, eqv_rat0, List.isEmpty_nil, List.isEmpty_cons, oNe, oIs, oNis, oIx, pNil, pCons, allD, pTup, pLst, pDisp0, bOf, ptB, ptAnd, ptOr, ptNot, pIf, pAndV, pOrV, pNotV, pCalln, pB, bInt, bAbs, bGcd, bLen, bList, bTuple, bRepr, bAll, uIsi, uIsi2, pgName, pgNil, pgCons, pgTup, Px.iR1, Px.iR2, Px.iS, Px.iZip, iZipU, pSl, pNo, pSome, pLc, pYes, noOwn, noOwn1, wipeE, pdOf, startP, List.set, List.map, List.append, List.cons_append, List.nil_append, List.length_cons, List.length_nil, List.replicate, Nat.reduceAdd, Nat.reduceSub, List.getElem?_cons_zero, List.getElem?_cons_succ, isNone, isBool, oSub, oMul, oDiv, oMod, oPow, oLt, oLe, oGt, oGe, at_0, at_1, okE_int, okE_bool, okE_none, okE_rat, eqv_int, eqv_ti, isTy_int_int, isTy_int_tup, isTy_tup_tup, isTy_tup_int, isTy_bool_int, true_and, and_true, beq_iff_eq, decide_eq_true_eq, decide_eq_false_iff_not, beq_eq_false_iff_ne, Bool.not_true, Bool.not_false, Bool.not_eq_true', Bool.not_eq_false', Nat.reduceLeDiff, Option.some.injEq, exists_eq_left', exists_eq_left, forall_const, true_imp_iff, Bool.false_eq_true, Bool.true_eq_false, false_imp_iff, reduceCtorEq])
local macro_rules | `(tactic| walk_at "pvs") => `(tactic| simp [isTy, tyN, at_0, at_1, okE_int, okE_bool, okE_none, eqv_int, oLt, oLe, oGt, oGe, oSub, oMul, oDiv, oMod, oI, oI0])
local macro_rules | `(tactic| walk_at "pvh") => `(tactic| simp only [psParNN, psParNE, pLstN, psAppPop, psExt, pSlO, pIxO, psSetI, pTr, pLendN, pLcN, pLend, uAt_a, uAt_b, List.length_map, uIsO, pMake, psOwnN, pListN, pLr, pRg1, pRg2, pTupO, pLenO, oRep, pChain, iEnumP, iZipTL, List.lookup_cons, psSeq, psSet, psPar, psIf, psRet, psDrop, psCont, psNext, psAsg, psFor, psRaise, psOwn, psApp, psShow, uIsP, uFld, pCallE, pdNo, pVar, nth, pC, pOp, pUn, oI, oI0, uI, oAdd, oEq, oEqE, eqv_rat0, List.isEmpty_nil, List.isEmpty_cons, oNe, oIs, oNis, oIx, pNil, pCons, allD, pTup, pLst, pDisp0, bOf, ptB, ptAnd, ptOr, ptNot, pIf, pAndV, pOrV, pNotV, pCalln, pB, bInt, bAbs, bGcd, bLen, bList, bTuple, bRepr, bAll, uIsi, uIsi2, pgName, pgNil, pgCons, pgTup, Px.iR1, Px.iR2, Px.iS, Px.iZip, iZipU, pSl, pNo, pSome, pLc, pYes, noOwn, noOwn1, wipeE, pdOf, startP, List.set, List.map, List.append, List.cons_append, List.nil_append, List.length_cons, List.length_nil, List.replicate, Nat.reduceAdd, Nat.reduceSub, List.getElem?_cons_zero, List.getElem?_cons_succ, isNone, isBool, oSub, oMul, oDiv, oMod, oPow, oLt, oLe, oGt, oGe, at_0, at_1, okE_int, okE_bool, okE_none, okE_rat, eqv_int, eqv_ti, isTy_int_int, isTy_int_tup, isTy_tup_tup, isTy_tup_int, isTy_bool_int, true_and, and_true, beq_iff_eq, decide_eq_true_eq, decide_eq_false_iff_not, beq_eq_false_iff_ne, Bool.not_true, Bool.not_false, Bool.not_eq_true', Bool.not_eq_false', Nat.reduceLeDiff, Option.some.injEq, exists_eq_left', exists_eq_left, forall_const, true_imp_iff, Bool.false_eq_true, Bool.true_eq_false, false_imp_iff, reduceCtorEq, if_true, if_false, not_false_eq_true, not_true_eq_false, *])
local macro_rules | `(tactic| walk_at "env") => `(tactic| try simp only [startP, List.map, List.append, List.cons_append, List.nil_append, List.length_cons, List.length_nil, List.replicate, Nat.reduceAdd, Nat.reduceSub, List.set_cons_zero, List.set_cons_succ])
local macro_rules | `(tactic| walk_at "rd") => `(tactic| (with_reducible first
  | refine rr_seq ?_ | refine rr_asg ?_ | refine rr_n0 ?_ | refine rr_n1 ?_ | refine rr_n2 ?_ | refine rr_n3 ?_ | refine rr_n4 ?_ | refine rr_n5 ?_ | refine rr_n6 ?_ | refine rr_n7 ?_ | refine rr_n8 ?_ | refine rr_n9 ?_ | refine rr_n10 ?_ | refine rr_n11 ?_ | refine rr_n12 ?_ | refine rr_n13 ?_ | refine rr_drop ?_ | refine rr_ret ?_ | refine rr_ifs ?_ | refine rr_if ?_ | refine rr_test ?_ | refine rr_tB ?_ | refine rr_bl ?_
  | refine rr_and ?_ | refine rr_or ?_ | refine rr_not ?_ | refine rr_v0 ?_ | refine rr_v1 ?_ | refine rr_v2 ?_ | refine rr_v3 ?_ | refine rr_v4 ?_ | refine rr_v5 ?_ | refine rr_v6 ?_ | refine rr_v7 ?_ | refine rr_v8 ?_ | refine rr_v9 ?_ | refine rr_v10 ?_ | refine rr_v11 ?_ | refine rr_v12 ?_ | refine rr_v13 ?_ | refine rr_c ?_ | refine rr_op ?_ | refine rr_un ?_ | refine rr_i0 ?_ | refine rr_eqi ?_ | refine rr_nei ?_
  | refine rr_cons ?_ | refine rr_nil ?_ | refine rr_cb ?_ | refine rr_call ?_ | refine rr_tup ?_ | refine rr_lst ?_ | refine rr_lstN ?_ | refine rr_dget ?_ | refine rr_dput ?_ | refine rr_next ?_ | refine rr_int ?_ | refine rr_disp ?_ | refine rr_pcons ?_ | refine rr_pnil ?_ | refine rr_isN ?_ | refine rr_notN ?_ | refine rr_callR ?_ | refine rr_bm ?_ | refine rr_fldP ?_ | refine rr_rf ?_))
local macro_rules | `(tactic| walk_at "rds") => `(tactic| repeat walk_at "rd")

theorem ini_BadTable {K : PySem.W.Frag} {mg : Str → Option Value} {C fI : Addr} {fd : FuncData} (F : Fun K "__init__" "BadTable.__init__" (inClass (topS 5) 0) fI fd) (T : OexC K C) (nf : ∀ f : Str, f ∈ (["what"] : List Str) → PySem.W.findIn K (.ref C) f = some none) (P : Program) (w : World) (base : Heap) :
    FnOk P w K mg base CX0 1 fI fd ["self", "what"] (spI C ["what"]) := by
  have sc : FnScope ["self", "what"] ["self", "what"] (defScope (inClass (topS 5) 0)) := ⟨rfl, rfl, rfl, by decide +kernel, rfl, by decide +kernel, by decide +kernel⟩
  refine F.ok sc (fun vs H Q E h => ?_) (fun cdv A outer s H vs Q E hr h => ⟨_, (pss_one (ps_ost (pv 0) (pv 1))), ?_⟩)
  · obtain ⟨a, ws, rfl, hl, _⟩ := h
    rw [List.length_cons, hl]
    rfl
  obtain ⟨a, ws, rfl, hl, ha, k⟩ := h
  obtain ⟨v0, rfl⟩ : ∃ v0, ws = [v0] := match ws, hl with | [a], _ => ⟨a, rfl⟩
  have es : L2.start ["self", "what"] [V.ref a, v0] = [some (V.ref a), some v0] := rfl
  rw [es]
  walk_at "rds"
  refine rr_ostA T (nf _ (by simp)) rfl rfl ha fun d hd hn => ?_
  refine k d _ hd hn upd_same (by rw [upd_ne hn, upd_same]; rfl) fun b n1 n2 => by rw [upd_ne n1, upd_ne n2]

abbrev s_law_pen : Stmt := topS 51
theorem sc_law_pen : FnScope ["script", "fold", "cell"] ["script"] (defScope s_law_pen) := ⟨rfl, rfl, rfl, by decide +kernel, rfl, by decide +kernel, by decide +kernel⟩
abbrev s_law : Stmt := topS 81
theorem sc_law : FnScope ["script", "pen", "lap"] ["script"] (defScope s_law) := ⟨rfl, rfl, rfl, by decide +kernel, rfl, by decide +kernel, by decide +kernel⟩
theorem for_all {g : PTG} {B : PTS} {P : PD} (I : Ev → Prop) : ∀ {ds : List PyData} {env : Ev}, I env → (∀ d ∈ ds, ∀ (env : Ev) (N : Ev → Prop), I env → (∀ env', I env' → N env') → g (.d d) env fun env' => B { P with nx := N, ct := N, bk := P.nx } env') → (∀ env, I env → P.nx env) → pForL g B ds P env
  | [], env, h0, _, h2 => h2 env h0
  | s :: ss, env, h0, h1, h2 => h1 s List.mem_cons_self env (pForL g B ss P) h0 fun env' hi => for_all I hi (fun u hu => h1 u (List.mem_cons_of_mem _ hu)) h2
section
variable {P : Program} {w : World} {K : PySem.W.Frag} {mg : Str → Option Value} {base : Heap} {TT : List (Addr × Str)}
theorem d_pen (F : Has K mg "_law_pen" s_law_pen) (T : Blt mg) : Keeps P w K mg base CX0 1 "_law_pen" ["script"] (Lx.spPen K) := by
  refine keep0 F (fun _ _ _ _ _ _ us hl => match us, hl with | [_], _ => rfl) sc_law_pen (fun vs H Q E h => ?_) (fun f cdv A outer s H vs Q E hr hg h => ?_)
  · obtain ⟨a, ns, rfl, _⟩ := h
    rfl
  refine ⟨_, (pss_cons (ps_set (i := 1) sc_law_pen.nd rfl (.inl rfl) pe_int)
    (pss_cons (ps_for PassesOwn.never rfl (pi_list (pv 0)) (pg_name (i := 2) sc_law_pen.nd rfl (.inl rfl)) (pss_one (ps_set (i := 1) sc_law_pen.nd rfl (.inl rfl) (pe_op op_modN (pe_callTy c_int (by rfl) T.b_int (by decide +kernel) (pa_cons (pe_op op_add (pe_op op_mul (pv 1) pe_int) (pv 2)) pa_nil)) pe_int))))
    (pss_one (ps_ret (pe_disp (pps_cons pe_str (pe_callTy c_list (by rfl) T.b_list (by decide +kernel) (pa_cons (pv 0) pa_nil)) (pps_cons pe_str pe_int (pps_cons pe_str pe_int (pps_cons pe_str pe_int (pps_cons pe_str (pv 1) pps_nil))))) (by rfl) (by rfl) (fun z => by cases z) (by decide)))))), ?_⟩
  obtain ⟨a, ns, rfl, hS, k⟩ := h
  have es : L2.start ["script", "fold", "cell"] [V.ref a] = [some (V.ref a), none, none] := rfl
  rw [es]
  walk_at "rds"
  refine ⟨_, rfl, a, rfl, ⟨_, hS⟩, for_list (K := K) (a := a) (xs := ns.map V.int) (fun i σ H' => ∃ (f : Int) (v : Option V), σ = [some (.ref a), some (.int f), v] ∧ 0 ≤ f ∧ f < 1000000007 ∧ H' = H)
    ⟨0, none, rfl, by decide, by decide, rfl⟩ (fun i σ H' _ ⟨_, _, _, _, _, e⟩ => by rw [e]; exact hS) ?_ ?_⟩
  · rintro i y σ H' hi ⟨f, v, rfl, h0, h1, rfl⟩
    obtain ⟨z, rfl⟩ : ∃ z : Int, y = V.int z := by
      rw [List.getElem?_map] at hi
      cases e : ns[i]? with
      | none => rw [e] at hi; cases hi
      | some z => rw [e] at hi; exact ⟨z, (Option.some.inj hi).symm⟩
    walk_at "rds"
    refine rr_i (.inr (by decide)) ?_
    walk_at "rds"
    refine rr_i (by decide) ?_
    have b := modN (a := f * 47 + z) (b := 1000000007) (by decide)
    exact ⟨_, _, rfl, b.1, b.2, rfl⟩
  · rintro σ H' ⟨f, v, rfl, h0, h1, rfl⟩
    walk_at "rds"
    intro p hp
    walk_at "rds"
    refine rr_listL ((sameNew hp _).seq hS) fun l hl => ?_
    walk_at "rds"
    have hlp : l ≠ p := fun z => by rw [z, upd_same] at hl; cases hl
    rw [upd_ne hlp] at hl
    refine ⟨by rw [upd_ne (Ne.symm hlp), upd_same], penL l 0 0 0 f, rfl, (by show 5 ≤ 15; decide), ?_⟩
    refine k p _ ?_ hp ⟨l, ns, 0, 0, 0, f, upd_same, by rw [upd_ne hlp, upd_same], by decide, by decide, by decide, h0, by omega⟩
    intro b o e
    have n1 : b ≠ p := ne_of_none e hp
    have n2 : b ≠ l := ne_of_none e hl
    rw [upd_ne n1, upd_ne n2, upd_ne n1]
    exact e
/-- law(script) -/
def spLaw (K : PySem.W.Frag) (TT : List (Addr × Str)) : Sp := fun vs H Q _ => ∃ (a : Addr) (ns : List Int), vs = [.ref a] ∧ SqL K H a (ns.map V.int) ∧ (∀ q ∈ TT, H q.1 = some (.tbl #[])) ∧ ∀ H', Q (.bl true) H'
theorem bas0 {H : Hp} {p : Addr} {TT : List (Addr × Str)} (hp : PenOk H p) (hT : ∀ q ∈ TT, H q.1 = some (.tbl #[])) : ∃ l F, Bas ⟨p, l, TT⟩ H F F H := by
  obtain ⟨l, ns, a, d, k, f, P⟩ := hp
  have hl : ∀ b, (⟨p, l, TT⟩ : Cc).out b → b ≠ l := fun b hb z => by
    subst z
    rcases hb with hb | ⟨q, hq⟩
    · exact P.ne hb
    · have := hT _ hq
      rw [P.2.1] at this
      cases this
  refine ⟨l, fun b => if b = l then some (.lst (ns.map V.int)) else none, fun b o e => ?_, fun b hb => if_neg (hl b hb), ⟨ns, a, d, k, f, P, if_pos rfl⟩, fun q hq => LamX.TabS.nil (hT q hq), fun _ _ _ _ e => e, same_refl _, fun b n => .inl n, fun b ps e => ?_, fun b hb e => ?_⟩
  · by_cases hb : b = l
    · rw [if_pos hb] at e
      cases e
      rw [hb]
      exact P.2.1
    · rw [if_neg hb] at e
      cases e
  · by_cases hb : b = l
    · rw [if_pos hb] at e
      cases e
    · rw [if_neg hb] at e
      cases e
  · rcases hb with hb | ⟨q, hq⟩
    · have hb : b = p := hb
      have := P.1
      rw [← hb, e] at this
      cases this
    · rw [hT _ hq] at e
      cases e
theorem d_law {f : Addr} {fd : FuncData} (F : Fun K "law" "law" s_law f fd) (T : Blt mg) (D_law_pen : Keeps P w K mg base CX0 1 "_law_pen" ["script"] (Lx.spPen K)) (D_law_right : ∀ z : Addr × Addr, Kp P w K mg base ⟨z.1, z.2, TT⟩ 12 "_law_right" ["pen"] (spPen ⟨z.1, z.2, TT⟩)) : FnG P w K mg base (L2.CX P w) 13 f fd ["script"] (spLaw K TT) := by
  refine okG F sc_law (fun vs H Q E h => ?_) (fun cdv A outer s H vs Q E hr hg h => ?_)
  · obtain ⟨a, ns, rfl, _⟩ := h
    rfl
  have hrest : ∀ z : Addr × Addr, ∃ t, PSs (cxOf (L2.CX P w) P w K mg base ["script", "pen", "lap"] "law" (defScope s_law) f cdv A outer s H E) ((defBody s_law).drop 1) t ∧ ∀ (F H' : Hp) (v : Option V), Bas ⟨z.1, z.2, TT⟩ H' F F H' → t { nx := fun _ H' => Q .non H', rt := Q } [v, some (.ref z.1), none] H' := fun z => by
    obtain ⟨t, ht, hrd⟩ : PuSs (cxOf (L2.CX P w) P w K mg base ["script", "pen", "lap"] "law" (defScope s_law) f cdv A outer s H E) ⟨z.1, z.2, TT⟩ (WF E) ((defBody s_law).drop 1) _ := (pus_cons (pus_for passF rfl (pui_range1 T.b_range (pa_cons' pu_int pa_nil')) (pug_name (i := 2) sc_law.nd) (pus_one (pus_if (pt_not' (pt_val' (pu_call (D_law_right z) hr hg takesF (pa_cons' (pu_var 1) pa_nil')))) (pus_one (pus_ret pu_bl)) pus_nil)))
    (pus_one (pus_ret pu_bl)))
    refine ⟨t, ht, fun F H' v B => hrd H' F [none, some (.raw (.ref z.1)), none] F _ H' _ (pdOf (fun s => s = .d (.bool true)) fun _ _ => False) ⟨B, rfl, fun i ov s e1 e2 => ?_, fun i j q xs ys e1 _ _ _ => ?_⟩ ⟨?_, ?_, ?_, ?_, ?_⟩ ?_⟩
    · match i, e1, e2 with
      | 0, _, e2 => cases e2; exact True.intro
      | 1, e1, e2 => cases e1; cases e2; rfl
      | 2, _, e2 => cases e2; exact True.intro
      | i + 3, _, e2 => cases e2
    · match i, e1 with
      | 0, e1 => cases e1
      | 1, e1 => cases e1
      | 2, e1 => cases e1
      | i + 3, e1 => cases e1
    · exact fun _ _ _ _ _ _ z => by cases z
    · obtain ⟨a, ns, _, _, _, fin⟩ := h
      rintro v s F' H2 _ rv rfl
      cases rv
      exact fin H2
    · exact fun _ _ _ _ _ _ z => z.elim
    · exact fun _ _ _ _ _ _ z => z.elim
    · exact fun _ _ _ _ _ _ _ _ _ z => z.elim
    · refine for_step (rangeD 0 3) (fun R hR => ⟨by decide, by decide, hR⟩) (for_all (fun env => ∃ s2, env = [none, some (.raw (.ref z.1)), s2]) ⟨_, rfl⟩ (fun d _ env N hi hN => ?_) fun env hi => ?_)
      · obtain ⟨s2, rfl⟩ := hi
        refine if_last false (fun R' hR => not_no' (fun R' hR => ?_) hR) (fun z => Bool.noConfusion z) fun _ => hN _ ⟨_, rfl⟩
        walk_at "pv"
        exact ⟨rfl, hR⟩
      · obtain ⟨s2, rfl⟩ := hi
        exact rfl
  refine ⟨_, pss_cons (ps_set (i := 1) sc_law.nd rfl (.inl rfl) (pc0 D_law_pen hr hg (pa_cons (pv 0) pa_nil))) (⟨fun pins s' σ H' D I z => ?_⟩ : PSs _ _ fun D σ H' => ∃ z, (hrest z).choose D σ H'), ?_⟩
  · obtain ⟨p, z⟩ := z
    exact (hrest p).choose_spec.1.run pins s' σ H' D I z
  obtain ⟨a, ns, rfl, hS, hT, fin⟩ := h
  have es : L2.start ["script", "pen", "lap"] [V.ref a] = [some (V.ref a), none, none] := rfl
  rw [es]
  walk_at "rds"
  refine ⟨a, ns, rfl, hS, fun p H' s1 hp hpen => ?_⟩
  walk_at "rds"
  obtain ⟨l, F, B⟩ := bas0 (TT := TT) hpen fun q hq => s1 _ _ (hT q hq)
  exact ⟨(p, l), (hrest (p, l)).choose_spec.2 F H' _ B⟩
end
end K11
namespace K11
open PySem PySem.Spec PyProof.Rows L2 Lx Px
def chkAll (K : PySem.W.Frag) (S : Addr) (cs : List Addr) : Bool := cs.all fun c => xcB K c && decide (PySem.W.kitOne K (.ref c) (.type "ValueError") = some true) && decide (PySem.W.subIn K (.ref c) (.ref S) = some true) &&
  cs.all fun d => decide (PySem.W.kitOne K (.ref c) (.ref d) = some (decide (c = d)))
theorem chk_at {K : PySem.W.Frag} {S c : Addr} {cs : List Addr} (h : chkAll K S cs = true) (hc : c ∈ cs) : XcF K c ∧ PySem.W.kitOne K (.ref c) (.type "ValueError") = some true ∧ PySem.W.subIn K (.ref c) (.ref S) = some true ∧ ∀ d ∈ cs, PySem.W.kitOne K (.ref c) (.ref d) = some (decide (c = d)) := by
  have z := List.all_eq_true.mp h c hc
  simp only [Bool.and_eq_true, decide_eq_true_eq, List.all_eq_true] at z
  exact ⟨xcB_ok z.1.1.1, z.1.1.2, z.1.2, z.2⟩
theorem nodup_at {α : Type} : ∀ {l : List α} {i j : Nat} {x : α}, l.Nodup → l[i]? = some x → l[j]? = some x → i = j := by
  intro l i j x hn hi hj
  rcases Nat.lt_trichotomy i j with h | h | h
  · obtain ⟨hi', ei⟩ := List.getElem?_eq_some_iff.mp hi
    obtain ⟨hj', ej⟩ := List.getElem?_eq_some_iff.mp hj
    exact absurd (ei.trans ej.symm) (List.pairwise_iff_getElem.mp hn i j hi' hj' h)
  · exact h
  · obtain ⟨hi', ei⟩ := List.getElem?_eq_some_iff.mp hi
    obtain ⟨hj', ej⟩ := List.getElem?_eq_some_iff.mp hj
    exact absurd (ej.trans ei.symm) (List.pairwise_iff_getElem.mp hn j i hj' hi' h)
theorem oex_at {K : PySem.W.Frag} {c N : Addr} {nm qn : Str} {bs bm sb : List Value} {sn : List Str} {ab : Bool} {co : Option Bool} {dd : Option Addr} {ma mb mc md me : Option Value} (x : K.lookup c = some (excClassObj nm qn c N bs bm true sn sb ab co dd ma mb mc md me "ValueError.__new__")) (r : PySem.HandSPX.refsVE bm = true)
    (sa : PySem.W.findIn K (.ref c) "__setattr__" = some (some (.builtin "object.__setattr__"))) (xf : XcF K c) (ty : PySem.W.typeIn K (.ref c) = some (.type "type")) (kc : PySem.W.keepIn K (.ref c) = true) : OexC K c :=
  { cls := ⟨nm, qn, N, bs, bm, sn, sb, ab, co, dd, ma, mb, mc, md, me, x, r⟩, sa := sa, exC := xf.ex, tyC := ty, kC := kc }
def csOf (cs : List Addr) (i : Nat) : Addr := cs.getD i 0
theorem csOf_mem {cs : List Addr} (hl : cs.length = 16) {i : Nat} (h : i < 16) : csOf cs i ∈ cs := by
  unfold csOf
  rw [List.getD_eq_getElem?_getD, List.getElem?_eq_getElem (by omega)]
  exact List.getElem_mem _
theorem tc_mk {K : PySem.W.Frag} {mg : Str → Option Value} {S : Addr} {cs : List Addr} (hl : cs.length = 16) (chk : chkAll K S cs = true) (nd : cs.Nodup) (tS : PySem.W.typeIn K (.ref S) = some (.type "type")) (hS : PySem.W.hasDictIn K S = true) (bS : PySem.W.subIn K (.ref S) (.type "BaseException") = some true)
    (gS : mg "StepError" = some (.ref S)) (gA : ∀ i x fs, tab[i]? = some (x, fs) → mg x = some (.ref (csOf cs i))) (nfA : ∀ i x fs, tab[i]? = some (x, fs) → ∀ f ∈ fs, PySem.W.findIn K (.ref (csOf cs i)) f = some none) : Tc K mg S tab (csOf cs) := by
  have cm : ∀ i, i < 16 → csOf cs i ∈ cs := fun i hi => csOf_mem hl hi
  refine ⟨fun i hi => (chk_at chk (cm i hi)).1, fun i j hi hj => (chk_at chk (cm i hi)).2.2.2 _ (cm j hj), fun i j hi hj z => ?_, fun i hi => (chk_at chk (cm i hi)).2.1, fun i hi => PySem.W.exm_ref bS hS tS (chk_at chk (cm i hi)).2.2.1, gS, gA, nfA⟩
  have hg : ∀ i, i < 16 → cs[i]? = some (csOf cs i) := fun i hi => by
    unfold csOf
    rw [List.getD_eq_getElem?_getD, List.getElem?_eq_getElem (by omega)]
    rfl
  exact nodup_at nd (hg i hi) (by rw [z]; exact hg j hj)
theorem mk_un {TT : List (Addr × Str)} {tk : Addr} {x : Str} (nd : (TT.map (·.1)).Nodup) (h : (tk, x) ∈ TT) : ∀ z ∈ TT, z.1 = tk → z.2 = x := fun z hz e => by
  obtain ⟨i, hi⟩ := List.getElem?_of_mem h
  obtain ⟨j, hj⟩ := List.getElem?_of_mem hz
  have e1 : (TT.map (·.1))[i]? = some tk := by rw [List.getElem?_map, hi]; rfl
  have e2 : (TT.map (·.1))[j]? = some tk := by rw [List.getElem?_map, hj]; exact congrArg some e
  have := nodup_at nd e1 e2
  subst this
  rw [hi] at hj
  cases hj
  rfl
theorem tab_same {h : Heap} {K : PySem.W.Frag} (X : K.In h) {c P tk : Addr} {oo : Value} {oq : Option Addr} {vs : Array Value} {os : Array (Option Value)} (C : PySem.W.CodeHd h c P) (o : K.lookup c = some ⟨oo, oq, .fields vs, os⟩) (p : vs[11]? = some (.ref tk)) : P = tk := by
  obtain ⟨o', us, f1, f2, f3, f4, f5, f6, f7, e1, r1, r2, r3, _⟩ := C
  have e2 := X _ _ o
  rw [e1] at e2
  cases e2
  cases r2
  rw [p] at r3
  exact (Value.ref.inj (Option.some.inj r3)).symm
theorem mak_at {h : Heap} {K : PySem.W.Frag} (X : K.In h) {f f' c P ck tk : Addr} {fd : FuncData} {oc : Value} {od : Option Addr} {sl : Array (Option Value)} {oo : Value} {oq : Option Addr} {vs : Array Value} {os : Array (Option Value)} (M : MakT h f' c P) (hf : f' = f) (l : K.lookup f = some ⟨oc, od, .func fd, sl⟩) (hc : fd.code = .ref ck)
    (o : K.lookup ck = some ⟨oo, oq, .fields vs, os⟩) (p : vs[11]? = some (.ref tk)) : PySem.W.CodeHd h ck tk ∧ h.get? tk = some tab0 := by
  subst hf
  obtain ⟨⟨o1, fd1, e1, e2, e3⟩, C, t⟩ := M
  have e4 := X _ _ l
  rw [e1] at e4
  cases e4
  cases e2
  rw [hc] at e3
  cases e3
  cases tab_same X C o p
  exact ⟨C, t⟩
theorem is_zero {P : Program} {w : World} {K : PySem.W.Frag} {mg : Str → Option Value} {base : Heap} {c : Cc} (F : Has K mg "_law_is" s_law_is) : Kp P w K mg base c 0 "_law_is" ["told", "due"] (spIsD 0) := by
  obtain ⟨f, fd, G, r⟩ := (kp_never (P := P) (w := w) (base := base) (c := c) F (fun _ _ _ _ _ _ us hl => match us, hl with | [_, _], _ => rfl) : Kp P w K mg base c 0 "_law_is" ["told", "due"] spNever)
  exact ⟨f, fd, Px.FnG.imp G fun vs H Q E q => lift_imp (fun ss R EX z => by obtain ⟨d, _, z, _⟩ := z; exact z.elim) q, r⟩
/-- law(script), the tables told -/
def spLawT (K : PySem.W.Frag) (ts : List Addr) : Sp := fun vs H Q _ => ∃ (a : Addr) (ns : List Int), vs = [.ref a] ∧ SqL K H a (ns.map V.int) ∧ (∀ q ∈ ts, H q = some (.tbl #[])) ∧ ∀ H', Q (.bl true) H'
theorem all_mk {l : PySem.W.OpenLaw} {w : World} {K : PySem.W.Frag} {h : Heap} {mg : Str → Option Value} {fa : Addr} (X : K.In h) (G : h.Ns mainGlobals mg) (hfa : mg "law" = some (.ref fa)) (mks : ∀ y ∈ (["_law_one", "_law_two", "_law_more"] : List Str), ∃ f c P, mg y = some (.ref f) ∧ MakT h f c P)
    {S c0 c1 c2 c3 c4 c5 c6 c7 c8 c9 c10 c11 c12 c13 c14 c15 f0 f1 f2 f3 f4 f5 f6 f7 f8 f9 f10 f11 f12 f13 f14 f15 f16 f17 f18 f19 f20 f21 f22 f23 f24 f25 f26 f27 f28 f29 f30 f31 f32 f33 f34 f35 f36 f37 f38 f39 f40 f41 f42 f43 f44 f45 f46 f47 f48 f49 f50 f51 f52 f53 f54 f55 f56 : Addr}
    {oc0 kV0 dc0 pm0 cd0 ct0 : Value} {od0 an0 : Option Addr} {sl0 : Array (Option Value)}
    {oc1 kV1 dc1 pm1 cd1 ct1 : Value} {od1 an1 : Option Addr} {sl1 : Array (Option Value)}
    {oc2 kV2 dc2 pm2 cd2 ct2 : Value} {od2 an2 : Option Addr} {sl2 : Array (Option Value)}
    {oc3 kV3 dc3 pm3 cd3 ct3 : Value} {od3 an3 : Option Addr} {sl3 : Array (Option Value)}
    {oc4 kV4 dc4 pm4 cd4 ct4 : Value} {od4 an4 : Option Addr} {sl4 : Array (Option Value)}
    {oc5 kV5 dc5 pm5 cd5 ct5 : Value} {od5 an5 : Option Addr} {sl5 : Array (Option Value)}
    {oc6 kV6 dc6 pm6 cd6 ct6 : Value} {od6 an6 : Option Addr} {sl6 : Array (Option Value)}
    {oc7 kV7 dc7 pm7 cd7 ct7 : Value} {od7 an7 : Option Addr} {sl7 : Array (Option Value)}
    {oc8 kV8 dc8 pm8 cd8 ct8 : Value} {od8 an8 : Option Addr} {sl8 : Array (Option Value)}
    {oc9 kV9 dc9 pm9 cd9 ct9 : Value} {od9 an9 : Option Addr} {sl9 : Array (Option Value)}
    {oc10 kV10 dc10 pm10 cd10 ct10 : Value} {od10 an10 : Option Addr} {sl10 : Array (Option Value)}
    {oc11 kV11 dc11 pm11 cd11 ct11 : Value} {od11 an11 : Option Addr} {sl11 : Array (Option Value)}
    {oc12 kV12 dc12 pm12 cd12 ct12 : Value} {od12 an12 : Option Addr} {sl12 : Array (Option Value)}
    {oc13 kV13 dc13 pm13 cd13 ct13 : Value} {od13 an13 : Option Addr} {sl13 : Array (Option Value)}
    {oc14 kV14 dc14 pm14 cd14 ct14 : Value} {od14 an14 : Option Addr} {sl14 : Array (Option Value)}
    {oc15 kV15 dc15 pm15 cd15 ct15 : Value} {od15 an15 : Option Addr} {sl15 : Array (Option Value)}
    {oc16 kV16 dc16 pm16 cd16 ct16 : Value} {od16 an16 : Option Addr} {sl16 : Array (Option Value)}
    {oc17 kV17 dc17 pm17 cd17 ct17 : Value} {od17 an17 : Option Addr} {sl17 : Array (Option Value)}
    {oc18 kV18 dc18 pm18 cd18 ct18 : Value} {od18 an18 : Option Addr} {sl18 : Array (Option Value)}
    {oc19 kV19 dc19 pm19 cd19 ct19 : Value} {od19 an19 : Option Addr} {sl19 : Array (Option Value)}
    {oc20 kV20 dc20 pm20 cd20 ct20 : Value} {od20 an20 : Option Addr} {sl20 : Array (Option Value)}
    {oc21 kV21 dc21 pm21 cd21 ct21 : Value} {od21 an21 : Option Addr} {sl21 : Array (Option Value)}
    {oc22 kV22 dc22 pm22 cd22 ct22 : Value} {od22 an22 : Option Addr} {sl22 : Array (Option Value)}
    {oc23 kV23 dc23 pm23 cd23 ct23 : Value} {od23 an23 : Option Addr} {sl23 : Array (Option Value)}
    {oc24 kV24 dc24 pm24 cd24 ct24 : Value} {od24 an24 : Option Addr} {sl24 : Array (Option Value)}
    {oc25 kV25 dc25 pm25 cd25 ct25 : Value} {od25 an25 : Option Addr} {sl25 : Array (Option Value)}
    {oc26 kV26 dc26 pm26 cd26 ct26 : Value} {od26 an26 : Option Addr} {sl26 : Array (Option Value)}
    {oc27 kV27 dc27 pm27 cd27 ct27 : Value} {od27 an27 : Option Addr} {sl27 : Array (Option Value)}
    {oc28 kV28 dc28 pm28 cd28 ct28 : Value} {od28 an28 : Option Addr} {sl28 : Array (Option Value)}
    {oc29 kV29 dc29 pm29 cd29 ct29 : Value} {od29 an29 : Option Addr} {sl29 : Array (Option Value)}
    {oc30 kV30 dc30 pm30 cd30 ct30 : Value} {od30 an30 : Option Addr} {sl30 : Array (Option Value)}
    {oc31 kV31 dc31 pm31 cd31 ct31 : Value} {od31 an31 : Option Addr} {sl31 : Array (Option Value)}
    {oc32 kV32 dc32 pm32 cd32 ct32 : Value} {od32 an32 : Option Addr} {sl32 : Array (Option Value)}
    {oc33 kV33 dc33 pm33 cd33 ct33 : Value} {od33 an33 : Option Addr} {sl33 : Array (Option Value)}
    {oc34 kV34 dc34 pm34 cd34 ct34 : Value} {od34 an34 : Option Addr} {sl34 : Array (Option Value)}
    {oc35 kV35 dc35 pm35 cd35 ct35 : Value} {od35 an35 : Option Addr} {sl35 : Array (Option Value)}
    {oc36 kV36 dc36 pm36 cd36 ct36 : Value} {od36 an36 : Option Addr} {sl36 : Array (Option Value)}
    {oc37 kV37 dc37 pm37 cd37 ct37 : Value} {od37 an37 : Option Addr} {sl37 : Array (Option Value)}
    {oc38 kV38 dc38 pm38 cd38 ct38 : Value} {od38 an38 : Option Addr} {sl38 : Array (Option Value)}
    {oc39 kV39 dc39 pm39 cd39 ct39 : Value} {od39 an39 : Option Addr} {sl39 : Array (Option Value)}
    {oc40 kV40 dc40 pm40 cd40 ct40 : Value} {od40 an40 : Option Addr} {sl40 : Array (Option Value)}
    {oc41 kV41 dc41 pm41 cd41 ct41 : Value} {od41 an41 : Option Addr} {sl41 : Array (Option Value)}
    {oc42 kV42 dc42 pm42 cd42 ct42 : Value} {od42 an42 : Option Addr} {sl42 : Array (Option Value)}
    {oc43 kV43 dc43 pm43 cd43 ct43 : Value} {od43 an43 : Option Addr} {sl43 : Array (Option Value)}
    {oc44 kV44 dc44 pm44 cd44 ct44 : Value} {od44 an44 : Option Addr} {sl44 : Array (Option Value)}
    {oc45 kV45 dc45 pm45 cd45 ct45 : Value} {od45 an45 : Option Addr} {sl45 : Array (Option Value)}
    {oc46 kV46 dc46 pm46 cd46 ct46 : Value} {od46 an46 : Option Addr} {sl46 : Array (Option Value)}
    {oc47 kV47 dc47 pm47 cd47 ct47 : Value} {od47 an47 : Option Addr} {sl47 : Array (Option Value)}
    {oc48 kV48 dc48 pm48 cd48 ct48 : Value} {od48 an48 : Option Addr} {sl48 : Array (Option Value)}
    {oc49 kV49 dc49 pm49 cd49 ct49 : Value} {od49 an49 : Option Addr} {sl49 : Array (Option Value)}
    {oc50 kV50 dc50 pm50 cd50 ct50 : Value} {od50 an50 : Option Addr} {sl50 : Array (Option Value)}
    {ck51 tk51 : Addr} {oo51 : Value} {oq51 : Option Addr} {vs51 : Array Value} {os51 : Array (Option Value)}
    {oc51 kV51 dc51 pm51 ct51 : Value} {od51 an51 : Option Addr} {sl51 : Array (Option Value)}
    {ck52 tk52 : Addr} {oo52 : Value} {oq52 : Option Addr} {vs52 : Array Value} {os52 : Array (Option Value)}
    {oc52 kV52 dc52 pm52 ct52 : Value} {od52 an52 : Option Addr} {sl52 : Array (Option Value)}
    {ck53 tk53 : Addr} {oo53 : Value} {oq53 : Option Addr} {vs53 : Array Value} {os53 : Array (Option Value)}
    {oc53 kV53 dc53 pm53 ct53 : Value} {od53 an53 : Option Addr} {sl53 : Array (Option Value)}
    {oc54 kV54 dc54 pm54 cd54 ct54 : Value} {od54 an54 : Option Addr} {sl54 : Array (Option Value)}
    {oc55 kV55 dc55 pm55 cd55 ct55 : Value} {od55 an55 : Option Addr} {sl55 : Array (Option Value)}
    {oc56 kV56 dc56 pm56 cd56 ct56 : Value} {od56 an56 : Option Addr} {sl56 : Array (Option Value)}
    {e0 N0 : Addr} {nm0 qn0 : Str} {bs0 bm0 sb0 : List Value} {sn0 : List Str} {ab0 : Bool} {co0 : Option Bool} {dd0 : Option Addr} {ma0 mb0 mc0 md0 me0 : Option Value}
    {ec0 eV0 ed0 ep0 eq0 et0 : Value} {eo0 ea0 : Option Addr} {es0 : Array (Option Value)}
    {e1 N1 : Addr} {nm1 qn1 : Str} {bs1 bm1 sb1 : List Value} {sn1 : List Str} {ab1 : Bool} {co1 : Option Bool} {dd1 : Option Addr} {ma1 mb1 mc1 md1 me1 : Option Value}
    {ec1 eV1 ed1 ep1 eq1 et1 : Value} {eo1 ea1 : Option Addr} {es1 : Array (Option Value)}
    {e2 N2 : Addr} {nm2 qn2 : Str} {bs2 bm2 sb2 : List Value} {sn2 : List Str} {ab2 : Bool} {co2 : Option Bool} {dd2 : Option Addr} {ma2 mb2 mc2 md2 me2 : Option Value}
    {ec2 eV2 ed2 ep2 eq2 et2 : Value} {eo2 ea2 : Option Addr} {es2 : Array (Option Value)}
    {tk_MOST_STAGES : Tok}
    {SSteps : Addr}
    {sStepsinit : Addr} {ocStepsinit kVStepsinit dcStepsinit pmStepsinit cdStepsinit ctStepsinit : Value} {odStepsinit anStepsinit : Option Addr} {slStepsinit : Array (Option Value)}
    {sStepseq : Addr} {ocStepseq kVStepseq dcStepseq pmStepseq cdStepseq ctStepseq : Value} {odStepseq anStepseq : Option Addr} {slStepseq : Array (Option Value)}
    (aS : PySem.W.nsIn K mainGlobals "StepError" = some (some (.ref S)))
    (a0 : PySem.W.nsIn K mainGlobals "BadNumber" = some (some (.ref c0)))
    (a1 : PySem.W.nsIn K mainGlobals "BadRow" = some (some (.ref c1)))
    (a2 : PySem.W.nsIn K mainGlobals "BadTable" = some (some (.ref c2)))
    (a3 : PySem.W.nsIn K mainGlobals "BadTree" = some (some (.ref c3)))
    (a4 : PySem.W.nsIn K mainGlobals "BadBook" = some (some (.ref c4)))
    (a5 : PySem.W.nsIn K mainGlobals "BadName" = some (some (.ref c5)))
    (a6 : PySem.W.nsIn K mainGlobals "BadText" = some (some (.ref c6)))
    (a7 : PySem.W.nsIn K mainGlobals "NoPlace" = some (some (.ref c7)))
    (a8 : PySem.W.nsIn K mainGlobals "NoName" = some (some (.ref c8)))
    (a9 : PySem.W.nsIn K mainGlobals "TakenName" = some (some (.ref c9)))
    (a10 : PySem.W.nsIn K mainGlobals "Unlike" = some (some (.ref c10)))
    (a11 : PySem.W.nsIn K mainGlobals "NotThere" = some (some (.ref c11)))
    (a12 : PySem.W.nsIn K mainGlobals "TooMany" = some (some (.ref c12)))
    (a13 : PySem.W.nsIn K mainGlobals "NotKept" = some (some (.ref c13)))
    (a14 : PySem.W.nsIn K mainGlobals "NothingToUndo" = some (some (.ref c14)))
    (a15 : PySem.W.nsIn K mainGlobals "NothingToRedo" = some (some (.ref c15)))
    (g0 : PySem.W.nsIn K mainGlobals "is_integer" = some (some (.ref f0)))
    (g1 : PySem.W.nsIn K mainGlobals "is_ratio" = some (some (.ref f1)))
    (g2 : PySem.W.nsIn K mainGlobals "pair" = some (some (.ref f2)))
    (g3 : PySem.W.nsIn K mainGlobals "in_lowest" = some (some (.ref f3)))
    (g4 : PySem.W.nsIn K mainGlobals "added" = some (some (.ref f4)))
    (g5 : PySem.W.nsIn K mainGlobals "opposite" = some (some (.ref f5)))
    (g6 : PySem.W.nsIn K mainGlobals "multiplied" = some (some (.ref f6)))
    (g7 : PySem.W.nsIn K mainGlobals "less_by" = some (some (.ref f7)))
    (g8 : PySem.W.nsIn K mainGlobals "is_list" = some (some (.ref f8)))
    (g9 : PySem.W.nsIn K mainGlobals "is_row" = some (some (.ref f9)))
    (g10 : PySem.W.nsIn K mainGlobals "is_indexes" = some (some (.ref f10)))
    (g11 : PySem.W.nsIn K mainGlobals "is_all_numbers" = some (some (.ref f11)))
    (g12 : PySem.W.nsIn K mainGlobals "need_steps" = some (some (.ref f12)))
    (g13 : PySem.W.nsIn K mainGlobals "total" = some (some (.ref f13)))
    (g14 : PySem.W.nsIn K mainGlobals "nodes_by" = some (some (.ref f14)))
    (g15 : PySem.W.nsIn K mainGlobals "nodes" = some (some (.ref f15)))
    (g16 : PySem.W.nsIn K mainGlobals "is_explicit_by" = some (some (.ref f16)))
    (g17 : PySem.W.nsIn K mainGlobals "is_explicit" = some (some (.ref f17)))
    (g18 : PySem.W.nsIn K mainGlobals "renumbered_by" = some (some (.ref f18)))
    (g19 : PySem.W.nsIn K mainGlobals "renumbered" = some (some (.ref f19)))
    (g20 : PySem.W.nsIn K mainGlobals "scaled_by" = some (some (.ref f20)))
    (g21 : PySem.W.nsIn K mainGlobals "scaled" = some (some (.ref f21)))
    (g22 : PySem.W.nsIn K mainGlobals "turned_back_by" = some (some (.ref f22)))
    (g23 : PySem.W.nsIn K mainGlobals "turned_back" = some (some (.ref f23)))
    (g24 : PySem.W.nsIn K mainGlobals "undone_by" = some (some (.ref f24)))
    (g25 : PySem.W.nsIn K mainGlobals "undone" = some (some (.ref f25)))
    (g26 : PySem.W.nsIn K mainGlobals "_law_draw" = some (some (.ref f26)))
    (g27 : PySem.W.nsIn K mainGlobals "_law_pick" = some (some (.ref f27)))
    (g28 : PySem.W.nsIn K mainGlobals "_law_shuffled" = some (some (.ref f28)))
    (g29 : PySem.W.nsIn K mainGlobals "_law_is" = some (some (.ref f29)))
    (g30 : PySem.W.nsIn K mainGlobals "_law_says" = some (some (.ref f30)))
    (g31 : PySem.W.nsIn K mainGlobals "_law_divisor" = some (some (.ref f31)))
    (g32 : PySem.W.nsIn K mainGlobals "_law_low" = some (some (.ref f32)))
    (g33 : PySem.W.nsIn K mainGlobals "_law_pair" = some (some (.ref f33)))
    (g34 : PySem.W.nsIn K mainGlobals "_law_plus" = some (some (.ref f34)))
    (g35 : PySem.W.nsIn K mainGlobals "_law_opposite" = some (some (.ref f35)))
    (g36 : PySem.W.nsIn K mainGlobals "_law_minus" = some (some (.ref f36)))
    (g37 : PySem.W.nsIn K mainGlobals "_law_times" = some (some (.ref f37)))
    (g38 : PySem.W.nsIn K mainGlobals "_law_number" = some (some (.ref f38)))
    (g39 : PySem.W.nsIn K mainGlobals "_law_wide" = some (some (.ref f39)))
    (g40 : PySem.W.nsIn K mainGlobals "_law_size" = some (some (.ref f40)))
    (g41 : PySem.W.nsIn K mainGlobals "_law_odd" = some (some (.ref f41)))
    (g42 : PySem.W.nsIn K mainGlobals "_law_kinds" = some (some (.ref f42)))
    (g43 : PySem.W.nsIn K mainGlobals "_law_more_kinds" = some (some (.ref f43)))
    (g44 : PySem.W.nsIn K mainGlobals "_law_fraction" = some (some (.ref f44)))
    (g45 : PySem.W.nsIn K mainGlobals "_law_table" = some (some (.ref f45)))
    (g46 : PySem.W.nsIn K mainGlobals "_law_is_steps" = some (some (.ref f46)))
    (g47 : PySem.W.nsIn K mainGlobals "_law_sum" = some (some (.ref f47)))
    (g48 : PySem.W.nsIn K mainGlobals "_law_right" = some (some (.ref f48)))
    (g49 : PySem.W.nsIn K mainGlobals "_law_made" = some (some (.ref f49)))
    (g50 : PySem.W.nsIn K mainGlobals "_law_refused" = some (some (.ref f50)))
    (g51 : PySem.W.nsIn K mainGlobals "_law_one" = some (some (.ref f51)))
    (g52 : PySem.W.nsIn K mainGlobals "_law_two" = some (some (.ref f52)))
    (g53 : PySem.W.nsIn K mainGlobals "_law_more" = some (some (.ref f53)))
    (g54 : PySem.W.nsIn K mainGlobals "_law_pen" = some (some (.ref f54)))
    (g55 : PySem.W.nsIn K mainGlobals "_law_fault" = some (some (.ref f55)))
    (g56 : PySem.W.nsIn K mainGlobals "law" = some (some (.ref f56)))
    (z_int : PySem.W.nsIn K mainGlobals "int" = some none)
    (z_bool : PySem.W.nsIn K mainGlobals "bool" = some none)
    (z_str : PySem.W.nsIn K mainGlobals "str" = some none)
    (z_list : PySem.W.nsIn K mainGlobals "list" = some none)
    (z_tuple : PySem.W.nsIn K mainGlobals "tuple" = some none)
    (z_len : PySem.W.nsIn K mainGlobals "len" = some none)
    (z_range : PySem.W.nsIn K mainGlobals "range" = some none)
    (z_repr : PySem.W.nsIn K mainGlobals "repr" = some none)
    (z_isinstance : PySem.W.nsIn K mainGlobals "isinstance" = some none)
    (z_abs : PySem.W.nsIn K mainGlobals "abs" = some none)
    (z_all : PySem.W.nsIn K mainGlobals "all" = some none)
    (z_zip : PySem.W.nsIn K mainGlobals "zip" = some none)
    (z_ValueError : PySem.W.nsIn K mainGlobals "ValueError" = some none)
    (z_gcd : PySem.W.nsIn K mainGlobals "gcd" = some (some (.builtin "math.gcd")))
    (l0 : K.lookup f0 = some ⟨oc0, od0, .func (PySem.W.fnOf "is_integer" "is_integer" (defArgs s_is_integer) (defBody s_is_integer) (defScope s_is_integer) .none kV0 dc0 pm0 an0 cd0 ct0), sl0⟩)
    (d0 : PySem.W.codeIn K cd0 "is_integer" = true)
    (k0 : PySem.W.keepIn K (.ref f0) = true)
    (l1 : K.lookup f1 = some ⟨oc1, od1, .func (PySem.W.fnOf "is_ratio" "is_ratio" (defArgs s_is_ratio) (defBody s_is_ratio) (defScope s_is_ratio) .none kV1 dc1 pm1 an1 cd1 ct1), sl1⟩)
    (d1 : PySem.W.codeIn K cd1 "is_ratio" = true)
    (k1 : PySem.W.keepIn K (.ref f1) = true)
    (l2 : K.lookup f2 = some ⟨oc2, od2, .func (PySem.W.fnOf "pair" "pair" (defArgs s_pair) (defBody s_pair) (defScope s_pair) .none kV2 dc2 pm2 an2 cd2 ct2), sl2⟩)
    (d2 : PySem.W.codeIn K cd2 "pair" = true)
    (k2 : PySem.W.keepIn K (.ref f2) = true)
    (l3 : K.lookup f3 = some ⟨oc3, od3, .func (PySem.W.fnOf "in_lowest" "in_lowest" (defArgs s_in_lowest) (defBody s_in_lowest) (defScope s_in_lowest) .none kV3 dc3 pm3 an3 cd3 ct3), sl3⟩)
    (d3 : PySem.W.codeIn K cd3 "in_lowest" = true)
    (k3 : PySem.W.keepIn K (.ref f3) = true)
    (l4 : K.lookup f4 = some ⟨oc4, od4, .func (PySem.W.fnOf "added" "added" (defArgs s_added) (defBody s_added) (defScope s_added) .none kV4 dc4 pm4 an4 cd4 ct4), sl4⟩)
    (d4 : PySem.W.codeIn K cd4 "added" = true)
    (k4 : PySem.W.keepIn K (.ref f4) = true)
    (l5 : K.lookup f5 = some ⟨oc5, od5, .func (PySem.W.fnOf "opposite" "opposite" (defArgs s_opposite) (defBody s_opposite) (defScope s_opposite) .none kV5 dc5 pm5 an5 cd5 ct5), sl5⟩)
    (d5 : PySem.W.codeIn K cd5 "opposite" = true)
    (k5 : PySem.W.keepIn K (.ref f5) = true)
    (l6 : K.lookup f6 = some ⟨oc6, od6, .func (PySem.W.fnOf "multiplied" "multiplied" (defArgs s_multiplied) (defBody s_multiplied) (defScope s_multiplied) .none kV6 dc6 pm6 an6 cd6 ct6), sl6⟩)
    (d6 : PySem.W.codeIn K cd6 "multiplied" = true)
    (k6 : PySem.W.keepIn K (.ref f6) = true)
    (l7 : K.lookup f7 = some ⟨oc7, od7, .func (PySem.W.fnOf "less_by" "less_by" (defArgs s_less_by) (defBody s_less_by) (defScope s_less_by) .none kV7 dc7 pm7 an7 cd7 ct7), sl7⟩)
    (d7 : PySem.W.codeIn K cd7 "less_by" = true)
    (k7 : PySem.W.keepIn K (.ref f7) = true)
    (l8 : K.lookup f8 = some ⟨oc8, od8, .func (PySem.W.fnOf "is_list" "is_list" (defArgs s_is_list) (defBody s_is_list) (defScope s_is_list) .none kV8 dc8 pm8 an8 cd8 ct8), sl8⟩)
    (d8 : PySem.W.codeIn K cd8 "is_list" = true)
    (k8 : PySem.W.keepIn K (.ref f8) = true)
    (l9 : K.lookup f9 = some ⟨oc9, od9, .func (PySem.W.fnOf "is_row" "is_row" (defArgs s_is_row) (defBody s_is_row) (defScope s_is_row) .none kV9 dc9 pm9 an9 cd9 ct9), sl9⟩)
    (d9 : PySem.W.codeIn K cd9 "is_row" = true)
    (k9 : PySem.W.keepIn K (.ref f9) = true)
    (l10 : K.lookup f10 = some ⟨oc10, od10, .func (PySem.W.fnOf "is_indexes" "is_indexes" (defArgs s_is_indexes) (defBody s_is_indexes) (defScope s_is_indexes) .none kV10 dc10 pm10 an10 cd10 ct10), sl10⟩)
    (d10 : PySem.W.codeIn K cd10 "is_indexes" = true)
    (k10 : PySem.W.keepIn K (.ref f10) = true)
    (l11 : K.lookup f11 = some ⟨oc11, od11, .func (PySem.W.fnOf "is_all_numbers" "is_all_numbers" (defArgs s_is_all_numbers) (defBody s_is_all_numbers) (defScope s_is_all_numbers) .none kV11 dc11 pm11 an11 cd11 ct11), sl11⟩)
    (d11 : PySem.W.codeIn K cd11 "is_all_numbers" = true)
    (k11 : PySem.W.keepIn K (.ref f11) = true)
    (l12 : K.lookup f12 = some ⟨oc12, od12, .func (PySem.W.fnOf "need_steps" "need_steps" (defArgs s_need_steps) (defBody s_need_steps) (defScope s_need_steps) .none kV12 dc12 pm12 an12 cd12 ct12), sl12⟩)
    (d12 : PySem.W.codeIn K cd12 "need_steps" = true)
    (k12 : PySem.W.keepIn K (.ref f12) = true)
    (l13 : K.lookup f13 = some ⟨oc13, od13, .func (PySem.W.fnOf "total" "total" (defArgs s_total) (defBody s_total) (defScope s_total) .none kV13 dc13 pm13 an13 cd13 ct13), sl13⟩)
    (d13 : PySem.W.codeIn K cd13 "total" = true)
    (k13 : PySem.W.keepIn K (.ref f13) = true)
    (l14 : K.lookup f14 = some ⟨oc14, od14, .func (PySem.W.fnOf "nodes_by" "nodes_by" (defArgs s_nodes_by) (defBody s_nodes_by) (defScope s_nodes_by) .none kV14 dc14 pm14 an14 cd14 ct14), sl14⟩)
    (d14 : PySem.W.codeIn K cd14 "nodes_by" = true)
    (k14 : PySem.W.keepIn K (.ref f14) = true)
    (l15 : K.lookup f15 = some ⟨oc15, od15, .func (PySem.W.fnOf "nodes" "nodes" (defArgs s_nodes) (defBody s_nodes) (defScope s_nodes) .none kV15 dc15 pm15 an15 cd15 ct15), sl15⟩)
    (d15 : PySem.W.codeIn K cd15 "nodes" = true)
    (k15 : PySem.W.keepIn K (.ref f15) = true)
    (l16 : K.lookup f16 = some ⟨oc16, od16, .func (PySem.W.fnOf "is_explicit_by" "is_explicit_by" (defArgs s_is_explicit_by) (defBody s_is_explicit_by) (defScope s_is_explicit_by) .none kV16 dc16 pm16 an16 cd16 ct16), sl16⟩)
    (d16 : PySem.W.codeIn K cd16 "is_explicit_by" = true)
    (k16 : PySem.W.keepIn K (.ref f16) = true)
    (l17 : K.lookup f17 = some ⟨oc17, od17, .func (PySem.W.fnOf "is_explicit" "is_explicit" (defArgs s_is_explicit) (defBody s_is_explicit) (defScope s_is_explicit) .none kV17 dc17 pm17 an17 cd17 ct17), sl17⟩)
    (d17 : PySem.W.codeIn K cd17 "is_explicit" = true)
    (k17 : PySem.W.keepIn K (.ref f17) = true)
    (l18 : K.lookup f18 = some ⟨oc18, od18, .func (PySem.W.fnOf "renumbered_by" "renumbered_by" (defArgs s_renumbered_by) (defBody s_renumbered_by) (defScope s_renumbered_by) .none kV18 dc18 pm18 an18 cd18 ct18), sl18⟩)
    (d18 : PySem.W.codeIn K cd18 "renumbered_by" = true)
    (k18 : PySem.W.keepIn K (.ref f18) = true)
    (l19 : K.lookup f19 = some ⟨oc19, od19, .func (PySem.W.fnOf "renumbered" "renumbered" (defArgs s_renumbered) (defBody s_renumbered) (defScope s_renumbered) .none kV19 dc19 pm19 an19 cd19 ct19), sl19⟩)
    (d19 : PySem.W.codeIn K cd19 "renumbered" = true)
    (k19 : PySem.W.keepIn K (.ref f19) = true)
    (l20 : K.lookup f20 = some ⟨oc20, od20, .func (PySem.W.fnOf "scaled_by" "scaled_by" (defArgs s_scaled_by) (defBody s_scaled_by) (defScope s_scaled_by) .none kV20 dc20 pm20 an20 cd20 ct20), sl20⟩)
    (d20 : PySem.W.codeIn K cd20 "scaled_by" = true)
    (k20 : PySem.W.keepIn K (.ref f20) = true)
    (l21 : K.lookup f21 = some ⟨oc21, od21, .func (PySem.W.fnOf "scaled" "scaled" (defArgs s_scaled) (defBody s_scaled) (defScope s_scaled) .none kV21 dc21 pm21 an21 cd21 ct21), sl21⟩)
    (d21 : PySem.W.codeIn K cd21 "scaled" = true)
    (k21 : PySem.W.keepIn K (.ref f21) = true)
    (l22 : K.lookup f22 = some ⟨oc22, od22, .func (PySem.W.fnOf "turned_back_by" "turned_back_by" (defArgs s_turned_back_by) (defBody s_turned_back_by) (defScope s_turned_back_by) .none kV22 dc22 pm22 an22 cd22 ct22), sl22⟩)
    (d22 : PySem.W.codeIn K cd22 "turned_back_by" = true)
    (k22 : PySem.W.keepIn K (.ref f22) = true)
    (l23 : K.lookup f23 = some ⟨oc23, od23, .func (PySem.W.fnOf "turned_back" "turned_back" (defArgs s_turned_back) (defBody s_turned_back) (defScope s_turned_back) .none kV23 dc23 pm23 an23 cd23 ct23), sl23⟩)
    (d23 : PySem.W.codeIn K cd23 "turned_back" = true)
    (k23 : PySem.W.keepIn K (.ref f23) = true)
    (l24 : K.lookup f24 = some ⟨oc24, od24, .func (PySem.W.fnOf "undone_by" "undone_by" (defArgs s_undone_by) (defBody s_undone_by) (defScope s_undone_by) .none kV24 dc24 pm24 an24 cd24 ct24), sl24⟩)
    (d24 : PySem.W.codeIn K cd24 "undone_by" = true)
    (k24 : PySem.W.keepIn K (.ref f24) = true)
    (l25 : K.lookup f25 = some ⟨oc25, od25, .func (PySem.W.fnOf "undone" "undone" (defArgs s_undone) (defBody s_undone) (defScope s_undone) .none kV25 dc25 pm25 an25 cd25 ct25), sl25⟩)
    (d25 : PySem.W.codeIn K cd25 "undone" = true)
    (k25 : PySem.W.keepIn K (.ref f25) = true)
    (l26 : K.lookup f26 = some ⟨oc26, od26, .func (PySem.W.fnOf "_law_draw" "_law_draw" (defArgs s_law_draw) (defBody s_law_draw) (defScope s_law_draw) .none kV26 dc26 pm26 an26 cd26 ct26), sl26⟩)
    (d26 : PySem.W.codeIn K cd26 "_law_draw" = true)
    (k26 : PySem.W.keepIn K (.ref f26) = true)
    (l27 : K.lookup f27 = some ⟨oc27, od27, .func (PySem.W.fnOf "_law_pick" "_law_pick" (defArgs s_law_pick) (defBody s_law_pick) (defScope s_law_pick) .none kV27 dc27 pm27 an27 cd27 ct27), sl27⟩)
    (d27 : PySem.W.codeIn K cd27 "_law_pick" = true)
    (k27 : PySem.W.keepIn K (.ref f27) = true)
    (l28 : K.lookup f28 = some ⟨oc28, od28, .func (PySem.W.fnOf "_law_shuffled" "_law_shuffled" (defArgs s_law_shuffled) (defBody s_law_shuffled) (defScope s_law_shuffled) .none kV28 dc28 pm28 an28 cd28 ct28), sl28⟩)
    (d28 : PySem.W.codeIn K cd28 "_law_shuffled" = true)
    (k28 : PySem.W.keepIn K (.ref f28) = true)
    (l29 : K.lookup f29 = some ⟨oc29, od29, .func (PySem.W.fnOf "_law_is" "_law_is" (defArgs s_law_is) (defBody s_law_is) (defScope s_law_is) .none kV29 dc29 pm29 an29 cd29 ct29), sl29⟩)
    (d29 : PySem.W.codeIn K cd29 "_law_is" = true)
    (k29 : PySem.W.keepIn K (.ref f29) = true)
    (l30 : K.lookup f30 = some ⟨oc30, od30, .func (PySem.W.fnOf "_law_says" "_law_says" (defArgs s_law_says) (defBody s_law_says) (defScope s_law_says) .none kV30 dc30 pm30 an30 cd30 ct30), sl30⟩)
    (d30 : PySem.W.codeIn K cd30 "_law_says" = true)
    (k30 : PySem.W.keepIn K (.ref f30) = true)
    (l31 : K.lookup f31 = some ⟨oc31, od31, .func (PySem.W.fnOf "_law_divisor" "_law_divisor" (defArgs s_law_divisor) (defBody s_law_divisor) (defScope s_law_divisor) .none kV31 dc31 pm31 an31 cd31 ct31), sl31⟩)
    (d31 : PySem.W.codeIn K cd31 "_law_divisor" = true)
    (k31 : PySem.W.keepIn K (.ref f31) = true)
    (l32 : K.lookup f32 = some ⟨oc32, od32, .func (PySem.W.fnOf "_law_low" "_law_low" (defArgs s_law_low) (defBody s_law_low) (defScope s_law_low) .none kV32 dc32 pm32 an32 cd32 ct32), sl32⟩)
    (d32 : PySem.W.codeIn K cd32 "_law_low" = true)
    (k32 : PySem.W.keepIn K (.ref f32) = true)
    (l33 : K.lookup f33 = some ⟨oc33, od33, .func (PySem.W.fnOf "_law_pair" "_law_pair" (defArgs s_law_pair) (defBody s_law_pair) (defScope s_law_pair) .none kV33 dc33 pm33 an33 cd33 ct33), sl33⟩)
    (d33 : PySem.W.codeIn K cd33 "_law_pair" = true)
    (k33 : PySem.W.keepIn K (.ref f33) = true)
    (l34 : K.lookup f34 = some ⟨oc34, od34, .func (PySem.W.fnOf "_law_plus" "_law_plus" (defArgs s_law_plus) (defBody s_law_plus) (defScope s_law_plus) .none kV34 dc34 pm34 an34 cd34 ct34), sl34⟩)
    (d34 : PySem.W.codeIn K cd34 "_law_plus" = true)
    (k34 : PySem.W.keepIn K (.ref f34) = true)
    (l35 : K.lookup f35 = some ⟨oc35, od35, .func (PySem.W.fnOf "_law_opposite" "_law_opposite" (defArgs s_law_opposite) (defBody s_law_opposite) (defScope s_law_opposite) .none kV35 dc35 pm35 an35 cd35 ct35), sl35⟩)
    (d35 : PySem.W.codeIn K cd35 "_law_opposite" = true)
    (k35 : PySem.W.keepIn K (.ref f35) = true)
    (l36 : K.lookup f36 = some ⟨oc36, od36, .func (PySem.W.fnOf "_law_minus" "_law_minus" (defArgs s_law_minus) (defBody s_law_minus) (defScope s_law_minus) .none kV36 dc36 pm36 an36 cd36 ct36), sl36⟩)
    (d36 : PySem.W.codeIn K cd36 "_law_minus" = true)
    (k36 : PySem.W.keepIn K (.ref f36) = true)
    (l37 : K.lookup f37 = some ⟨oc37, od37, .func (PySem.W.fnOf "_law_times" "_law_times" (defArgs s_law_times) (defBody s_law_times) (defScope s_law_times) .none kV37 dc37 pm37 an37 cd37 ct37), sl37⟩)
    (d37 : PySem.W.codeIn K cd37 "_law_times" = true)
    (k37 : PySem.W.keepIn K (.ref f37) = true)
    (l38 : K.lookup f38 = some ⟨oc38, od38, .func (PySem.W.fnOf "_law_number" "_law_number" (defArgs s_law_number) (defBody s_law_number) (defScope s_law_number) .none kV38 dc38 pm38 an38 cd38 ct38), sl38⟩)
    (d38 : PySem.W.codeIn K cd38 "_law_number" = true)
    (k38 : PySem.W.keepIn K (.ref f38) = true)
    (l39 : K.lookup f39 = some ⟨oc39, od39, .func (PySem.W.fnOf "_law_wide" "_law_wide" (defArgs s_law_wide) (defBody s_law_wide) (defScope s_law_wide) .none kV39 dc39 pm39 an39 cd39 ct39), sl39⟩)
    (d39 : PySem.W.codeIn K cd39 "_law_wide" = true)
    (k39 : PySem.W.keepIn K (.ref f39) = true)
    (l40 : K.lookup f40 = some ⟨oc40, od40, .func (PySem.W.fnOf "_law_size" "_law_size" (defArgs s_law_size) (defBody s_law_size) (defScope s_law_size) .none kV40 dc40 pm40 an40 cd40 ct40), sl40⟩)
    (d40 : PySem.W.codeIn K cd40 "_law_size" = true)
    (k40 : PySem.W.keepIn K (.ref f40) = true)
    (l41 : K.lookup f41 = some ⟨oc41, od41, .func (PySem.W.fnOf "_law_odd" "_law_odd" (defArgs s_law_odd) (defBody s_law_odd) (defScope s_law_odd) .none kV41 dc41 pm41 an41 cd41 ct41), sl41⟩)
    (d41 : PySem.W.codeIn K cd41 "_law_odd" = true)
    (k41 : PySem.W.keepIn K (.ref f41) = true)
    (l42 : K.lookup f42 = some ⟨oc42, od42, .func (PySem.W.fnOf "_law_kinds" "_law_kinds" (defArgs s_law_kinds) (defBody s_law_kinds) (defScope s_law_kinds) .none kV42 dc42 pm42 an42 cd42 ct42), sl42⟩)
    (d42 : PySem.W.codeIn K cd42 "_law_kinds" = true)
    (k42 : PySem.W.keepIn K (.ref f42) = true)
    (l43 : K.lookup f43 = some ⟨oc43, od43, .func (PySem.W.fnOf "_law_more_kinds" "_law_more_kinds" (defArgs s_law_more_kinds) (defBody s_law_more_kinds) (defScope s_law_more_kinds) .none kV43 dc43 pm43 an43 cd43 ct43), sl43⟩)
    (d43 : PySem.W.codeIn K cd43 "_law_more_kinds" = true)
    (k43 : PySem.W.keepIn K (.ref f43) = true)
    (l44 : K.lookup f44 = some ⟨oc44, od44, .func (PySem.W.fnOf "_law_fraction" "_law_fraction" (defArgs s_law_fraction) (defBody s_law_fraction) (defScope s_law_fraction) .none kV44 dc44 pm44 an44 cd44 ct44), sl44⟩)
    (d44 : PySem.W.codeIn K cd44 "_law_fraction" = true)
    (k44 : PySem.W.keepIn K (.ref f44) = true)
    (l45 : K.lookup f45 = some ⟨oc45, od45, .func (PySem.W.fnOf "_law_table" "_law_table" (defArgs s_law_table) (defBody s_law_table) (defScope s_law_table) .none kV45 dc45 pm45 an45 cd45 ct45), sl45⟩)
    (d45 : PySem.W.codeIn K cd45 "_law_table" = true)
    (k45 : PySem.W.keepIn K (.ref f45) = true)
    (l46 : K.lookup f46 = some ⟨oc46, od46, .func (PySem.W.fnOf "_law_is_steps" "_law_is_steps" (defArgs s_law_is_steps) (defBody s_law_is_steps) (defScope s_law_is_steps) .none kV46 dc46 pm46 an46 cd46 ct46), sl46⟩)
    (d46 : PySem.W.codeIn K cd46 "_law_is_steps" = true)
    (k46 : PySem.W.keepIn K (.ref f46) = true)
    (l47 : K.lookup f47 = some ⟨oc47, od47, .func (PySem.W.fnOf "_law_sum" "_law_sum" (defArgs s_law_sum) (defBody s_law_sum) (defScope s_law_sum) .none kV47 dc47 pm47 an47 cd47 ct47), sl47⟩)
    (d47 : PySem.W.codeIn K cd47 "_law_sum" = true)
    (k47 : PySem.W.keepIn K (.ref f47) = true)
    (l48 : K.lookup f48 = some ⟨oc48, od48, .func (PySem.W.fnOf "_law_right" "_law_right" (defArgs s_law_right) (defBody s_law_right) (defScope s_law_right) .none kV48 dc48 pm48 an48 cd48 ct48), sl48⟩)
    (d48 : PySem.W.codeIn K cd48 "_law_right" = true)
    (k48 : PySem.W.keepIn K (.ref f48) = true)
    (l49 : K.lookup f49 = some ⟨oc49, od49, .func (PySem.W.fnOf "_law_made" "_law_made" (defArgs s_law_made) (defBody s_law_made) (defScope s_law_made) .none kV49 dc49 pm49 an49 cd49 ct49), sl49⟩)
    (d49 : PySem.W.codeIn K cd49 "_law_made" = true)
    (k49 : PySem.W.keepIn K (.ref f49) = true)
    (l50 : K.lookup f50 = some ⟨oc50, od50, .func (PySem.W.fnOf "_law_refused" "_law_refused" (defArgs s_law_refused) (defBody s_law_refused) (defScope s_law_refused) .none kV50 dc50 pm50 an50 cd50 ct50), sl50⟩)
    (d50 : PySem.W.codeIn K cd50 "_law_refused" = true)
    (k50 : PySem.W.keepIn K (.ref f50) = true)
    (l51 : K.lookup f51 = some ⟨oc51, od51, .func (PySem.W.fnOf "_law_one" "_law_one" (defArgs s_law_one) (defBody s_law_one) (defScope s_law_one) .none kV51 dc51 pm51 an51 (.ref ck51) ct51), sl51⟩)
    (d51 : PySem.W.codeIn K (.ref ck51) "_law_one" = true)
    (k51 : PySem.W.keepIn K (.ref f51) = true)
    (o51 : K.lookup ck51 = some ⟨oo51, oq51, .fields vs51, os51⟩)
    (p51 : vs51[11]? = some (.ref tk51))
    (nt51 : K.lookup tk51 = none)
    (l52 : K.lookup f52 = some ⟨oc52, od52, .func (PySem.W.fnOf "_law_two" "_law_two" (defArgs s_law_two) (defBody s_law_two) (defScope s_law_two) .none kV52 dc52 pm52 an52 (.ref ck52) ct52), sl52⟩)
    (d52 : PySem.W.codeIn K (.ref ck52) "_law_two" = true)
    (k52 : PySem.W.keepIn K (.ref f52) = true)
    (o52 : K.lookup ck52 = some ⟨oo52, oq52, .fields vs52, os52⟩)
    (p52 : vs52[11]? = some (.ref tk52))
    (nt52 : K.lookup tk52 = none)
    (l53 : K.lookup f53 = some ⟨oc53, od53, .func (PySem.W.fnOf "_law_more" "_law_more" (defArgs s_law_more) (defBody s_law_more) (defScope s_law_more) .none kV53 dc53 pm53 an53 (.ref ck53) ct53), sl53⟩)
    (d53 : PySem.W.codeIn K (.ref ck53) "_law_more" = true)
    (k53 : PySem.W.keepIn K (.ref f53) = true)
    (o53 : K.lookup ck53 = some ⟨oo53, oq53, .fields vs53, os53⟩)
    (p53 : vs53[11]? = some (.ref tk53))
    (nt53 : K.lookup tk53 = none)
    (l54 : K.lookup f54 = some ⟨oc54, od54, .func (PySem.W.fnOf "_law_pen" "_law_pen" (defArgs s_law_pen) (defBody s_law_pen) (defScope s_law_pen) .none kV54 dc54 pm54 an54 cd54 ct54), sl54⟩)
    (d54 : PySem.W.codeIn K cd54 "_law_pen" = true)
    (k54 : PySem.W.keepIn K (.ref f54) = true)
    (l55 : K.lookup f55 = some ⟨oc55, od55, .func (PySem.W.fnOf "_law_fault" "_law_fault" (defArgs s_law_fault) (defBody s_law_fault) (defScope s_law_fault) .none kV55 dc55 pm55 an55 cd55 ct55), sl55⟩)
    (d55 : PySem.W.codeIn K cd55 "_law_fault" = true)
    (k55 : PySem.W.keepIn K (.ref f55) = true)
    (l56 : K.lookup f56 = some ⟨oc56, od56, .func (PySem.W.fnOf "law" "law" (defArgs s_law) (defBody s_law) (defScope s_law) .none kV56 dc56 pm56 an56 cd56 ct56), sl56⟩)
    (d56 : PySem.W.codeIn K cd56 "law" = true)
    (k56 : PySem.W.keepIn K (.ref f56) = true)
    (ntd : (decide ([tk51, tk52, tk53] : List Addr).Nodup) = true)
    (n0_0 : PySem.W.findIn K (.ref c0) "what" = some none)
    (n0_1 : PySem.W.findIn K (.ref c0) "number" = some none)
    (x0 : K.lookup c0 = some (excClassObj nm0 qn0 c0 N0 bs0 bm0 true sn0 sb0 ab0 co0 dd0 ma0 mb0 mc0 md0 me0 "ValueError.__new__"))
    (r0 : PySem.HandSPX.refsVE bm0 = true)
    (sa0 : PySem.W.findIn K (.ref c0) "__setattr__" = some (some (.builtin "object.__setattr__")))
    (ty0 : PySem.W.typeIn K (.ref c0) = some (.type "type"))
    (kc0 : PySem.W.keepIn K (.ref c0) = true)
    (i0 : PySem.W.findIn K (.ref c0) "__init__" = some (some (.ref e0)))
    (t0 : PySem.W.typeIn K (.ref e0) = some (.type "function"))
    (el0 : K.lookup e0 = some ⟨ec0, eo0, .func (PySem.W.fnOf "__init__" "BadNumber.__init__" (defArgs (inClass (topS 3) 0)) (defBody (inClass (topS 3) 0)) (defScope (inClass (topS 3) 0)) .none eV0 ed0 ep0 ea0 eq0 et0), es0⟩)
    (em0 : PySem.W.codeIn K eq0 "BadNumber.__init__" = true)
    (ek0 : PySem.W.keepIn K (.ref e0) = true)
    (n1_0 : PySem.W.findIn K (.ref c1) "what" = some none)
    (n1_1 : PySem.W.findIn K (.ref c1) "row" = some none)
    (x1 : K.lookup c1 = some (excClassObj nm1 qn1 c1 N1 bs1 bm1 true sn1 sb1 ab1 co1 dd1 ma1 mb1 mc1 md1 me1 "ValueError.__new__"))
    (r1 : PySem.HandSPX.refsVE bm1 = true)
    (sa1 : PySem.W.findIn K (.ref c1) "__setattr__" = some (some (.builtin "object.__setattr__")))
    (ty1 : PySem.W.typeIn K (.ref c1) = some (.type "type"))
    (kc1 : PySem.W.keepIn K (.ref c1) = true)
    (i1 : PySem.W.findIn K (.ref c1) "__init__" = some (some (.ref e1)))
    (t1 : PySem.W.typeIn K (.ref e1) = some (.type "function"))
    (el1 : K.lookup e1 = some ⟨ec1, eo1, .func (PySem.W.fnOf "__init__" "BadRow.__init__" (defArgs (inClass (topS 4) 0)) (defBody (inClass (topS 4) 0)) (defScope (inClass (topS 4) 0)) .none eV1 ed1 ep1 ea1 eq1 et1), es1⟩)
    (em1 : PySem.W.codeIn K eq1 "BadRow.__init__" = true)
    (ek1 : PySem.W.keepIn K (.ref e1) = true)
    (n2_0 : PySem.W.findIn K (.ref c2) "what" = some none)
    (x2 : K.lookup c2 = some (excClassObj nm2 qn2 c2 N2 bs2 bm2 true sn2 sb2 ab2 co2 dd2 ma2 mb2 mc2 md2 me2 "ValueError.__new__"))
    (r2 : PySem.HandSPX.refsVE bm2 = true)
    (sa2 : PySem.W.findIn K (.ref c2) "__setattr__" = some (some (.builtin "object.__setattr__")))
    (ty2 : PySem.W.typeIn K (.ref c2) = some (.type "type"))
    (kc2 : PySem.W.keepIn K (.ref c2) = true)
    (i2 : PySem.W.findIn K (.ref c2) "__init__" = some (some (.ref e2)))
    (t2 : PySem.W.typeIn K (.ref e2) = some (.type "function"))
    (el2 : K.lookup e2 = some ⟨ec2, eo2, .func (PySem.W.fnOf "__init__" "BadTable.__init__" (defArgs (inClass (topS 5) 0)) (defBody (inClass (topS 5) 0)) (defScope (inClass (topS 5) 0)) .none eV2 ed2 ep2 ea2 eq2 et2), es2⟩)
    (em2 : PySem.W.codeIn K eq2 "BadTable.__init__" = true)
    (ek2 : PySem.W.keepIn K (.ref e2) = true)
    (n3_0 : PySem.W.findIn K (.ref c3) "what" = some none)
    (n4_0 : PySem.W.findIn K (.ref c4) "what" = some none)
    (n5_0 : PySem.W.findIn K (.ref c5) "name" = some none)
    (n6_0 : PySem.W.findIn K (.ref c6) "line" = some none)
    (n6_1 : PySem.W.findIn K (.ref c6) "word" = some none)
    (n7_0 : PySem.W.findIn K (.ref c7) "what" = some none)
    (n7_1 : PySem.W.findIn K (.ref c7) "index" = some none)
    (n8_0 : PySem.W.findIn K (.ref c8) "name" = some none)
    (n9_0 : PySem.W.findIn K (.ref c9) "name" = some none)
    (n10_0 : PySem.W.findIn K (.ref c10) "what" = some none)
    (n11_0 : PySem.W.findIn K (.ref c11) "paper" = some none)
    (n12_0 : PySem.W.findIn K (.ref c12) "what" = some none)
    (n12_1 : PySem.W.findIn K (.ref c12) "many" = some none)
    (n12_2 : PySem.W.findIn K (.ref c12) "limit" = some none)
    (n13_0 : PySem.W.findIn K (.ref c13) "promise" = some none)
    (n13_1 : PySem.W.findIn K (.ref c13) "witness" = some none)
    (zn_enumerate : PySem.W.nsIn K mainGlobals "enumerate" = some none)
    (zn_sorted : PySem.W.nsIn K mainGlobals "sorted" = some none)
    (zc_MOST_STAGES : PySem.W.nsIn K mainGlobals "MOST_STAGES" = some (some (.int 8 tk_MOST_STAGES)))
    (aSSteps : PySem.W.nsIn K mainGlobals "Steps" = some (some (.ref SSteps)))
    (pgSteps : PySem.W.plainGet K SSteps Str.empty = true)
    (hdSteps : PySem.W.hasDictIn K SSteps = true)
    (poSteps : PySem.W.plainOver K SSteps = true)
    (saSteps : PySem.W.findIn K (.ref SSteps) "__setattr__" = some (some (.builtin "object.__setattr__")))
    (mkSteps : PySem.W.makesIn K SSteps = true)
    (kcSteps : PySem.W.keepIn K (.ref SSteps) = true)
    (nSteps_a : PySem.W.findIn K (.ref SSteps) "a" = some none)
    (nSteps_b : PySem.W.findIn K (.ref SSteps) "b" = some none)
    (iStepsinit : PySem.W.findIn K (.ref SSteps) "__init__" = some (some (.ref sStepsinit)))
    (fStepsinit : PySem.W.isFn K (.ref sStepsinit) = true)
    (lStepsinit : K.lookup sStepsinit = some ⟨ocStepsinit, odStepsinit, .func (PySem.W.fnOf "__init__" "Steps.__init__" (defArgs (inClass (topS 35) 0)) (defBody (inClass (topS 35) 0)) (defScope (inClass (topS 35) 0)) .none kVStepsinit dcStepsinit pmStepsinit anStepsinit cdStepsinit ctStepsinit), slStepsinit⟩)
    (dStepsinit : PySem.W.codeIn K cdStepsinit "Steps.__init__" = true)
    (kStepsinit : PySem.W.keepIn K (.ref sStepsinit) = true)
    (iStepseq : PySem.W.findIn K (.ref SSteps) "__eq__" = some (some (.ref sStepseq)))
    (fStepseq : PySem.W.isFn K (.ref sStepseq) = true)
    (lStepseq : K.lookup sStepseq = some ⟨ocStepseq, odStepseq, .func (PySem.W.fnOf "__eq__" "Steps.__eq__" (defArgs (inClass (topS 35) 1)) (defBody (inClass (topS 35) 1)) (defScope (inClass (topS 35) 1)) .none kVStepseq dcStepseq pmStepseq anStepseq cdStepseq ctStepseq), slStepseq⟩)
    (dStepseq : PySem.W.codeIn K cdStepseq "Steps.__eq__" = true)
    (kStepseq : PySem.W.keepIn K (.ref sStepseq) = true)
    (kiSteps : (decide (PySem.W.kitOne K (.ref SSteps) (.ref SSteps) = some true)) = true)
    (knSteps : (plainTys.all fun t => decide (PySem.W.kitOne K (.type t) (.ref SSteps) = some false)) = true)
    (haSteps : PySem.W.findIn K (.ref SSteps) "__class__" = some (some (.builtin "object.__class__")))
    (hmSteps : PySem.W.mroIn K SSteps (.type "object") = some true)
    (hnG : PySem.W.specialIn K (.builtin "object.__class__") "__get__" = some (some (.builtin "getset_descriptor.__get__")))
    (htG : PySem.W.takesIn K (.builtin "object.__class__") = some true)
    (neSteps : PySem.W.findIn K (.ref SSteps) "__ne__" = some (some (.builtin "object.__ne__")))
    (nfSteps : PySem.W.notFirst K SSteps (.ref SSteps) = true)
    (ntSteps : (plainTys.all fun t => PySem.W.notFirst K SSteps (.type t)) = true)
    (nRS : (decide (f19 ≠ f21)) = true)
    (tS : PySem.W.typeIn K (.ref S) = some (.type "type"))
    (hS : PySem.W.hasDictIn K S = true)
    (bS : PySem.W.subIn K (.ref S) (.type "BaseException") = some true)
    (chk : chkAll K S [c0, c1, c2, c3, c4, c5, c6, c7, c8, c9, c10, c11, c12, c13, c14, c15] = true)
    (ndp : (decide ([c0, c1, c2, c3, c4, c5, c6, c7, c8, c9, c10, c11, c12, c13, c14, c15] : List Addr).Nodup) = true) :
    ∃ (fd : FuncData) (cs : List (Addr × Addr)), (∀ (s : Shared) (u : Value), BindsTo s fd ⟨[u], []⟩ [("script", u)]) ∧ (∀ p ∈ cs, h.get? p.2 = some tab0 ∧ K.lookup p.2 = none ∧ PySem.W.CodeHd h p.1 p.2) ∧
      ∀ base : Heap, K.In base → base.Ns mainGlobals mg → (∀ p ∈ cs, LamX.TabB base mg p.1 p.2) → FnG l.prog w K mg base (L2.CX l.prog w) 13 fa fd ["script"] (spLawT K (cs.map (·.2))) := by
  have e := hfa.symm.trans (PySem.W.mg_of X G g56)
  cases e
  have F0 := fun_mk (x := "is_integer") (qual := "is_integer") (st := s_is_integer) l0 d0 k0
  have F1 := fun_mk (x := "is_ratio") (qual := "is_ratio") (st := s_is_ratio) l1 d1 k1
  have F2 := fun_mk (x := "pair") (qual := "pair") (st := s_pair) l2 d2 k2
  have F3 := fun_mk (x := "in_lowest") (qual := "in_lowest") (st := s_in_lowest) l3 d3 k3
  have F4 := fun_mk (x := "added") (qual := "added") (st := s_added) l4 d4 k4
  have F5 := fun_mk (x := "opposite") (qual := "opposite") (st := s_opposite) l5 d5 k5
  have F6 := fun_mk (x := "multiplied") (qual := "multiplied") (st := s_multiplied) l6 d6 k6
  have F7 := fun_mk (x := "less_by") (qual := "less_by") (st := s_less_by) l7 d7 k7
  have F8 := fun_mk (x := "is_list") (qual := "is_list") (st := s_is_list) l8 d8 k8
  have F9 := fun_mk (x := "is_row") (qual := "is_row") (st := s_is_row) l9 d9 k9
  have F10 := fun_mk (x := "is_indexes") (qual := "is_indexes") (st := s_is_indexes) l10 d10 k10
  have F11 := fun_mk (x := "is_all_numbers") (qual := "is_all_numbers") (st := s_is_all_numbers) l11 d11 k11
  have F12 := fun_mk (x := "need_steps") (qual := "need_steps") (st := s_need_steps) l12 d12 k12
  have F13 := fun_mk (x := "total") (qual := "total") (st := s_total) l13 d13 k13
  have F14 := fun_mk (x := "nodes_by") (qual := "nodes_by") (st := s_nodes_by) l14 d14 k14
  have F15 := fun_mk (x := "nodes") (qual := "nodes") (st := s_nodes) l15 d15 k15
  have F16 := fun_mk (x := "is_explicit_by") (qual := "is_explicit_by") (st := s_is_explicit_by) l16 d16 k16
  have F17 := fun_mk (x := "is_explicit") (qual := "is_explicit") (st := s_is_explicit) l17 d17 k17
  have F18 := fun_mk (x := "renumbered_by") (qual := "renumbered_by") (st := s_renumbered_by) l18 d18 k18
  have F19 := fun_mk (x := "renumbered") (qual := "renumbered") (st := s_renumbered) l19 d19 k19
  have F20 := fun_mk (x := "scaled_by") (qual := "scaled_by") (st := s_scaled_by) l20 d20 k20
  have F21 := fun_mk (x := "scaled") (qual := "scaled") (st := s_scaled) l21 d21 k21
  have F22 := fun_mk (x := "turned_back_by") (qual := "turned_back_by") (st := s_turned_back_by) l22 d22 k22
  have F23 := fun_mk (x := "turned_back") (qual := "turned_back") (st := s_turned_back) l23 d23 k23
  have F24 := fun_mk (x := "undone_by") (qual := "undone_by") (st := s_undone_by) l24 d24 k24
  have F25 := fun_mk (x := "undone") (qual := "undone") (st := s_undone) l25 d25 k25
  have F26 := fun_mk (x := "_law_draw") (qual := "_law_draw") (st := s_law_draw) l26 d26 k26
  have F27 := fun_mk (x := "_law_pick") (qual := "_law_pick") (st := s_law_pick) l27 d27 k27
  have F28 := fun_mk (x := "_law_shuffled") (qual := "_law_shuffled") (st := s_law_shuffled) l28 d28 k28
  have F29 := fun_mk (x := "_law_is") (qual := "_law_is") (st := s_law_is) l29 d29 k29
  have F30 := fun_mk (x := "_law_says") (qual := "_law_says") (st := s_law_says) l30 d30 k30
  have F31 := fun_mk (x := "_law_divisor") (qual := "_law_divisor") (st := s_law_divisor) l31 d31 k31
  have F32 := fun_mk (x := "_law_low") (qual := "_law_low") (st := s_law_low) l32 d32 k32
  have F33 := fun_mk (x := "_law_pair") (qual := "_law_pair") (st := s_law_pair) l33 d33 k33
  have F34 := fun_mk (x := "_law_plus") (qual := "_law_plus") (st := s_law_plus) l34 d34 k34
  have F35 := fun_mk (x := "_law_opposite") (qual := "_law_opposite") (st := s_law_opposite) l35 d35 k35
  have F36 := fun_mk (x := "_law_minus") (qual := "_law_minus") (st := s_law_minus) l36 d36 k36
  have F37 := fun_mk (x := "_law_times") (qual := "_law_times") (st := s_law_times) l37 d37 k37
  have F38 := fun_mk (x := "_law_number") (qual := "_law_number") (st := s_law_number) l38 d38 k38
  have F39 := fun_mk (x := "_law_wide") (qual := "_law_wide") (st := s_law_wide) l39 d39 k39
  have F40 := fun_mk (x := "_law_size") (qual := "_law_size") (st := s_law_size) l40 d40 k40
  have F41 := fun_mk (x := "_law_odd") (qual := "_law_odd") (st := s_law_odd) l41 d41 k41
  have F42 := fun_mk (x := "_law_kinds") (qual := "_law_kinds") (st := s_law_kinds) l42 d42 k42
  have F43 := fun_mk (x := "_law_more_kinds") (qual := "_law_more_kinds") (st := s_law_more_kinds) l43 d43 k43
  have F44 := fun_mk (x := "_law_fraction") (qual := "_law_fraction") (st := s_law_fraction) l44 d44 k44
  have F45 := fun_mk (x := "_law_table") (qual := "_law_table") (st := s_law_table) l45 d45 k45
  have F46 := fun_mk (x := "_law_is_steps") (qual := "_law_is_steps") (st := s_law_is_steps) l46 d46 k46
  have F47 := fun_mk (x := "_law_sum") (qual := "_law_sum") (st := s_law_sum) l47 d47 k47
  have F48 := fun_mk (x := "_law_right") (qual := "_law_right") (st := s_law_right) l48 d48 k48
  have F49 := fun_mk (x := "_law_made") (qual := "_law_made") (st := s_law_made) l49 d49 k49
  have F50 := fun_mk (x := "_law_refused") (qual := "_law_refused") (st := s_law_refused) l50 d50 k50
  have F51 := fun_mk (x := "_law_one") (qual := "_law_one") (st := s_law_one) l51 d51 k51
  have F52 := fun_mk (x := "_law_two") (qual := "_law_two") (st := s_law_two) l52 d52 k52
  have F53 := fun_mk (x := "_law_more") (qual := "_law_more") (st := s_law_more) l53 d53 k53
  have F54 := fun_mk (x := "_law_pen") (qual := "_law_pen") (st := s_law_pen) l54 d54 k54
  have F55 := fun_mk (x := "_law_fault") (qual := "_law_fault") (st := s_law_fault) l55 d55 k55
  have F56 := fun_mk (x := "law") (qual := "law") (st := s_law) l56 d56 k56
  have H0 : Has K mg "is_integer" s_is_integer := ⟨_, _, F0, PySem.W.mg_of X G g0⟩
  have H1 : Has K mg "is_ratio" s_is_ratio := ⟨_, _, F1, PySem.W.mg_of X G g1⟩
  have H2 : Has K mg "pair" s_pair := ⟨_, _, F2, PySem.W.mg_of X G g2⟩
  have H3 : Has K mg "in_lowest" s_in_lowest := ⟨_, _, F3, PySem.W.mg_of X G g3⟩
  have H4 : Has K mg "added" s_added := ⟨_, _, F4, PySem.W.mg_of X G g4⟩
  have H5 : Has K mg "opposite" s_opposite := ⟨_, _, F5, PySem.W.mg_of X G g5⟩
  have H6 : Has K mg "multiplied" s_multiplied := ⟨_, _, F6, PySem.W.mg_of X G g6⟩
  have H7 : Has K mg "less_by" s_less_by := ⟨_, _, F7, PySem.W.mg_of X G g7⟩
  have H8 : Has K mg "is_list" s_is_list := ⟨_, _, F8, PySem.W.mg_of X G g8⟩
  have H9 : Has K mg "is_row" s_is_row := ⟨_, _, F9, PySem.W.mg_of X G g9⟩
  have H10 : Has K mg "is_indexes" s_is_indexes := ⟨_, _, F10, PySem.W.mg_of X G g10⟩
  have H11 : Has K mg "is_all_numbers" s_is_all_numbers := ⟨_, _, F11, PySem.W.mg_of X G g11⟩
  have H12 : Has K mg "need_steps" s_need_steps := ⟨_, _, F12, PySem.W.mg_of X G g12⟩
  have H13 : Has K mg "total" s_total := ⟨_, _, F13, PySem.W.mg_of X G g13⟩
  have H14 : Has K mg "nodes_by" s_nodes_by := ⟨_, _, F14, PySem.W.mg_of X G g14⟩
  have H15 : Has K mg "nodes" s_nodes := ⟨_, _, F15, PySem.W.mg_of X G g15⟩
  have H16 : Has K mg "is_explicit_by" s_is_explicit_by := ⟨_, _, F16, PySem.W.mg_of X G g16⟩
  have H17 : Has K mg "is_explicit" s_is_explicit := ⟨_, _, F17, PySem.W.mg_of X G g17⟩
  have H18 : Has K mg "renumbered_by" s_renumbered_by := ⟨_, _, F18, PySem.W.mg_of X G g18⟩
  have H19 : Has K mg "renumbered" s_renumbered := ⟨_, _, F19, PySem.W.mg_of X G g19⟩
  have H20 : Has K mg "scaled_by" s_scaled_by := ⟨_, _, F20, PySem.W.mg_of X G g20⟩
  have H21 : Has K mg "scaled" s_scaled := ⟨_, _, F21, PySem.W.mg_of X G g21⟩
  have H22 : Has K mg "turned_back_by" s_turned_back_by := ⟨_, _, F22, PySem.W.mg_of X G g22⟩
  have H23 : Has K mg "turned_back" s_turned_back := ⟨_, _, F23, PySem.W.mg_of X G g23⟩
  have H24 : Has K mg "undone_by" s_undone_by := ⟨_, _, F24, PySem.W.mg_of X G g24⟩
  have H25 : Has K mg "undone" s_undone := ⟨_, _, F25, PySem.W.mg_of X G g25⟩
  have H26 : Has K mg "_law_draw" s_law_draw := ⟨_, _, F26, PySem.W.mg_of X G g26⟩
  have H27 : Has K mg "_law_pick" s_law_pick := ⟨_, _, F27, PySem.W.mg_of X G g27⟩
  have H28 : Has K mg "_law_shuffled" s_law_shuffled := ⟨_, _, F28, PySem.W.mg_of X G g28⟩
  have H29 : Has K mg "_law_is" s_law_is := ⟨_, _, F29, PySem.W.mg_of X G g29⟩
  have H30 : Has K mg "_law_says" s_law_says := ⟨_, _, F30, PySem.W.mg_of X G g30⟩
  have H31 : Has K mg "_law_divisor" s_law_divisor := ⟨_, _, F31, PySem.W.mg_of X G g31⟩
  have H32 : Has K mg "_law_low" s_law_low := ⟨_, _, F32, PySem.W.mg_of X G g32⟩
  have H33 : Has K mg "_law_pair" s_law_pair := ⟨_, _, F33, PySem.W.mg_of X G g33⟩
  have H34 : Has K mg "_law_plus" s_law_plus := ⟨_, _, F34, PySem.W.mg_of X G g34⟩
  have H35 : Has K mg "_law_opposite" s_law_opposite := ⟨_, _, F35, PySem.W.mg_of X G g35⟩
  have H36 : Has K mg "_law_minus" s_law_minus := ⟨_, _, F36, PySem.W.mg_of X G g36⟩
  have H37 : Has K mg "_law_times" s_law_times := ⟨_, _, F37, PySem.W.mg_of X G g37⟩
  have H38 : Has K mg "_law_number" s_law_number := ⟨_, _, F38, PySem.W.mg_of X G g38⟩
  have H39 : Has K mg "_law_wide" s_law_wide := ⟨_, _, F39, PySem.W.mg_of X G g39⟩
  have H40 : Has K mg "_law_size" s_law_size := ⟨_, _, F40, PySem.W.mg_of X G g40⟩
  have H41 : Has K mg "_law_odd" s_law_odd := ⟨_, _, F41, PySem.W.mg_of X G g41⟩
  have H42 : Has K mg "_law_kinds" s_law_kinds := ⟨_, _, F42, PySem.W.mg_of X G g42⟩
  have H43 : Has K mg "_law_more_kinds" s_law_more_kinds := ⟨_, _, F43, PySem.W.mg_of X G g43⟩
  have H44 : Has K mg "_law_fraction" s_law_fraction := ⟨_, _, F44, PySem.W.mg_of X G g44⟩
  have H45 : Has K mg "_law_table" s_law_table := ⟨_, _, F45, PySem.W.mg_of X G g45⟩
  have H46 : Has K mg "_law_is_steps" s_law_is_steps := ⟨_, _, F46, PySem.W.mg_of X G g46⟩
  have H47 : Has K mg "_law_sum" s_law_sum := ⟨_, _, F47, PySem.W.mg_of X G g47⟩
  have H48 : Has K mg "_law_right" s_law_right := ⟨_, _, F48, PySem.W.mg_of X G g48⟩
  have H49 : Has K mg "_law_made" s_law_made := ⟨_, _, F49, PySem.W.mg_of X G g49⟩
  have H50 : Has K mg "_law_refused" s_law_refused := ⟨_, _, F50, PySem.W.mg_of X G g50⟩
  have H51 : HasC K mg "_law_one" s_law_one ck51 := ⟨_, _, F51, PySem.W.mg_of X G g51, rfl⟩
  have H52 : HasC K mg "_law_two" s_law_two ck52 := ⟨_, _, F52, PySem.W.mg_of X G g52, rfl⟩
  have H53 : HasC K mg "_law_more" s_law_more ck53 := ⟨_, _, F53, PySem.W.mg_of X G g53, rfl⟩
  have H54 : Has K mg "_law_pen" s_law_pen := ⟨_, _, F54, PySem.W.mg_of X G g54⟩
  have H55 : Has K mg "_law_fault" s_law_fault := ⟨_, _, F55, PySem.W.mg_of X G g55⟩
  have B : Blt mg := { b_int := PySem.W.mg_none_of X G z_int, b_bool := PySem.W.mg_none_of X G z_bool, b_str := PySem.W.mg_none_of X G z_str, b_list := PySem.W.mg_none_of X G z_list, b_tuple := PySem.W.mg_none_of X G z_tuple, b_len := PySem.W.mg_none_of X G z_len, b_range := PySem.W.mg_none_of X G z_range, b_repr := PySem.W.mg_none_of X G z_repr, b_isinstance := PySem.W.mg_none_of X G z_isinstance, b_abs := PySem.W.mg_none_of X G z_abs, b_all := PySem.W.mg_none_of X G z_all, b_zip := PySem.W.mg_none_of X G z_zip, g_gcd := PySem.W.mg_of X G z_gcd }
  have hVE : mg "ValueError" = none := PySem.W.mg_none_of X G z_ValueError
  have cm : ∀ i, i < 16 → csOf [c0, c1, c2, c3, c4, c5, c6, c7, c8, c9, c10, c11, c12, c13, c14, c15] i ∈ [c0, c1, c2, c3, c4, c5, c6, c7, c8, c9, c10, c11, c12, c13, c14, c15] := fun i hi => csOf_mem rfl hi
  have nfA : ∀ i x fs, tab[i]? = some (x, fs) → ∀ f ∈ fs, PySem.W.findIn K (.ref (csOf [c0, c1, c2, c3, c4, c5, c6, c7, c8, c9, c10, c11, c12, c13, c14, c15] i)) f = some none := by
    intro i x fs hi f hf
    have h16 : i < 16 := (List.getElem?_eq_some_iff.mp hi).1
    have hcase : i = 0 ∨ i = 1 ∨ i = 2 ∨ i = 3 ∨ i = 4 ∨ i = 5 ∨ i = 6 ∨ i = 7 ∨ i = 8 ∨ i = 9 ∨ i = 10 ∨ i = 11 ∨ i = 12 ∨ i = 13 ∨ i = 14 ∨ i = 15 := by omega
    rcases hcase with rfl | rfl | rfl | rfl | rfl | rfl | rfl | rfl | rfl | rfl | rfl | rfl | rfl | rfl | rfl | rfl
    · cases hi
      simp only [List.mem_cons, List.not_mem_nil, or_false] at hf
      rcases hf with rfl | rfl
      · exact n0_0
      · exact n0_1
    · cases hi
      simp only [List.mem_cons, List.not_mem_nil, or_false] at hf
      rcases hf with rfl | rfl
      · exact n1_0
      · exact n1_1
    · cases hi
      simp only [List.mem_cons, List.not_mem_nil, or_false] at hf
      subst hf; exact n2_0
    · cases hi
      simp only [List.mem_cons, List.not_mem_nil, or_false] at hf
      subst hf; exact n3_0
    · cases hi
      simp only [List.mem_cons, List.not_mem_nil, or_false] at hf
      subst hf; exact n4_0
    · cases hi
      simp only [List.mem_cons, List.not_mem_nil, or_false] at hf
      subst hf; exact n5_0
    · cases hi
      simp only [List.mem_cons, List.not_mem_nil, or_false] at hf
      rcases hf with rfl | rfl
      · exact n6_0
      · exact n6_1
    · cases hi
      simp only [List.mem_cons, List.not_mem_nil, or_false] at hf
      rcases hf with rfl | rfl
      · exact n7_0
      · exact n7_1
    · cases hi
      simp only [List.mem_cons, List.not_mem_nil, or_false] at hf
      subst hf; exact n8_0
    · cases hi
      simp only [List.mem_cons, List.not_mem_nil, or_false] at hf
      subst hf; exact n9_0
    · cases hi
      simp only [List.mem_cons, List.not_mem_nil, or_false] at hf
      subst hf; exact n10_0
    · cases hi
      simp only [List.mem_cons, List.not_mem_nil, or_false] at hf
      subst hf; exact n11_0
    · cases hi
      simp only [List.mem_cons, List.not_mem_nil, or_false] at hf
      rcases hf with rfl | rfl | rfl
      · exact n12_0
      · exact n12_1
      · exact n12_2
    · cases hi
      simp only [List.mem_cons, List.not_mem_nil, or_false] at hf
      rcases hf with rfl | rfl
      · exact n13_0
      · exact n13_1
    · cases hi; simp at hf
    · cases hi; simp at hf
  have gA : ∀ i x fs, tab[i]? = some (x, fs) → mg x = some (.ref (csOf [c0, c1, c2, c3, c4, c5, c6, c7, c8, c9, c10, c11, c12, c13, c14, c15] i)) := by
    intro i x fs hi
    have h16 : i < 16 := (List.getElem?_eq_some_iff.mp hi).1
    have hcase : i = 0 ∨ i = 1 ∨ i = 2 ∨ i = 3 ∨ i = 4 ∨ i = 5 ∨ i = 6 ∨ i = 7 ∨ i = 8 ∨ i = 9 ∨ i = 10 ∨ i = 11 ∨ i = 12 ∨ i = 13 ∨ i = 14 ∨ i = 15 := by omega
    rcases hcase with rfl | rfl | rfl | rfl | rfl | rfl | rfl | rfl | rfl | rfl | rfl | rfl | rfl | rfl | rfl | rfl
    · cases hi; exact PySem.W.mg_of X G a0
    · cases hi; exact PySem.W.mg_of X G a1
    · cases hi; exact PySem.W.mg_of X G a2
    · cases hi; exact PySem.W.mg_of X G a3
    · cases hi; exact PySem.W.mg_of X G a4
    · cases hi; exact PySem.W.mg_of X G a5
    · cases hi; exact PySem.W.mg_of X G a6
    · cases hi; exact PySem.W.mg_of X G a7
    · cases hi; exact PySem.W.mg_of X G a8
    · cases hi; exact PySem.W.mg_of X G a9
    · cases hi; exact PySem.W.mg_of X G a10
    · cases hi; exact PySem.W.mg_of X G a11
    · cases hi; exact PySem.W.mg_of X G a12
    · cases hi; exact PySem.W.mg_of X G a13
    · cases hi; exact PySem.W.mg_of X G a14
    · cases hi; exact PySem.W.mg_of X G a15
  have TC := tc_mk (cs := [c0, c1, c2, c3, c4, c5, c6, c7, c8, c9, c10, c11, c12, c13, c14, c15]) rfl chk (of_decide_eq_true ndp) tS hS bS (PySem.W.mg_of X G aS) gA nfA
  have T0 : OexC K c0 := oex_at x0 r0 sa0 (chk_at chk (cm 0 (by decide))).1 ty0 kc0
  have E0 := fun_mk (x := "__init__") (qual := "BadNumber.__init__") (st := inClass (topS 3) 0) el0 em0 ek0
  have eb0 := E0.binds (ps := ["self", "what", "number"]) fun _ _ _ _ _ _ us hl => match us, hl with | [_, _, _], _ => rfl
  have XI0 : XcI K mg "BadNumber" (csOf [c0, c1, c2, c3, c4, c5, c6, c7, c8, c9, c10, c11, c12, c13, c14, c15] 0) ["what", "number"] := ⟨T0, PySem.W.mg_of X G a0, e0, _, i0, t0, fun P w base => ini_BadNumber E0 T0 (nfA 0 _ _ rfl) P w base, eb0⟩
  have T1 : OexC K c1 := oex_at x1 r1 sa1 (chk_at chk (cm 1 (by decide))).1 ty1 kc1
  have E1 := fun_mk (x := "__init__") (qual := "BadRow.__init__") (st := inClass (topS 4) 0) el1 em1 ek1
  have eb1 := E1.binds (ps := ["self", "what", "row"]) fun _ _ _ _ _ _ us hl => match us, hl with | [_, _, _], _ => rfl
  have XI1 : XcI K mg "BadRow" (csOf [c0, c1, c2, c3, c4, c5, c6, c7, c8, c9, c10, c11, c12, c13, c14, c15] 1) ["what", "row"] := ⟨T1, PySem.W.mg_of X G a1, e1, _, i1, t1, fun P w base => ini_BadRow E1 T1 (nfA 1 _ _ rfl) P w base, eb1⟩
  have T2 : OexC K c2 := oex_at x2 r2 sa2 (chk_at chk (cm 2 (by decide))).1 ty2 kc2
  have E2 := fun_mk (x := "__init__") (qual := "BadTable.__init__") (st := inClass (topS 5) 0) el2 em2 ek2
  have eb2 := E2.binds (ps := ["self", "what"]) fun _ _ _ _ _ _ us hl => match us, hl with | [_, _], _ => rfl
  have XI2 : XcI K mg "BadTable" (csOf [c0, c1, c2, c3, c4, c5, c6, c7, c8, c9, c10, c11, c12, c13, c14, c15] 2) ["what"] := ⟨T2, PySem.W.mg_of X G a2, e2, _, i2, t2, fun P w base => ini_BadTable E2 T2 (nfA 2 _ _ rfl) P w base, eb2⟩
  have ZB : Blx mg := ⟨PySem.W.mg_none_of X G zn_enumerate, PySem.W.mg_none_of X G zn_sorted, tk_MOST_STAGES, PySem.W.mg_of X G zc_MOST_STAGES⟩
  have OSteps : Px.ObK K mg "Steps" SSteps ["a", "b"] := ⟨⟨⟨pgSteps, hdSteps, poSteps, saSteps⟩, fun f hf => by
    simp only [List.mem_cons, List.not_mem_nil, or_false] at hf
    rcases hf with rfl | rfl
    · exact nSteps_a
    · exact nSteps_b⟩, PySem.W.mg_of X G aSSteps, of_decide_eq_true kiSteps, fun t ht => of_decide_eq_true (List.all_eq_true.mp knSteps t ht), haSteps, hnG, htG, hmSteps⟩
  have FStepsinit := fun_mk (x := "__init__") (qual := "Steps.__init__") (st := inClass (topS 35) 0) lStepsinit dStepsinit kStepsinit
  have bStepsinit := FStepsinit.binds (ps := ["self", "a", "b"]) fun _ _ _ _ _ _ us hl => match us, hl with | [_, _, _], _ => rfl
  have FStepseq := fun_mk (x := "__eq__") (qual := "Steps.__eq__") (st := inClass (topS 35) 1) lStepseq dStepseq kStepseq
  have bStepseq := FStepseq.binds (ps := ["self", "other"]) fun _ _ _ _ _ _ us hl => match us, hl with | [_, _], _ => rfl
  have OQSteps : Px.ObQ K SSteps sStepseq := ⟨iStepseq, fStepseq, neSteps, nfSteps, fun t ht => List.all_eq_true.mp ntSteps t ht⟩
  refine ⟨PySem.W.fnOf "law" "law" (defArgs s_law) (defBody s_law) (defScope s_law) .none kV56 dc56 pm56 an56 cd56 ct56, [(ck51, tk51), (ck52, tk52), (ck53, tk53)], fun s v => .of_eq rfl, fun p hp => ?_, fun base _ _ hTB => ?_⟩
  · simp only [List.mem_cons, List.not_mem_nil, or_false] at hp
    rcases hp with rfl | rfl | rfl
    · obtain ⟨f', c', P', m1, m2⟩ := mks "_law_one" (by simp)
      have m3 := mak_at X m2 (Value.ref.inj (Option.some.inj (m1.symm.trans (PySem.W.mg_of X G g51)))) l51 rfl o51 p51
      exact ⟨m3.2, nt51, m3.1⟩
    · obtain ⟨f', c', P', m1, m2⟩ := mks "_law_two" (by simp)
      have m3 := mak_at X m2 (Value.ref.inj (Option.some.inj (m1.symm.trans (PySem.W.mg_of X G g52)))) l52 rfl o52 p52
      exact ⟨m3.2, nt52, m3.1⟩
    · obtain ⟨f', c', P', m1, m2⟩ := mks "_law_more" (by simp)
      have m3 := mak_at X m2 (Value.ref.inj (Option.some.inj (m1.symm.trans (PySem.W.mg_of X G g53)))) l53 rfl o53 p53
      exact ⟨m3.2, nt53, m3.1⟩
  have nt : ([tk51, tk52, tk53] : List Addr).Nodup := of_decide_eq_true ntd
  obtain ⟨TT, hTT⟩ : ∃ TT : List (Addr × Str), TT = [(tk51, lamQ "_law_one"), (tk52, lamQ "_law_two"), (tk53, lamQ "_law_more")] := ⟨_, rfl⟩
  have M51 : ∀ z : Addr × Addr, Mk base mg ⟨z.1, z.2, TT⟩ "_law_one" ck51 tk51 := fun z => ⟨hTB (ck51, tk51) (by simp), by rw [hTT]; simp, mk_un (by rw [hTT]; exact nt) (by rw [hTT]; simp)⟩
  have M52 : ∀ z : Addr × Addr, Mk base mg ⟨z.1, z.2, TT⟩ "_law_two" ck52 tk52 := fun z => ⟨hTB (ck52, tk52) (by simp), by rw [hTT]; simp, mk_un (by rw [hTT]; exact nt) (by rw [hTT]; simp)⟩
  have M53 : ∀ z : Addr × Addr, Mk base mg ⟨z.1, z.2, TT⟩ "_law_more" ck53 tk53 := fun z => ⟨hTB (ck53, tk53) (by simp), by rw [hTT]; simp, mk_un (by rw [hTT]; exact nt) (by rw [hTT]; simp)⟩
  have D_is_integer := fun z : Addr × Addr => d_is_integer (P := l.prog) (w := w) (base := base) (c := ⟨z.1, z.2, TT⟩) H0 B
  have D_is_ratio := fun z : Addr × Addr => d_is_ratio (P := l.prog) (w := w) (base := base) (c := ⟨z.1, z.2, TT⟩) H1 B (D_is_integer z)
  have D_pair := fun z : Addr × Addr => d_pair (P := l.prog) (w := w) (base := base) (c := ⟨z.1, z.2, TT⟩) H2 B
  have D_in_lowest := fun z : Addr × Addr => d_in_lowest (P := l.prog) (w := w) (base := base) (c := ⟨z.1, z.2, TT⟩) H3 B
  have D_added := fun z : Addr × Addr => d_added (P := l.prog) (w := w) (base := base) (c := ⟨z.1, z.2, TT⟩) H4 B (D_pair z) (D_in_lowest z)
  have D_opposite := fun z : Addr × Addr => d_opposite (P := l.prog) (w := w) (base := base) (c := ⟨z.1, z.2, TT⟩) H5 B
  have D_multiplied := fun z : Addr × Addr => d_multiplied (P := l.prog) (w := w) (base := base) (c := ⟨z.1, z.2, TT⟩) H6 B (D_pair z) (D_in_lowest z)
  have D_less_by := fun z : Addr × Addr => d_less_by (P := l.prog) (w := w) (base := base) (c := ⟨z.1, z.2, TT⟩) H7 B (D_added z) (D_opposite z)
  have D_is_list := fun z : Addr × Addr => d_is_list (P := l.prog) (w := w) (base := base) (c := ⟨z.1, z.2, TT⟩) H8 B
  have D_is_row := fun z : Addr × Addr => d_is_row (P := l.prog) (w := w) (base := base) (c := ⟨z.1, z.2, TT⟩) H9 B (D_is_list z) (D_is_ratio z)
  have DSTSteps := fun z : Addr × Addr => (⟨sStepsinit, _, _, ⟨mkSteps, iStepsinit, fStepsinit, kcSteps⟩, d_Steps_init (P := l.prog) (w := w) (base := base) (c := ⟨z.1, z.2, TT⟩) FStepsinit B ZB OSteps XI1 XI2 (D_is_list z) (D_is_row z), PySem.W.mg_of X G aSSteps, bStepsinit⟩ : Px.KpI l.prog w K mg base ⟨z.1, z.2, TT⟩ 4 "Steps" SSteps 2 (spInit SSteps c2 c1))
  have DQQSteps := fun z : Addr × Addr => (⟨sStepseq, _, _, OQSteps, d_Steps_eq (P := l.prog) (w := w) (base := base) (c := ⟨z.1, z.2, TT⟩) FStepseq B OSteps, bStepseq⟩ : Px.KpQ l.prog w K mg base ⟨z.1, z.2, TT⟩ 2 SSteps (spEqS SSteps))
  have D_is_indexes := fun z : Addr × Addr => d_is_indexes (P := l.prog) (w := w) (base := base) (c := ⟨z.1, z.2, TT⟩) H10 B (D_is_integer z) (D_is_list z)
  have D_is_all_numbers := fun z : Addr × Addr => d_is_all_numbers (P := l.prog) (w := w) (base := base) (c := ⟨z.1, z.2, TT⟩) H11 B ZB (D_is_indexes z)
  have D_need_steps := fun z : Addr × Addr => d_need_steps (P := l.prog) (w := w) (base := base) (c := ⟨z.1, z.2, TT⟩) H12 B OSteps XI2
  have D_total := fun z : Addr × Addr => d_total (P := l.prog) (w := w) (base := base) (c := ⟨z.1, z.2, TT⟩) H13 B (D_added z)
  have D_nodes_by := fun z : Addr × Addr => d_nodes_by (P := l.prog) (w := w) (base := base) (c := ⟨z.1, z.2, TT⟩) H14 B OSteps (D_total z)
  have D_nodes := fun z : Addr × Addr => d_nodes (P := l.prog) (w := w) (base := base) (c := ⟨z.1, z.2, TT⟩) H15 B (D_need_steps z) (D_nodes_by z)
  have D_is_explicit_by := fun z : Addr × Addr => d_is_explicit_by (P := l.prog) (w := w) (base := base) (c := ⟨z.1, z.2, TT⟩) H16 B ZB OSteps
  have D_is_explicit := fun z : Addr × Addr => d_is_explicit (P := l.prog) (w := w) (base := base) (c := ⟨z.1, z.2, TT⟩) H17 B (D_is_explicit_by z) (D_need_steps z)
  have D_renumbered_by := fun z : Addr × Addr => d_renumbered_by (P := l.prog) (w := w) (base := base) (c := ⟨z.1, z.2, TT⟩) H18 B OSteps (DSTSteps z)
  have D_renumbered := fun z : Addr × Addr => d_renumbered (P := l.prog) (w := w) (base := base) (c := ⟨z.1, z.2, TT⟩) H19 B OSteps XI1 (D_is_all_numbers z) (D_need_steps z) (D_renumbered_by z)
  have D_scaled_by := fun z : Addr × Addr => d_scaled_by (P := l.prog) (w := w) (base := base) (c := ⟨z.1, z.2, TT⟩) H20 B OSteps (DSTSteps z) (D_multiplied z)
  have D_scaled := fun z : Addr × Addr => d_scaled (P := l.prog) (w := w) (base := base) (c := ⟨z.1, z.2, TT⟩) H21 B XI0 (D_is_ratio z) (D_need_steps z) (D_scaled_by z)
  have D_turned_back_by := fun z : Addr × Addr => d_turned_back_by (P := l.prog) (w := w) (base := base) (c := ⟨z.1, z.2, TT⟩) H22 B OSteps (DSTSteps z) (D_less_by z)
  have D_turned_back := fun z : Addr × Addr => d_turned_back (P := l.prog) (w := w) (base := base) (c := ⟨z.1, z.2, TT⟩) H23 B (D_need_steps z) (D_turned_back_by z)
  have D_undone_by := fun z : Addr × Addr => d_undone_by (P := l.prog) (w := w) (base := base) (c := ⟨z.1, z.2, TT⟩) H24 B OSteps (DSTSteps z) (D_less_by z) (D_opposite z)
  have D_undone := fun z : Addr × Addr => d_undone (P := l.prog) (w := w) (base := base) (c := ⟨z.1, z.2, TT⟩) H25 B (D_need_steps z) (D_undone_by z)
  have D_law_draw := fun z : Addr × Addr => kp_draw (c := ⟨z.1, z.2, TT⟩) (d_draw (P := l.prog) (w := w) (base := base) H26 B)
  have D_law_pick := fun z : Addr × Addr => d_law_pick (P := l.prog) (w := w) (base := base) (c := ⟨z.1, z.2, TT⟩) H27 B (D_law_draw z)
  have D_law_shuffled := fun z : Addr × Addr => d_law_shuffled (P := l.prog) (w := w) (base := base) (c := ⟨z.1, z.2, TT⟩) H28 B (D_law_draw z)
  have D_law_is := fun z : Addr × Addr => d_law_isN (P := l.prog) (w := w) (base := base) (c := ⟨z.1, z.2, TT⟩) H29 B (d_law_isN (P := l.prog) (w := w) (base := base) (c := ⟨z.1, z.2, TT⟩) H29 B (d_law_isN (P := l.prog) (w := w) (base := base) (c := ⟨z.1, z.2, TT⟩) H29 B (d_law_isN (P := l.prog) (w := w) (base := base) (c := ⟨z.1, z.2, TT⟩) H29 B (d_law_isN (P := l.prog) (w := w) (base := base) (c := ⟨z.1, z.2, TT⟩) H29 B (is_zero (P := l.prog) (w := w) (base := base) (c := ⟨z.1, z.2, TT⟩) H29)))))
  have D_law_says := fun z : Addr × Addr => d_law_says (P := l.prog) (w := w) (base := base) (c := ⟨z.1, z.2, TT⟩) H30 B
  have D_law_divisor := fun z : Addr × Addr => d_law_divisor (P := l.prog) (w := w) (base := base) (c := ⟨z.1, z.2, TT⟩) H31 B
  have D_law_low := fun z : Addr × Addr => d_law_low (P := l.prog) (w := w) (base := base) (c := ⟨z.1, z.2, TT⟩) H32 B (D_law_divisor z)
  have D_law_pair := fun z : Addr × Addr => d_law_pair (P := l.prog) (w := w) (base := base) (c := ⟨z.1, z.2, TT⟩) H33 B
  have D_law_plus := fun z : Addr × Addr => d_law_plus (P := l.prog) (w := w) (base := base) (c := ⟨z.1, z.2, TT⟩) H34 B (D_law_pair z) (D_law_low z)
  have D_law_opposite := fun z : Addr × Addr => d_law_opposite (P := l.prog) (w := w) (base := base) (c := ⟨z.1, z.2, TT⟩) H35 B
  have D_law_minus := fun z : Addr × Addr => d_law_minus (P := l.prog) (w := w) (base := base) (c := ⟨z.1, z.2, TT⟩) H36 B (D_law_plus z) (D_law_opposite z)
  have D_law_times := fun z : Addr × Addr => d_law_times (P := l.prog) (w := w) (base := base) (c := ⟨z.1, z.2, TT⟩) H37 B (D_law_pair z) (D_law_low z)
  have D_law_wide := fun z : Addr × Addr => d_law_wide (P := l.prog) (w := w) (base := base) (c := ⟨z.1, z.2, TT⟩) H39 B (D_law_draw z)
  have D_law_number := fun z : Addr × Addr => d_law_number (P := l.prog) (w := w) (base := base) (c := ⟨z.1, z.2, TT⟩) H38 B (D_law_draw z) (D_law_low z) (D_law_wide z)
  have D_law_size := fun z : Addr × Addr => d_law_size (P := l.prog) (w := w) (base := base) (c := ⟨z.1, z.2, TT⟩) H40 B (D_law_pick z)
  have D_law_odd := fun z : Addr × Addr => d_law_odd (P := l.prog) (w := w) (base := base) (c := ⟨z.1, z.2, TT⟩) H41 B (D_law_pick z)
  have D_law_more_kinds := fun z : Addr × Addr => d_law_more_kinds (P := l.prog) (w := w) (base := base) (c := ⟨z.1, z.2, TT⟩) H43 B TC
  have D_law_kinds := fun z : Addr × Addr => d_law_kinds (P := l.prog) (w := w) (base := base) (c := ⟨z.1, z.2, TT⟩) H42 B TC (D_law_more_kinds z)
  have D_law_fraction := fun z : Addr × Addr => d_law_fraction (P := l.prog) (w := w) (base := base) (c := ⟨z.1, z.2, TT⟩) H44 B (D_law_draw z) (D_law_low z)
  have D_law_table := fun z : Addr × Addr => d_law_table (P := l.prog) (w := w) (base := base) (c := ⟨z.1, z.2, TT⟩) H45 B (D_law_draw z) (D_law_fraction z) (D_law_minus z)
  have D_law_is_steps := fun z : Addr × Addr => d_law_is_steps (P := l.prog) (w := w) (base := base) (c := ⟨z.1, z.2, TT⟩) H46 B OSteps (D_law_is z)
  have D_law_sum := fun z : Addr × Addr => d_law_sum (P := l.prog) (w := w) (base := base) (c := ⟨z.1, z.2, TT⟩) H47 B (D_law_plus z)
  have D_law_two := fun z : Addr × Addr => d_law_two (P := l.prog) (w := w) (base := base) (c := ⟨z.1, z.2, TT⟩) H52 B hVE TC H55 (D_law_kinds z) (M52 z) (DSTSteps z)
  have D_law_made := fun z : Addr × Addr => d_law_made (P := l.prog) (w := w) (base := base) (c := ⟨z.1, z.2, TT⟩) H49 B (D_law_odd z) (D_law_pick z) (D_law_two z)
  have D_law_more := fun z : Addr × Addr => d_law_more (P := l.prog) (w := w) (base := base) (c := ⟨z.1, z.2, TT⟩) H53 B hVE TC H55 (D_law_kinds z) (M53 z) (fun f e1 e2 => of_decide_eq_true nRS (Value.ref.inj (Option.some.inj ((PySem.W.mg_of X G g19).symm.trans (e1.trans (e2.symm.trans (PySem.W.mg_of X G g21))))))) (D_renumbered z) (D_scaled z)
  have D_law_one := fun z : Addr × Addr => d_law_one (P := l.prog) (w := w) (base := base) (c := ⟨z.1, z.2, TT⟩) H51 B hVE TC H55 (D_law_kinds z) (M51 z) (D_nodes z) (D_is_explicit z) (D_turned_back z) (D_undone z)
  have D_law_refused := fun z : Addr × Addr => d_law_refused (P := l.prog) (w := w) (base := base) (c := ⟨z.1, z.2, TT⟩) H50 B (D_law_more z) (D_law_odd z) (D_law_one z) (D_law_pick z) (PySem.W.mg_of X G g15) (PySem.W.mg_of X G g17) (PySem.W.mg_of X G g23) (PySem.W.mg_of X G g25) (PySem.W.mg_of X G g19) (PySem.W.mg_of X G g21)
  have D_law_right := fun z : Addr × Addr => d_law_right (P := l.prog) (w := w) (base := base) (c := ⟨z.1, z.2, TT⟩) H48 B OSteps (DQQSteps z) (DSTSteps z) (D_law_draw z) (D_law_is z) (D_law_is_steps z) (D_law_made z) (D_law_minus z) (D_law_number z) (D_law_opposite z) (D_law_refused z) (D_law_says z) (D_law_shuffled z) (D_law_size z) (D_law_sum z) (D_law_table z) (D_law_times z) (D_is_explicit z) (D_nodes z) (D_renumbered z) (D_scaled z) (D_turned_back z) (D_undone z)
  refine Px.FnG.imp (d_law (TT := TT) F56 B (d_pen H54 B) D_law_right) fun vs H Q E h => ?_
  obtain ⟨a, ns, rfl, hS, hT, fin⟩ := h
  refine ⟨a, ns, rfl, hS, fun z hz => hT z.1 ?_, fin⟩
  rw [hTT] at hz
  simp only [List.mem_cons, List.not_mem_nil, or_false] at hz
  rcases hz with rfl | rfl | rfl <;> simp
end K11
section
open PySem PySem.W PyProof.Rows
set_option maxRecDepth 100000 in
set_option maxHeartbeats 8000000 in
open_top hd for PySem.Challenge.rw_fracsteps_k11_whole_tables_of_stages
end
open PySem PySem.W PyProof.Rows
set_option maxRecDepth 100000 in
set_option maxHeartbeats 8000000 in
theorem PySem.Challenge.cw_fracsteps_k11_whole_tables_of_stages_holds : PySem.Challenge.rw_fracsteps_k11_whole_tables_of_stages.Holds := by
  refine hd ?_
  k_fill
  refine Lx.walk_ofT (l := PySem.Challenge.rw_fracsteps_k11_whole_tables_of_stages) (n := 63) (k := 13) (x := "script") (sp := K11.spLawT) ["_law_one", "_law_two", "_law_more"] rfl (by decide) rfl ⟨rfl, by decide, by decide⟩ (by decide +kernel) (fun w h Y => PySem.W.km_in_of Y) ?F (fun K ts H a ns _ hT hS => ⟨a, ns, rfl, hS, hT, fun _ => rfl⟩)
  case F =>
    intro w mg fa h KX G hmg mks
    refine' K11.all_mk KX G hmg mks ?aS ?a0 ?a1 ?a2 ?a3 ?a4 ?a5 ?a6 ?a7 ?a8 ?a9 ?a10 ?a11 ?a12 ?a13 ?a14 ?a15 ?g0 ?g1 ?g2 ?g3 ?g4 ?g5 ?g6 ?g7 ?g8 ?g9 ?g10 ?g11 ?g12 ?g13 ?g14 ?g15 ?g16 ?g17 ?g18 ?g19 ?g20 ?g21 ?g22 ?g23 ?g24 ?g25 ?g26 ?g27 ?g28 ?g29 ?g30 ?g31 ?g32 ?g33 ?g34 ?g35 ?g36 ?g37 ?g38 ?g39 ?g40 ?g41 ?g42 ?g43 ?g44 ?g45 ?g46 ?g47 ?g48 ?g49 ?g50 ?g51 ?g52 ?g53 ?g54 ?g55 ?g56 ?z_int ?z_bool ?z_str ?z_list ?z_tuple ?z_len ?z_range ?z_repr ?z_isinstance ?z_abs ?z_all ?z_zip ?z_ValueError ?z_gcd ?l0 ?d0 ?k0 ?l1 ?d1 ?k1 ?l2 ?d2 ?k2 ?l3 ?d3 ?k3 ?l4 ?d4 ?k4 ?l5 ?d5 ?k5 ?l6 ?d6 ?k6 ?l7 ?d7 ?k7 ?l8 ?d8 ?k8 ?l9 ?d9 ?k9 ?l10 ?d10 ?k10 ?l11 ?d11 ?k11 ?l12 ?d12 ?k12 ?l13 ?d13 ?k13 ?l14 ?d14 ?k14 ?l15 ?d15 ?k15 ?l16 ?d16 ?k16 ?l17 ?d17 ?k17 ?l18 ?d18 ?k18 ?l19 ?d19 ?k19 ?l20 ?d20 ?k20 ?l21 ?d21 ?k21 ?l22 ?d22 ?k22 ?l23 ?d23 ?k23 ?l24 ?d24 ?k24 ?l25 ?d25 ?k25 ?l26 ?d26 ?k26 ?l27 ?d27 ?k27 ?l28 ?d28 ?k28 ?l29 ?d29 ?k29 ?l30 ?d30 ?k30 ?l31 ?d31 ?k31 ?l32 ?d32 ?k32 ?l33 ?d33 ?k33 ?l34 ?d34 ?k34 ?l35 ?d35 ?k35 ?l36 ?d36 ?k36 ?l37 ?d37 ?k37 ?l38 ?d38 ?k38 ?l39 ?d39 ?k39 ?l40 ?d40 ?k40 ?l41 ?d41 ?k41 ?l42 ?d42 ?k42 ?l43 ?d43 ?k43 ?l44 ?d44 ?k44 ?l45 ?d45 ?k45 ?l46 ?d46 ?k46 ?l47 ?d47 ?k47 ?l48 ?d48 ?k48 ?l49 ?d49 ?k49 ?l50 ?d50 ?k50 ?l51 ?d51 ?k51 ?o51 ?p51 ?nt51 ?l52 ?d52 ?k52 ?o52 ?p52 ?nt52 ?l53 ?d53 ?k53 ?o53 ?p53 ?nt53 ?l54 ?d54 ?k54 ?l55 ?d55 ?k55 ?l56 ?d56 ?k56 ?ntd ?n0_0 ?n0_1 ?x0 ?r0 ?sa0 ?ty0 ?kc0 ?i0 ?t0 ?el0 ?em0 ?ek0 ?n1_0 ?n1_1 ?x1 ?r1 ?sa1 ?ty1 ?kc1 ?i1 ?t1 ?el1 ?em1 ?ek1 ?n2_0 ?x2 ?r2 ?sa2 ?ty2 ?kc2 ?i2 ?t2 ?el2 ?em2 ?ek2 ?n3_0 ?n4_0 ?n5_0 ?n6_0 ?n6_1 ?n7_0 ?n7_1 ?n8_0 ?n9_0 ?n10_0 ?n11_0 ?n12_0 ?n12_1 ?n12_2 ?n13_0 ?n13_1 ?zn_enumerate ?zn_sorted ?zc_MOST_STAGES ?aSSteps ?pgSteps ?hdSteps ?poSteps ?saSteps ?mkSteps ?kcSteps ?nSteps_a ?nSteps_b ?iStepsinit ?fStepsinit ?lStepsinit ?dStepsinit ?kStepsinit ?iStepseq ?fStepseq ?lStepseq ?dStepseq ?kStepseq ?kiSteps ?knSteps ?haSteps ?hmSteps ?hnG ?htG ?neSteps ?nfSteps ?ntSteps ?nRS ?tS ?hS ?bS ?chk ?ndp
    (case aS => k_is)
    (case a0 => k_is)
    (case a1 => k_is)
    (case a2 => k_is)
    (case a3 => k_is)
    (case a4 => k_is)
    (case a5 => k_is)
    (case a6 => k_is)
    (case a7 => k_is)
    (case a8 => k_is)
    (case a9 => k_is)
    (case a10 => k_is)
    (case a11 => k_is)
    (case a12 => k_is)
    (case a13 => k_is)
    (case a14 => k_is)
    (case a15 => k_is)
    (case g0 => k_is)
    (case g1 => k_is)
    (case g2 => k_is)
    (case g3 => k_is)
    (case g4 => k_is)
    (case g5 => k_is)
    (case g6 => k_is)
    (case g7 => k_is)
    (case g8 => k_is)
    (case g9 => k_is)
    (case g10 => k_is)
    (case g11 => k_is)
    (case g12 => k_is)
    (case g13 => k_is)
    (case g14 => k_is)
    (case g15 => k_is)
    (case g16 => k_is)
    (case g17 => k_is)
    (case g18 => k_is)
    (case g19 => k_is)
    (case g20 => k_is)
    (case g21 => k_is)
    (case g22 => k_is)
    (case g23 => k_is)
    (case g24 => k_is)
    (case g25 => k_is)
    (case g26 => k_is)
    (case g27 => k_is)
    (case g28 => k_is)
    (case g29 => k_is)
    (case g30 => k_is)
    (case g31 => k_is)
    (case g32 => k_is)
    (case g33 => k_is)
    (case g34 => k_is)
    (case g35 => k_is)
    (case g36 => k_is)
    (case g37 => k_is)
    (case g38 => k_is)
    (case g39 => k_is)
    (case g40 => k_is)
    (case g41 => k_is)
    (case g42 => k_is)
    (case g43 => k_is)
    (case g44 => k_is)
    (case g45 => k_is)
    (case g46 => k_is)
    (case g47 => k_is)
    (case g48 => k_is)
    (case g49 => k_is)
    (case g50 => k_is)
    (case g51 => k_is)
    (case g52 => k_is)
    (case g53 => k_is)
    (case g54 => k_is)
    (case g55 => k_is)
    (case g56 => k_is)
    (case z_int => k_is)
    (case z_bool => k_is)
    (case z_str => k_is)
    (case z_list => k_is)
    (case z_tuple => k_is)
    (case z_len => k_is)
    (case z_range => k_is)
    (case z_repr => k_is)
    (case z_isinstance => k_is)
    (case z_abs => k_is)
    (case z_all => k_is)
    (case z_zip => k_is)
    (case z_ValueError => k_is)
    (case z_gcd => k_is)
    (case l0 => k_is)
    (case d0 => k_is)
    (case k0 => k_is)
    (case l1 => k_is)
    (case d1 => k_is)
    (case k1 => k_is)
    (case l2 => k_is)
    (case d2 => k_is)
    (case k2 => k_is)
    (case l3 => k_is)
    (case d3 => k_is)
    (case k3 => k_is)
    (case l4 => k_is)
    (case d4 => k_is)
    (case k4 => k_is)
    (case l5 => k_is)
    (case d5 => k_is)
    (case k5 => k_is)
    (case l6 => k_is)
    (case d6 => k_is)
    (case k6 => k_is)
    (case l7 => k_is)
    (case d7 => k_is)
    (case k7 => k_is)
    (case l8 => k_is)
    (case d8 => k_is)
    (case k8 => k_is)
    (case l9 => k_is)
    (case d9 => k_is)
    (case k9 => k_is)
    (case l10 => k_is)
    (case d10 => k_is)
    (case k10 => k_is)
    (case l11 => k_is)
    (case d11 => k_is)
    (case k11 => k_is)
    (case l12 => k_is)
    (case d12 => k_is)
    (case k12 => k_is)
    (case l13 => k_is)
    (case d13 => k_is)
    (case k13 => k_is)
    (case l14 => k_is)
    (case d14 => k_is)
    (case k14 => k_is)
    (case l15 => k_is)
    (case d15 => k_is)
    (case k15 => k_is)
    (case l16 => k_is)
    (case d16 => k_is)
    (case k16 => k_is)
    (case l17 => k_is)
    (case d17 => k_is)
    (case k17 => k_is)
    (case l18 => k_is)
    (case d18 => k_is)
    (case k18 => k_is)
    (case l19 => k_is)
    (case d19 => k_is)
    (case k19 => k_is)
    (case l20 => k_is)
    (case d20 => k_is)
    (case k20 => k_is)
    (case l21 => k_is)
    (case d21 => k_is)
    (case k21 => k_is)
    (case l22 => k_is)
    (case d22 => k_is)
    (case k22 => k_is)
    (case l23 => k_is)
    (case d23 => k_is)
    (case k23 => k_is)
    (case l24 => k_is)
    (case d24 => k_is)
    (case k24 => k_is)
    (case l25 => k_is)
    (case d25 => k_is)
    (case k25 => k_is)
    (case l26 => k_is)
    (case d26 => k_is)
    (case k26 => k_is)
    (case l27 => k_is)
    (case d27 => k_is)
    (case k27 => k_is)
    (case l28 => k_is)
    (case d28 => k_is)
    (case k28 => k_is)
    (case l29 => k_is)
    (case d29 => k_is)
    (case k29 => k_is)
    (case l30 => k_is)
    (case d30 => k_is)
    (case k30 => k_is)
    (case l31 => k_is)
    (case d31 => k_is)
    (case k31 => k_is)
    (case l32 => k_is)
    (case d32 => k_is)
    (case k32 => k_is)
    (case l33 => k_is)
    (case d33 => k_is)
    (case k33 => k_is)
    (case l34 => k_is)
    (case d34 => k_is)
    (case k34 => k_is)
    (case l35 => k_is)
    (case d35 => k_is)
    (case k35 => k_is)
    (case l36 => k_is)
    (case d36 => k_is)
    (case k36 => k_is)
    (case l37 => k_is)
    (case d37 => k_is)
    (case k37 => k_is)
    (case l38 => k_is)
    (case d38 => k_is)
    (case k38 => k_is)
    (case l39 => k_is)
    (case d39 => k_is)
    (case k39 => k_is)
    (case l40 => k_is)
    (case d40 => k_is)
    (case k40 => k_is)
    (case l41 => k_is)
    (case d41 => k_is)
    (case k41 => k_is)
    (case l42 => k_is)
    (case d42 => k_is)
    (case k42 => k_is)
    (case l43 => k_is)
    (case d43 => k_is)
    (case k43 => k_is)
    (case l44 => k_is)
    (case d44 => k_is)
    (case k44 => k_is)
    (case l45 => k_is)
    (case d45 => k_is)
    (case k45 => k_is)
    (case l46 => k_is)
    (case d46 => k_is)
    (case k46 => k_is)
    (case l47 => k_is)
    (case d47 => k_is)
    (case k47 => k_is)
    (case l48 => k_is)
    (case d48 => k_is)
    (case k48 => k_is)
    (case l49 => k_is)
    (case d49 => k_is)
    (case k49 => k_is)
    (case l50 => k_is)
    (case d50 => k_is)
    (case k50 => k_is)
    (case l51 => k_is)
    (case d51 => k_is)
    (case k51 => k_is)
    (case o51 => k_is)
    (case p51 => rfl)
    (case nt51 => kernel_rfl)
    (case l52 => k_is)
    (case d52 => k_is)
    (case k52 => k_is)
    (case o52 => k_is)
    (case p52 => rfl)
    (case nt52 => kernel_rfl)
    (case l53 => k_is)
    (case d53 => k_is)
    (case k53 => k_is)
    (case o53 => k_is)
    (case p53 => rfl)
    (case nt53 => kernel_rfl)
    (case l54 => k_is)
    (case d54 => k_is)
    (case k54 => k_is)
    (case l55 => k_is)
    (case d55 => k_is)
    (case k55 => k_is)
    (case l56 => k_is)
    (case d56 => k_is)
    (case k56 => k_is)
    (case ntd => decide +kernel)
    (case n0_0 => k_is)
    (case n0_1 => k_is)
    (case x0 => k_is)
    (case r0 => decide +kernel)
    (case sa0 => k_is)
    (case ty0 => k_is)
    (case kc0 => k_is)
    (case i0 => k_is)
    (case t0 => k_is)
    (case el0 => k_is)
    (case em0 => k_is)
    (case ek0 => k_is)
    (case n1_0 => k_is)
    (case n1_1 => k_is)
    (case x1 => k_is)
    (case r1 => decide +kernel)
    (case sa1 => k_is)
    (case ty1 => k_is)
    (case kc1 => k_is)
    (case i1 => k_is)
    (case t1 => k_is)
    (case el1 => k_is)
    (case em1 => k_is)
    (case ek1 => k_is)
    (case n2_0 => k_is)
    (case x2 => k_is)
    (case r2 => decide +kernel)
    (case sa2 => k_is)
    (case ty2 => k_is)
    (case kc2 => k_is)
    (case i2 => k_is)
    (case t2 => k_is)
    (case el2 => k_is)
    (case em2 => k_is)
    (case ek2 => k_is)
    (case n3_0 => k_is)
    (case n4_0 => k_is)
    (case n5_0 => k_is)
    (case n6_0 => k_is)
    (case n6_1 => k_is)
    (case n7_0 => k_is)
    (case n7_1 => k_is)
    (case n8_0 => k_is)
    (case n9_0 => k_is)
    (case n10_0 => k_is)
    (case n11_0 => k_is)
    (case n12_0 => k_is)
    (case n12_1 => k_is)
    (case n12_2 => k_is)
    (case n13_0 => k_is)
    (case n13_1 => k_is)
    (case zn_enumerate => k_is)
    (case zn_sorted => k_is)
    (case zc_MOST_STAGES => k_is)
    (case aSSteps => k_is)
    (case pgSteps => k_is)
    (case hdSteps => k_is)
    (case poSteps => k_is)
    (case saSteps => k_is)
    (case mkSteps => k_is)
    (case kcSteps => k_is)
    (case nSteps_a => k_is)
    (case nSteps_b => k_is)
    (case iStepsinit => k_is)
    (case fStepsinit => k_is)
    (case lStepsinit => k_is)
    (case dStepsinit => k_is)
    (case kStepsinit => k_is)
    (case iStepseq => k_is)
    (case fStepseq => k_is)
    (case lStepseq => k_is)
    (case dStepseq => k_is)
    (case kStepseq => k_is)
    (case kiSteps => kernel_rfl)
    (case knSteps => kernel_rfl)
    (case haSteps => k_is)
    (case hmSteps => k_is)
    (case hnG => k_is)
    (case htG => k_is)
    (case neSteps => k_is)
    (case nfSteps => kernel_rfl)
    (case ntSteps => kernel_rfl)
    (case nRS => decide +kernel)
    (case tS => k_is)
    (case hS => k_is)
    (case bS => k_is)
    (case chk => kernel_rfl)
    (case ndp => decide +kernel)
