import PyProof.Rows.All
import Wide.All
import OpenK.AllK
import Wide.FinOn
import KE.KStateDown
import HandS.ForMost
import HandS.ForExc
import HandS.Defaults
import HandS.Star
import HandS.Property
import HandS.StrMore
import HandS.TupAny
import HandS.IsInst
import HandS.EndBits
import HandS.Wide
import HandS.Evl
import HandS.HeadEnd
import HandS.Head2
import HandS.HeadHook2
import PyProof.Draws
import PyProof.ReprLen
import PyProof.ReprRoads
import HandS.Walk
import PySem.Challenge.RW_filelayer_k04_texts_and_last_names
set_option Elab.async false
set_option linter.all false
set_option maxRecDepth 100000
set_option maxHeartbeats 8000000
namespace FL
open PySem PySem.Spec PyProof.Rows L2

/-! ### room, with the guards told -/
structure Rm (k : Nat) (A : Around) : Prop where
  r : Room k A
  g : A.guards = some []
theorem Rm.mono {j k : Nat} {A : Around} (r : Rm k A) (h : j ≤ k) : Rm j A := ⟨r.r.mono h, r.g⟩
theorem guards_deeper {A : Around} {env : Env} (h : A.guards = some []) : (A.deeper env).guards = some [] := by
  first | exact h | (simp [Around.deeper, h])
theorem Rm.deeper {k : Nat} {A : Around} (r : Rm (k + 1) A) (env : Env) : Rm k (A.deeper env) := ⟨r.r.deeper env, guards_deeper r.g⟩
theorem Rm.in1 {k : Nat} {A : Around} (r : Rm (k + 1) A) : Rm k A.in1 := ⟨r.r.in1, r.g⟩
theorem guards_make {A : Around} {C : Addr} {us : List Value} {kw : List (Str × Value)} (h : A.guards = some []) : (A.under (.builtin "type.__call__" ⟨.ref C :: us, kw⟩)).guards = some [] := by
  first | exact h | (simp [Around.under, Code.weight, Code.isCreation, Code.isGuard, Code.isCaller, Code.frames, Code.isFrame, guardIds, Code.guards, pushGuards, h])
theorem Rm.make {k : Nat} {A : Around} (r : Rm (k + 1) A) (C : Addr) (us : List Value) (kw : List (Str × Value)) : Rm k (A.under (.builtin "type.__call__" ⟨.ref C :: us, kw⟩)) := ⟨r.r.make C us kw, guards_make r.g⟩

/-! ### the promise of a def: positional values vs, then the values zs of the keywords ks -/
def Fn (P : Program) (w : World) (K : PySem.W.Frag) (mg : Str → Option Value) (base : Heap) (k : Nat) (f : Addr) (ks : List Str) (sp : Sp) : Prop :=
  ∀ (A : Around) (outer : List Env) (s : Shared) (H : Hp) (us ws : List Value) (vs zs : List V) (Q : VK) (E : XK), Rm k A → Env0 P w K mg base A outer s H → Vals vs us → Vals zs ws → zs.length = ks.length → sp (vs ++ zs) H Q E →
    codeAny (model P w) A (.call (.ref f) ⟨us, ks.zip ws⟩) (CR (L2.CX P w) outer P w H s Q E) s
section
variable {P : Program} {w : World} {K : PySem.W.Frag} {mg : Str → Option Value} {base : Heap} {j k : Nat} {f : Addr} {ks : List Str} {sp sp' : Sp}
theorem Fn.mono (F : Fn P w K mg base j f ks sp) (h : j ≤ k) : Fn P w K mg base k f ks sp := fun A outer s H us ws vs zs Q E hr => F A outer s H us ws vs zs Q E (hr.mono h)
theorem Fn.imp (F : Fn P w K mg base k f ks sp) (h : ∀ vs H Q E, sp' vs H Q E → sp vs H Q E) : Fn P w K mg base k f ks sp' := fun A outer s H us ws vs zs Q E hr e0 r rz l hs => F A outer s H us ws vs zs Q E hr e0 r rz l (h _ _ _ _ hs)
end

section
variable {P : Program} {w : World} {K : PySem.W.Frag} {mg : Str → Option Value} {base : Heap} {k : Nat} {f : Addr} {x qual : Str} {params : Arguments} {body : List Stmt} {scope : Scope} {dvs : List V} {kws : List (Str × V)} {fd : FuncData} {N ps ks : List Str} {sp sp2 : Sp}
/-- THE RULE for a def: how it binds, then its body -/
theorem fn_bnd (F : FunD K x qual params body scope dvs kws f fd) (S : FnScope N ps scope)
    (hb : ∀ (A : Around) (outer : List Env) (s : Shared) (H : Hp) (us ws : List Value) (vs zs : List V) (Q : VK) (E : XK), Env0 P w K mg base A outer s H → Vals vs us → Vals zs ws → zs.length = ks.length → sp (vs ++ zs) H Q E →
      StX.Bnd (L2.CX P w) P w K mg base fd ⟨us, ks.zip ws⟩ ps A outer s H E (fun xs H2 => sp2 xs H2 Q E))
    (hbody : ∀ (cdv : Value) (A : Around) (outer : List Env) (s : Shared) (H : Hp) (vs : List V) (Q : VK) (E : XK), Rm k (A.deeper (envOfC qual scope s.heap.objs.size f cdv)) → sp2 vs H Q E →
      ∃ t, PSs (cxOf (L2.CX P w) P w K mg base N qual scope f cdv A outer s H E) body t ∧ t { nx := fun _ H' => Q .non H', rt := Q } (start N vs) H) : Fn P w K mg base (k + 1) f ks sp := by
  intro A outer s H us ws vs zs Q E hr e0 r rz l hs
  obtain ⟨oc, od, dV, kV, doc, pm, an, cdv, ct, osl, e, lk, hcd, _, _⟩ := F.ex
  have B := hb A outer s H us ws vs zs Q E e0 r rz l hs
  subst e
  exact StX.run_bnd lk hcd S hr.r e0 B fun s2 H2 xs g hr2 => hbody cdv A outer s2 H2 xs Q E ⟨hr2, guards_deeper hr.g⟩ g
/-- plain positional parameters; the defaults ds fill up -/
theorem fn_pos {ds : List Value} {dv : List V} (F : FunD K x qual params body scope dvs kws f fd) (S : FnScope N ps scope) (len : ∀ vs H Q E, sp2 vs H Q E → vs.length = ps.length) (hb : Binds K fd ps ds) (hd : Vals dv ds)
    (hbody : ∀ (cdv : Value) (A : Around) (outer : List Env) (s : Shared) (H : Hp) (vs : List V) (Q : VK) (E : XK), Rm k (A.deeper (envOfC qual scope s.heap.objs.size f cdv)) → sp2 vs H Q E →
      ∃ t, PSs (cxOf (L2.CX P w) P w K mg base N qual scope f cdv A outer s H E) body t ∧ t { nx := fun _ H' => Q .non H', rt := Q } (start N vs) H) : Fn P w K mg base (k + 1) f [] (fun vs H Q E => sp2 (vs ++ dv) H Q E) := by
  refine fn_bnd (ks := []) F S (fun A outer s H us ws vs zs Q E e0 r rz l hs A' Ex Q' h => ?_) hbody
  have ez : zs = [] := List.length_eq_zero_iff.mp l
  subst ez
  cases rz
  rw [List.append_nil] at hs
  have r2 : Vals (vs ++ dv) (us ++ ds) := r.append hd
  have hl := len _ _ _ _ hs
  have hu : (us ++ ds).length = ps.length := by rw [← r2.length]; exact hl
  exact hb s us (e0.mod.kin.keeps fun b o e => (e0.bs b o e).1) hu _ _ _ _ (h s H (vs ++ dv) (us ++ ds) e0 Un.refl rfl (fun _ _ z => z) r2 hl hs)
theorem fn_all (F : FunD K x qual params body scope dvs kws f fd) (S : FnScope N ps scope) (len : ∀ vs H Q E, sp vs H Q E → vs.length = ps.length) (hb : Binds K fd ps [])
    (hbody : ∀ (cdv : Value) (A : Around) (outer : List Env) (s : Shared) (H : Hp) (vs : List V) (Q : VK) (E : XK), Rm k (A.deeper (envOfC qual scope s.heap.objs.size f cdv)) → sp vs H Q E →
      ∃ t, PSs (cxOf (L2.CX P w) P w K mg base N qual scope f cdv A outer s H E) body t ∧ t { nx := fun _ H' => Q .non H', rt := Q } (start N vs) H) : Fn P w K mg base (k + 1) f [] sp := by
  have z := fn_pos (dv := []) F S len hb .nil hbody
  simp only [List.append_nil] at z
  exact z
/-- keywords -/
theorem fn_key {n : Nat} {g : List Value → List Value → List Value} {gV : List V → List V → List V} (F : FunD K x qual params body scope dvs kws f fd) (S : FnScope N ps scope) (len : ∀ vs H Q E, sp2 vs H Q E → vs.length = ps.length) (hb : KBn K fd ps n ks g gV)
    (hbody : ∀ (cdv : Value) (A : Around) (outer : List Env) (s : Shared) (H : Hp) (vs : List V) (Q : VK) (E : XK), Rm k (A.deeper (envOfC qual scope s.heap.objs.size f cdv)) → sp2 vs H Q E →
      ∃ t, PSs (cxOf (L2.CX P w) P w K mg base N qual scope f cdv A outer s H E) body t ∧ t { nx := fun _ H' => Q .non H', rt := Q } (start N vs) H) :
    Fn P w K mg base (k + 1) f ks (fun xs H Q E => ∃ vs zs, xs = vs ++ zs ∧ vs.length = n ∧ zs.length = ks.length ∧ sp2 (gV vs zs) H Q E) := by
  refine fn_bnd F S (fun A outer s H us ws vs zs Q E e0 r rz l hs A' Ex Q' h => ?_) hbody
  obtain ⟨vs', zs', e, l1, l2, hs⟩ := hs
  obtain ⟨e1, e2⟩ := List.append_inj' e (l.trans l2.symm)
  subst e1 e2
  have r2 := hb.rel r rz
  have hl := len _ _ _ _ hs
  exact hb.to s us ws (e0.mod.kin.keeps fun b o e => (e0.bs b o e).1) (r.length.symm.trans l1) (rz.length.symm.trans l2) _ _ _ _ (h s H _ _ e0 Un.refl rfl (fun _ _ z => z) r2 hl hs)
/-- def f(a, .., *v) -/
theorem fn_var {pv : Str} (F : FunD K x qual params body scope dvs kws f fd) (S : FnScope N (ps ++ [pv]) scope)
    (hb : ∀ us rest : List Value, us.length = ps.length → bindArgs fd ⟨us ++ rest, []⟩ = (newTuple rest >>= fun t => pure (ps.zip us ++ [(pv, t)])))
    (hbody : ∀ (cdv : Value) (A : Around) (outer : List Env) (s : Shared) (H : Hp) (vs : List V) (Q : VK) (E : XK), Rm k (A.deeper (envOfC qual scope s.heap.objs.size f cdv)) → sp vs H Q E →
      ∃ t, PSs (cxOf (L2.CX P w) P w K mg base N qual scope f cdv A outer s H E) body t ∧ t { nx := fun _ H' => Q .non H', rt := Q } (start N vs) H) :
    Fn P w K mg base (k + 1) f [] (fun vs H Q E => ∃ ws rest, vs = ws ++ rest ∧ ws.length = ps.length ∧ rest.length ≤ sizeLine ∧ ∀ p, H p = Option.none → sp (ws ++ [V.ref p]) (upd H p (.tup rest)) Q E) := by
  intro A outer s H us ws0 vs zs Q E hr e0 r rz l hs
  have ez : zs = [] := List.length_eq_zero_iff.mp l
  subst ez
  cases rz
  rw [List.append_nil] at hs
  obtain ⟨oc, od, dV, kV, doc, pm, an, cdv, ct, osl, e, lk, hcd, _, _⟩ := F.ex
  subst e
  have hg := hr.g
  have Z : L2.FnR P w K mg base (L2.CX P w) (k + 1) f (fun vs H Q E => (∃ ws rest, vs = ws ++ rest ∧ ws.length = ps.length ∧ rest.length ≤ sizeLine ∧ ∀ p, H p = Option.none → sp (ws ++ [V.ref p]) (upd H p (.tup rest)) Q E)) → True := fun _ => trivial
  obtain ⟨ws, rest, ev, hl, hz, hq⟩ := hs
  subst ev
  obtain ⟨u1, u2, eu, r1, r2⟩ := StX.vals_split r
  subst eu
  have hn : H s.heap.objs.size = Option.none := e0.hok.fresh (Nat.le_refl _)
  have hl1 : u1.length = ps.length := by rw [← r1.length]; exact hl
  have hl2 : u2.length ≤ sizeLine := by rw [← r2.length]; exact hz
  show codeAny _ _ (.call (.ref f) ⟨u1 ++ u2, []⟩) _ _
  refine StX.run_bnd lk hcd S hr.r e0 (G := fun xs H2 => ∃ p, H p = Option.none ∧ xs = ws ++ [V.ref p] ∧ H2 = upd H p (.tup rest)) (fun A' Ex Q' h => ?_) fun s2 H2 xs ⟨p, hp, ex, eH⟩ hr' => ?_
  · rw [hb u1 u2 hl1]
    refine wpAny_bind (wpAny_newTuple (wpAny_pure ?_) hl2)
    have new : ObjOk P w (upd H s.heap.objs.size (.tup rest)) (s.heap.push ({ cls := .type "tuple", data := .seq u2.toArray } : Obj)) s.heap.objs.size (.tup rest) := ⟨hz, u2, r2, ⟨_, Heap.get?_push_size _ rfl, rfl, _, rfl⟩⟩
    have un := StX.un_laid (fs := frs outer) (s := s) (o := ({ cls := .type "tuple", data := .seq u2.toArray } : Obj)) (u := .tup rest) hn
    have z := h _ _ (ws ++ [V.ref s.heap.objs.size]) (u1 ++ [Value.ref s.heap.objs.size]) (StX.env0_laid e0 new) un rfl (fun e s' => StX.cxUp outer s H _ _ E e s' un (fun b o q => Heap.get?_push_of_some _ q) rfl) (r1.append (.cons rfl .nil))
      (by rw [List.length_append, List.length_append, hl] <;> rfl) ⟨_, hn, rfl, rfl⟩
    rw [List.zip_append hl1.symm] at z
    exact z
  · subst ex eH
    exact hbody cdv A outer s2 _ _ Q E ⟨hr', guards_deeper hg⟩ (hq p hp)
end

/-! ### calls -/
/-- f(..) by its promise -/
def cCall (sp : Sp) (E : XK) (t : TA) : TE := fun σ H Q => t σ H fun vs H1 => sp vs H1 Q E
/-- f(.., k = v) -/
def cCallK (m : Nat) (sp : Sp) (E : XK) (t tk : TA) : TE := fun σ H Q => t σ H fun vs H1 => tk σ H1 fun zs H2 => zs.length = m ∧ sp (vs ++ zs) H2 Q E
/-- o.m(..) -/
def cMeth (C : Addr) (m : Str) (sp : Sp) (E : XK) (ta : TE) (t : TA) : TE := fun σ H Q => ta σ H fun x H1 => ∃ a dx fs, x = .ref a ∧ H1 a = some (.ins C dx fs) ∧ fs.lookup m = none ∧ t σ H1 fun vs H2 => sp (x :: vs) H2 Q E
def cMethK (C : Addr) (m : Str) (n : Nat) (sp : Sp) (E : XK) (ta : TE) (t tk : TA) : TE := fun σ H Q => ta σ H fun x H1 => ∃ a dx fs, x = .ref a ∧ H1 a = some (.ins C dx fs) ∧ fs.lookup m = none ∧ t σ H1 fun vs H2 => tk σ H2 fun zs H3 => zs.length = n ∧ sp (x :: (vs ++ zs)) H3 Q E
/-- C(..) -/
def cMake (C : Addr) (sp : Sp) (E : XK) (t : TA) : TE := fun σ H Q => t σ H fun vs H1 => ∀ x dx, H1 x = none → H1 dx = none → dx ≠ x →
  sp (.ref x :: vs) (upd (upd H1 dx (.own x)) x (.ins C dx [])) (fun v H2 => v = .non ∧ Q (.ref x) H2) E
def cMakeK (C : Addr) (m : Nat) (sp : Sp) (E : XK) (t tk : TA) : TE := fun σ H Q => t σ H fun vs H1 => tk σ H1 fun zs H2 => zs.length = m ∧ ∀ x dx, H2 x = none → H2 dx = none → dx ≠ x →
  sp (.ref x :: (vs ++ zs)) (upd (upd H2 dx (.own x)) x (.ins C dx [])) (fun v H3 => v = .non ∧ Q (.ref x) H3) E
section
variable {X : Cx} {k : Nat} {f C : Addr} {sp : Sp} {E : XK} {x m : Str} {p sp_ pos apos : Pos} {e o : Expr} {es : List Expr} {kws : List Keyword} {ta te : TE} {t tk : TA} {ks : List Str}
theorem run_f {pins : List (Addr × Obj)} {σ : L2.St} {H : Hp} {s : Shared} {Q : VK} {us ws : List Value} {vs zs : List V} (F : Fn X.prog X.w X.K X.mg X.base k f ks sp) (hr : Rm k X.A) (hx : Passes (L2.CX X.prog X.w) X E)
    (I : Inv X pins σ H s) (r : Vals vs us) (rz : Vals zs ws) (l : zs.length = ks.length) (h : sp (vs ++ zs) H Q E) : wpAny (model X.prog X.w) X.A (call (.ref f) us (ks.zip ws)) (EP X pins σ Q) X.xe s := by
  refine wpAny_call (codeAny_mono (F X.A X.stack s H us ws vs zs Q E hr I.env0 r rz l h) fun r s' hq => ?_)
  cases r with
  | error e => exact hx pins σ H s e s' I hq
  | ok fl =>
    cases fl with
    | ret u => exact I.after hq
    | next => exact False.elim hq
    | brk => exact False.elim hq
    | cont => exact False.elim hq
theorem run_f0 {pins : List (Addr × Obj)} {σ : L2.St} {H : Hp} {s : Shared} {Q : VK} {us : List Value} {vs : List V} (F : Fn X.prog X.w X.K X.mg X.base k f [] sp) (hr : Rm k X.A) (hx : Passes (L2.CX X.prog X.w) X E)
    (I : Inv X pins σ H s) (r : Vals vs us) (h : sp vs H Q E) : wpAny (model X.prog X.w) X.A (call (.ref f) us) (EP X pins σ Q) X.xe s :=
  run_f (ws := []) (zs := []) F hr hx I r .nil rfl (by rw [List.append_nil]; exact h)
theorem pe_fn (F : Fn X.prog X.w X.K X.mg X.base k f [] sp) (hr : Rm k X.A) (hg : Gl X x) (hm : X.mg x = some (.ref f)) (hk : PySem.W.keepIn X.K (.ref f) = true) (hx : Passes (L2.CX X.prog X.w) X E)
    (ha : PA X (e :: es) t) (hdb : (x == ("__debug__" : Str)) = false := by decide) (he : starEach (e :: es) X.env = (false, eval e X.env) :: starEach es X.env := by rfl) (hpl : (backTo pos (starEach es X.env)).any (·.1) = false := by rfl) :
    PE X (.Call (.Name x p) (e :: es) [] pos) (cCall sp E t) := by
  refine ⟨fun pins s σ H Q I h => ?_⟩
  refine wpAny_Call_Name_kw (ld_glob I hg hm ?_ hdb)
  refine PySem.W.callWith_K (h₀ := X.base) I.ok.mod.kin hk (thn (ha.run pos pins s σ H _ I h) fun us s1 ⟨vs, H1, I1, r, q⟩ => ⟨I1.kIn, ?_⟩) he hpl
  exact run_f0 F hr hx I1 r q
theorem pe_fn0 (F : Fn X.prog X.w X.K X.mg X.base k f [] sp) (hr : Rm k X.A) (hg : Gl X x) (hm : X.mg x = some (.ref f)) (hk : PySem.W.keepIn X.K (.ref f) = true) (hx : Passes (L2.CX X.prog X.w) X E)
    (hdb : (x == ("__debug__" : Str)) = false := by decide) : PE X (.Call (.Name x p) [] [] pos) (cCall sp E tNil) := by
  refine ⟨fun pins s σ H Q I h => ?_⟩
  refine wpAny_Call_Name_kw (ld_glob I hg hm ?_ hdb)
  exact PySem.W.callWith_K0 I.kIn hk (run_f0 (us := []) F hr hx I .nil h)
/-- f( *xs) -/
theorem pe_fnS (F : Fn X.prog X.w X.K X.mg X.base k f [] sp) (hr : Rm k X.A) (hg : Gl X x) (hm : X.mg x = some (.ref f)) (hk : PySem.W.keepIn X.K (.ref f) = true) (hx : Passes (L2.CX X.prog X.w) X E)
    (he : PE X e te) (hdb : (x == ("__debug__" : Str)) = false := by decide) (hst : starEach [.Starred e sp_] X.env = [(true, eval e X.env)] := by rfl) :
    PE X (.Call (.Name x p) [.Starred e sp_] [] pos) (fun σ H Q => te σ H fun y H1 => ∃ a xs, y = V.ref a ∧ (SqT X.K H1 a xs ∨ SqL X.K H1 a xs) ∧ sp xs H1 Q E) := by
  refine ⟨fun pins s σ H Q I h => ?_⟩
  refine wpAny_Call_Name_kw (ld_glob I hg hm ?_ hdb)
  refine PySem.W.callWith_S (h₀ := X.base) I.ok.mod.kin hk (thn (he.run pins s σ H _ I h) fun v s1 ⟨y, H1, I1, ry, a, xs, ey, hxs, q⟩ => ?_) hst
  subst ey
  obtain rfl : v = Value.ref a := ry
  exact StX.star_any I1 hxs fun us s2 I2 rv => ⟨I2.kIn, run_f0 F hr hx I2 rv q⟩
theorem pe_fnK (F : Fn X.prog X.w X.K X.mg X.base k f ks sp) (hr : Rm k X.A) (hg : Gl X x) (hm : X.mg x = some (.ref f)) (hk : PySem.W.keepIn X.K (.ref f) = true) (hx : Passes (L2.CX X.prog X.w) X E)
    (ha : PA X (e :: es) t) (hkw : PK X kws tk) (hall : (backToKw pos (keywordEach kws X.env)).all (·.1.isSome) = true := by rfl) (hks : (backToKw pos (keywordEach kws X.env)).filterMap (·.1) = ks := by rfl)
    (hdb : (x == ("__debug__" : Str)) = false := by decide) (he : starEach (e :: es) X.env = (false, eval e X.env) :: starEach es X.env := by rfl)
    (hpl : ((backTo pos (starEach (e :: es) X.env)).any (·.1) || (backToKw pos (keywordEach kws X.env)).any (·.1.isNone)) = false := by rfl) :
    PE X (.Call (.Name x p) (e :: es) kws pos) (cCallK ks.length sp E t tk) := by
  refine ⟨fun pins s σ H Q I h => ?_⟩
  refine wpAny_Call_Name_kw (ld_glob I hg hm ?_ hdb)
  refine PySem.W.callWith_KW (h₀ := X.base) I.ok.mod.kin hk hall (thn (ha.run pos pins s σ H _ I h) fun us s1 ⟨vs, H1, I1, r, q⟩ => ?_) hpl he
  refine thn (hkw.run pos pins s1 σ H1 _ I1 q) fun ws s2 ⟨zs, H2, I2, rz, l, q2⟩ => ⟨I2.kIn, ?_⟩
  rw [hks]
  exact run_f F hr hx I2 r rz l q2
theorem pe_fnK0 (F : Fn X.prog X.w X.K X.mg X.base k f ks sp) (hr : Rm k X.A) (hg : Gl X x) (hm : X.mg x = some (.ref f)) (hk : PySem.W.keepIn X.K (.ref f) = true) (hx : Passes (L2.CX X.prog X.w) X E)
    (hkw : PK X kws tk) (hall : (backToKw pos (keywordEach kws X.env)).all (·.1.isSome) = true := by rfl) (hks : (backToKw pos (keywordEach kws X.env)).filterMap (·.1) = ks := by rfl)
    (hdb : (x == ("__debug__" : Str)) = false := by decide) (hpl : ((backTo pos (starEach [] X.env)).any (·.1) || (backToKw pos (keywordEach kws X.env)).any (·.1.isNone)) = false := by rfl) :
    PE X (.Call (.Name x p) [] kws pos) (cCallK ks.length sp E tNil tk) := by
  refine ⟨fun pins s σ H Q I h => ?_⟩
  refine wpAny_Call_Name_kw (ld_glob I hg hm ?_ hdb)
  refine PySem.W.callWith_KW0 (h₀ := X.base) I.ok.mod.kin hk hall ?_ hpl
  refine thn (hkw.run pos pins s σ H _ I h) fun ws s2 ⟨zs, H2, I2, rz, l, q2⟩ => ⟨I2.kIn, ?_⟩
  rw [hks]
  exact run_f (us := []) (vs := []) F hr hx I2 .nil rz l q2

theorem pe_mt {pl : Sem Bool} (he : PE X o ta) (c : Cls X.K C) (hm : Meth X.K C m f) (F : Fn X.prog X.w X.K X.mg X.base k f [] sp) (hr : Rm k X.A) (hx : Passes (L2.CX X.prog X.w) X E) (ha : PA X (e :: es) t)
    (hst : starEach (e :: es) X.env = (false, eval e X.env) :: starEach es X.env := by rfl) (hpl : (backTo pos (starEach es X.env)).any (·.1) = false := by rfl)
    (ht : eval (.Call (.Attribute o m apos) (e :: es) [] pos) X.env = (do
      let ov ← eval o X.env
      standAt apos.atName
      let (f, first) ← holding [ov] (getMethod ov m pl)
      callWith pos f first (backTo pos (starEach (e :: es) X.env)) (backToKw pos (keywordEach [] X.env))) := by rfl) :
    PE X (.Call (.Attribute o m apos) (e :: es) [] pos) (cMeth C m sp E ta t) := by
  refine ⟨fun pins s σ H Q I h => ?_⟩
  refine PySem.W.methodCall_KW (pl := pl) (thn (he.run pins s σ H _ I h) fun u s1 ⟨x, H1, I1, rx, a, dx, fs, ex, ea, l, q⟩ => ?_) ht
  subst ex
  obtain rfl : u = Value.ref a := rx
  refine getmeth_ok I1 ea c hm l ?_
  refine PySem.W.callWith_K (first := [.ref a]) (h₀ := X.base) I.ok.mod.kin hm.kp (thn (ha.run pos pins s1 σ H1 _ I1 q) fun us s2 ⟨vs, H2, I2, r, q2⟩ => ⟨I2.kIn, ?_⟩) hst hpl
  exact run_f0 (us := .ref a :: us) (vs := .ref a :: vs) F hr hx I2 (.cons rfl r) q2
theorem pe_mt0 {pl : Sem Bool} (he : PE X o ta) (c : Cls X.K C) (hm : Meth X.K C m f) (F : Fn X.prog X.w X.K X.mg X.base k f [] sp) (hr : Rm k X.A) (hx : Passes (L2.CX X.prog X.w) X E)
    (ht : eval (.Call (.Attribute o m apos) [] [] pos) X.env = (do
      let ov ← eval o X.env
      standAt apos.atName
      let (f, first) ← holding [ov] (getMethod ov m pl)
      callWith pos f first (backTo pos (starEach [] X.env)) (backToKw pos (keywordEach [] X.env))) := by rfl) :
    PE X (.Call (.Attribute o m apos) [] [] pos) (cMeth C m sp E ta tNil) := by
  refine ⟨fun pins s σ H Q I h => ?_⟩
  refine PySem.W.methodCall_KW (pl := pl) (thn (he.run pins s σ H _ I h) fun u s1 ⟨x, H1, I1, rx, a, dx, fs, ex, ea, l, q⟩ => ?_) ht
  subst ex
  obtain rfl : u = Value.ref a := rx
  refine getmeth_ok I1 ea c hm l ?_
  exact PySem.W.callWith_K0 (first := [.ref a]) I1.kIn hm.kp (run_f0 (us := [.ref a]) (vs := [.ref a]) F hr hx I1 (.cons rfl .nil) q)
theorem pe_mtK {pl : Sem Bool} (he : PE X o ta) (c : Cls X.K C) (hm : Meth X.K C m f) (F : Fn X.prog X.w X.K X.mg X.base k f ks sp) (hr : Rm k X.A) (hx : Passes (L2.CX X.prog X.w) X E) (ha : PA X (e :: es) t) (hkw : PK X kws tk)
    (hall : (backToKw pos (keywordEach kws X.env)).all (·.1.isSome) = true := by rfl) (hks : (backToKw pos (keywordEach kws X.env)).filterMap (·.1) = ks := by rfl)
    (hst : starEach (e :: es) X.env = (false, eval e X.env) :: starEach es X.env := by rfl) (hpl : ((backTo pos (starEach (e :: es) X.env)).any (·.1) || (backToKw pos (keywordEach kws X.env)).any (·.1.isNone)) = false := by rfl)
    (ht : eval (.Call (.Attribute o m apos) (e :: es) kws pos) X.env = (do
      let ov ← eval o X.env
      standAt apos.atName
      let (f, first) ← holding [ov] (getMethod ov m pl)
      callWith pos f first (backTo pos (starEach (e :: es) X.env)) (backToKw pos (keywordEach kws X.env))) := by rfl) :
    PE X (.Call (.Attribute o m apos) (e :: es) kws pos) (cMethK C m ks.length sp E ta t tk) := by
  refine ⟨fun pins s σ H Q I h => ?_⟩
  refine PySem.W.methodCall_KW (pl := pl) (thn (he.run pins s σ H _ I h) fun u s1 ⟨x, H1, I1, rx, a, dx, fs, ex, ea, l, q⟩ => ?_) ht
  subst ex
  obtain rfl : u = Value.ref a := rx
  refine getmeth_ok I1 ea c hm l ?_
  refine PySem.W.callWith_KW (first := [.ref a]) (h₀ := X.base) I.ok.mod.kin hm.kp hall (thn (ha.run pos pins s1 σ H1 _ I1 q) fun us s2 ⟨vs, H2, I2, r, q2⟩ => ?_) hpl hst
  refine thn (hkw.run pos pins s2 σ H2 _ I2 q2) fun ws s3 ⟨zs, H3, I3, rz, l3, q3⟩ => ⟨I3.kIn, ?_⟩
  rw [hks]
  exact run_f (us := .ref a :: us) (vs := .ref a :: vs) F hr hx I3 (.cons rfl r) rz l3 q3
theorem pe_mtK0 {pl : Sem Bool} (he : PE X o ta) (c : Cls X.K C) (hm : Meth X.K C m f) (F : Fn X.prog X.w X.K X.mg X.base k f ks sp) (hr : Rm k X.A) (hx : Passes (L2.CX X.prog X.w) X E) (hkw : PK X kws tk)
    (hall : (backToKw pos (keywordEach kws X.env)).all (·.1.isSome) = true := by rfl) (hks : (backToKw pos (keywordEach kws X.env)).filterMap (·.1) = ks := by rfl)
    (hpl : ((backTo pos (starEach [] X.env)).any (·.1) || (backToKw pos (keywordEach kws X.env)).any (·.1.isNone)) = false := by rfl)
    (ht : eval (.Call (.Attribute o m apos) [] kws pos) X.env = (do
      let ov ← eval o X.env
      standAt apos.atName
      let (f, first) ← holding [ov] (getMethod ov m pl)
      callWith pos f first (backTo pos (starEach [] X.env)) (backToKw pos (keywordEach kws X.env))) := by rfl) :
    PE X (.Call (.Attribute o m apos) [] kws pos) (cMethK C m ks.length sp E ta tNil tk) := by
  refine ⟨fun pins s σ H Q I h => ?_⟩
  refine PySem.W.methodCall_KW (pl := pl) (thn (he.run pins s σ H _ I h) fun u s1 ⟨x, H1, I1, rx, a, dx, fs, ex, ea, l, q⟩ => ?_) ht
  subst ex
  obtain rfl : u = Value.ref a := rx
  refine getmeth_ok I1 ea c hm l ?_
  refine PySem.W.callWith_KW0 (first := [.ref a]) (h₀ := X.base) I.ok.mod.kin hm.kp hall ?_ hpl
  refine thn (hkw.run pos pins s1 σ H1 _ I1 q) fun ws s3 ⟨zs, H3, I3, rz, l3, q3⟩ => ⟨I3.kIn, ?_⟩
  rw [hks]
  exact run_f (us := [.ref a]) (vs := [.ref a]) F hr hx I3 (.cons rfl .nil) rz l3 q3

theorem run_mk {pins : List (Addr × Obj)} {σ : L2.St} {H : Hp} {s : Shared} {Q : VK} {us ws : List Value} {vs zs : List V} (M : Mk X.K C f) (F : Fn X.prog X.w X.K X.mg X.base k f ks sp) (hr : Rm (k + 1) X.A) (hx : Passes (L2.CX X.prog X.w) X E)
    (I : Inv X pins σ H s) (r : Vals vs us) (rz : Vals zs ws) (lz : zs.length = ks.length)
    (h : ∀ x dx, H x = Option.none → H dx = Option.none → dx ≠ x → sp (V.ref x :: (vs ++ zs)) (upd (upd H dx (.own x)) x (.ins C dx [])) (fun v H2 => v = .non ∧ Q (.ref x) H2) E) :
    wpAny (model X.prog X.w) X.A (call (.ref C) us (ks.zip ws)) (EP X pins σ Q) X.xe s := by
  have hq := h (s.heap.objs.size + 1) s.heap.objs.size (I.hok.fresh (Nat.le_succ _)) (I.hok.fresh (Nat.le_refl _)) (Nat.ne_of_lt (Nat.lt_succ_self _))
  have I2 := Inv.made (C := C) I
  have r2 : Vals (V.ref (s.heap.objs.size + 1) :: vs) (Value.ref (s.heap.objs.size + 1) :: us) := .cons rfl r
  refine wpAny_call (make_map (f := f) I.kIn M.makes M.init (beq_iff_eq.mp M.fn) (codeAny_mono (F _ X.stack _ _ (Value.ref (s.heap.objs.size + 1) :: us) ws _ zs _ E (hr.make C us (ks.zip ws)) (I2.env0.make C us (ks.zip ws)) r2 rz lz hq) fun r s' hq' => ?_))
  cases r with
  | error e => exact hx pins σ _ _ e s' I2 hq'
  | ok fl =>
    cases fl with
    | ret u =>
      obtain ⟨v, H', I3, rv, ev, q3⟩ := I2.after hq'
      subst ev
      exact ⟨rv, ⟨V.ref (s.heap.objs.size + 1), H', I3, rfl, q3⟩⟩
    | next => exact False.elim hq'
    | brk => exact False.elim hq'
    | cont => exact False.elim hq'
theorem run_mk0 {pins : List (Addr × Obj)} {σ : L2.St} {H : Hp} {s : Shared} {Q : VK} {us : List Value} {vs : List V} (M : Mk X.K C f) (F : Fn X.prog X.w X.K X.mg X.base k f [] sp) (hr : Rm (k + 1) X.A) (hx : Passes (L2.CX X.prog X.w) X E)
    (I : Inv X pins σ H s) (r : Vals vs us)
    (h : ∀ x dx, H x = Option.none → H dx = Option.none → dx ≠ x → sp (V.ref x :: vs) (upd (upd H dx (.own x)) x (.ins C dx [])) (fun v H2 => v = .non ∧ Q (.ref x) H2) E) :
    wpAny (model X.prog X.w) X.A (call (.ref C) us) (EP X pins σ Q) X.xe s :=
  run_mk (ws := []) (zs := []) M F hr hx I r .nil rfl (by rw [List.append_nil]; exact h)
theorem pe_mk (M : Mk X.K C f) (F : Fn X.prog X.w X.K X.mg X.base k f [] sp) (hr : Rm (k + 1) X.A) (hg : Gl X x) (hm : X.mg x = some (.ref C)) (hx : Passes (L2.CX X.prog X.w) X E) (ha : PA X (e :: es) t) (hdb : (x == ("__debug__" : Str)) = false := by decide)
    (he : starEach (e :: es) X.env = (false, eval e X.env) :: starEach es X.env := by rfl) (hpl : (backTo pos (starEach es X.env)).any (·.1) = false := by rfl) : PE X (.Call (.Name x p) (e :: es) [] pos) (cMake C sp E t) := by
  refine ⟨fun pins s σ H Q I h => ?_⟩
  refine wpAny_Call_Name_kw (ld_glob I hg hm ?_ hdb)
  refine PySem.W.callWith_K (h₀ := X.base) I.ok.mod.kin M.kp (thn (ha.run pos pins s σ H _ I h) fun us s1 ⟨vs, H1, I1, r, q⟩ => ⟨I1.kIn, ?_⟩) he hpl
  exact run_mk0 M F hr hx I1 r q
theorem pe_mk0 (M : Mk X.K C f) (F : Fn X.prog X.w X.K X.mg X.base k f [] sp) (hr : Rm (k + 1) X.A) (hg : Gl X x) (hm : X.mg x = some (.ref C)) (hx : Passes (L2.CX X.prog X.w) X E) (hdb : (x == ("__debug__" : Str)) = false := by decide) :
    PE X (.Call (.Name x p) [] [] pos) (cMake C sp E tNil) := by
  refine ⟨fun pins s σ H Q I h => ?_⟩
  refine wpAny_Call_Name_kw (ld_glob I hg hm ?_ hdb)
  exact PySem.W.callWith_K0 I.kIn M.kp (run_mk0 (us := []) M F hr hx I .nil h)
/-- C( *xs) -/
theorem pe_mkS (M : Mk X.K C f) (F : Fn X.prog X.w X.K X.mg X.base k f [] sp) (hr : Rm (k + 1) X.A) (hg : Gl X x) (hm : X.mg x = some (.ref C)) (hx : Passes (L2.CX X.prog X.w) X E) (he : PE X e te) (hdb : (x == ("__debug__" : Str)) = false := by decide)
    (hst : starEach [.Starred e sp_] X.env = [(true, eval e X.env)] := by rfl) :
    PE X (.Call (.Name x p) [.Starred e sp_] [] pos) (fun σ H Q => te σ H fun y H1 => ∃ a xs, y = V.ref a ∧ (SqT X.K H1 a xs ∨ SqL X.K H1 a xs) ∧ ∀ x dx, H1 x = Option.none → H1 dx = Option.none → dx ≠ x →
      sp (V.ref x :: xs) (upd (upd H1 dx (.own x)) x (.ins C dx [])) (fun v H2 => v = .non ∧ Q (.ref x) H2) E) := by
  refine ⟨fun pins s σ H Q I h => ?_⟩
  refine wpAny_Call_Name_kw (ld_glob I hg hm ?_ hdb)
  refine PySem.W.callWith_S (h₀ := X.base) I.ok.mod.kin M.kp (thn (he.run pins s σ H _ I h) fun v s1 ⟨y, H1, I1, ry, a, xs, ey, hxs, q⟩ => ?_) hst
  subst ey
  obtain rfl : v = Value.ref a := ry
  exact StX.star_any I1 hxs fun us s2 I2 rv => ⟨I2.kIn, run_mk0 M F hr hx I2 rv q⟩
theorem pe_mkK (M : Mk X.K C f) (F : Fn X.prog X.w X.K X.mg X.base k f ks sp) (hr : Rm (k + 1) X.A) (hg : Gl X x) (hm : X.mg x = some (.ref C)) (hx : Passes (L2.CX X.prog X.w) X E) (ha : PA X (e :: es) t) (hkw : PK X kws tk)
    (hall : (backToKw pos (keywordEach kws X.env)).all (·.1.isSome) = true := by rfl) (hks : (backToKw pos (keywordEach kws X.env)).filterMap (·.1) = ks := by rfl) (hdb : (x == ("__debug__" : Str)) = false := by decide)
    (he : starEach (e :: es) X.env = (false, eval e X.env) :: starEach es X.env := by rfl) (hpl : ((backTo pos (starEach (e :: es) X.env)).any (·.1) || (backToKw pos (keywordEach kws X.env)).any (·.1.isNone)) = false := by rfl) :
    PE X (.Call (.Name x p) (e :: es) kws pos) (cMakeK C ks.length sp E t tk) := by
  refine ⟨fun pins s σ H Q I h => ?_⟩
  refine wpAny_Call_Name_kw (ld_glob I hg hm ?_ hdb)
  refine PySem.W.callWith_KW (h₀ := X.base) I.ok.mod.kin M.kp hall (thn (ha.run pos pins s σ H _ I h) fun us s1 ⟨vs, H1, I1, r, q⟩ => ?_) hpl he
  refine thn (hkw.run pos pins s1 σ H1 _ I1 q) fun ws s2 ⟨zs, H2, I2, rz, l, q2⟩ => ⟨I2.kIn, ?_⟩
  rw [hks]
  exact run_mk M F hr hx I2 r rz l q2
theorem pe_mkK0 (M : Mk X.K C f) (F : Fn X.prog X.w X.K X.mg X.base k f ks sp) (hr : Rm (k + 1) X.A) (hg : Gl X x) (hm : X.mg x = some (.ref C)) (hx : Passes (L2.CX X.prog X.w) X E) (hkw : PK X kws tk)
    (hall : (backToKw pos (keywordEach kws X.env)).all (·.1.isSome) = true := by rfl) (hks : (backToKw pos (keywordEach kws X.env)).filterMap (·.1) = ks := by rfl) (hdb : (x == ("__debug__" : Str)) = false := by decide)
    (hpl : ((backTo pos (starEach [] X.env)).any (·.1) || (backToKw pos (keywordEach kws X.env)).any (·.1.isNone)) = false := by rfl) :
    PE X (.Call (.Name x p) [] kws pos) (cMakeK C ks.length sp E tNil tk) := by
  refine ⟨fun pins s σ H Q I h => ?_⟩
  refine wpAny_Call_Name_kw (ld_glob I hg hm ?_ hdb)
  refine PySem.W.callWith_KW0 (h₀ := X.base) I.ok.mod.kin M.kp hall ?_ hpl
  refine thn (hkw.run pos pins s σ H _ I h) fun ws s2 ⟨zs, H2, I2, rz, l, q2⟩ => ⟨I2.kIn, ?_⟩
  rw [hks]
  exact run_mk (us := []) (vs := []) M F hr hx I2 .nil rz l q2
end

/-! ### a property read (its getter lets nothing out) -/
def cProp (C : Addr) (sp : Sp) (E : XK) (ta : TE) : TE := fun σ H Q => ta σ H fun x H1 => ∃ a dx fs, x = .ref a ∧ H1 a = some (.ins C dx fs) ∧ sp [.ref a] H1 Q E
section
variable {X : Cx} {k : Nat} {C p g a dx : Addr} {fs : List (Str × V)} {f : Str} {sp : Sp} {E : XK} {e : Expr} {pos : Pos} {ta : TE}
theorem getprop_f {pins : List (Addr × Obj)} {σ : L2.St} {H : Hp} {s : Shared} {Q : VK} {b : Bool} (I : Inv X pins σ H s) (ea : H a = some (.ins C dx fs)) (c : Cls X.K C) (hp : PropOf X.K C f p g)
    (F : Fn X.prog X.w X.K X.mg X.base k g [] sp) (hr : Rm (k + 1) X.A) (hx : Passes (L2.CX X.prog X.w) X.nox E) (h : sp [.ref a] H Q E) {E' : Value → Shared → Prop} :
    wpAny (model X.prog X.w) X.A (getAttr (.ref a) f b) (EP X pins σ Q) E' s := by
  obtain ⟨mA, O, _, _, _, _⟩ := ins_get I.hok ea
  obtain ⟨od, J, _⟩ := O.look
  obtain ⟨rest, hrec⟩ := hp.rec_
  have I1 := I.tok (s.toks + 1)
  have hc : (PySem.W.clsIn X.K C).isSome = true := by
    obtain ⟨cd, hc, _⟩ := PySem.W.any_some c.hd
    rw [hc]
    rfl
  refine PySem.W.get_bind I.kIn J (PySem.W.plainGet_of (c.get f)).1 (PySem.W.findObj_data hc hp.at_ hp.get hp.tak) (PySem.W.plainGet_of (c.get f)).2 (wpAny_call (PySem.W.prop_get (s := { s with toks := s.toks + 1 }) I.kIn hrec ?_))
  refine codeAny_mono (F X.A.in1 X.stack { s with toks := s.toks + 1 } H [.ref a] [] [.ref a] [] Q E hr.in1 I1.env0.in1 (.cons rfl .nil) .nil rfl h) fun r s' hq => ?_
  cases r with
  | error er => exact False.elim (hx pins σ H { s with toks := s.toks + 1 } er s' (I1.wish _) hq)
  | ok fl =>
    cases fl with
    | ret u =>
      obtain ⟨v, H', I3, rv, q3⟩ := I1.after hq
      show wpAny _ _ (handedOut u) _ _ _
      rw [PySem.W.handedOut_of (handed_of rv)]
      exact wpAny_pure ⟨v, H', I3, rv, q3⟩
    | next => exact False.elim hq
    | brk => exact False.elim hq
    | cont => exact False.elim hq
theorem pe_pr (he : PE X e ta) (c : Cls X.K C) (hp : PropOf X.K C f p g) (F : Fn X.prog X.w X.K X.mg X.base k g [] sp) (hr : Rm (k + 1) X.A) (hx : Passes (L2.CX X.prog X.w) X.nox E)
    (hab : attributeBase e f X.env (eval e X.env) = eval e X.env := by rfl) : PE X (.Attribute e f pos) (cProp C sp E ta) := by
  refine ⟨fun pins s σ H Q I h => ?_⟩
  refine attr_of hab (thn (he.run pins s σ H _ I h) fun u s1 ⟨x, H1, I1, rx, a, dx, fs, ex, ea, q⟩ => ?_)
  subst ex
  obtain rfl : u = Value.ref a := rx
  exact getprop_f I1 ea c hp F hr hx q
end
end FL

namespace FL
open PySem PySem.Spec PyProof.Rows L2

/-! ### repr of data -/
def rRepr (K : PySem.W.Frag) : List V → Hp → VK → Prop := fun xs H Q => ∃ x d, xs = [x] ∧ Dp K H x d ∧ d.showable = true ∧ d.hasDict = false ∧ d.leavesShort 13 = true ∧ d.weight ≤ 2 ^ 20 ∧ d.depth ≤ 60 ∧ (∀ i, x ≠ .int i) ∧ Q (.str d.shown) H
theorem call_repr {X : Cx} {k : Nat} (hr : Rm k X.A) : CallR X (.builtin "repr") (rRepr X.K) := by
  intro pins s σ H xs us Q I r h
  obtain ⟨x, d, rfl, hd, hs, hn, hl, hw, hz, hi, q⟩ := h
  obtain ⟨u, rfl, rx⟩ := vals1 r
  have hu := hr.r.units
  have hf := PyData.shown_fits (B := 13) (by decide) (by decide) hl hw
  obtain ⟨as, rd⟩ := Dp.reads I d x u hd rx
  cases rd with
  | none => exact PySem.P.repr_of_none ⟨.str _, H, I.tok _, ⟨_, by rw [PyData.shown_none]⟩, q⟩
  | bool b => exact PySem.P.repr_of_bool ⟨.str _, H, I.tok _, ⟨_, by rw [PyData.shown_bool]⟩, q⟩
  | int i t =>
    exfalso
    cases x with
    | int j => exact hi j rfl
    | non => cases (show Value.int i t = Value.none from rx)
    | bl j => cases (show Value.int i t = Value.bool j from rx)
    | str j => obtain ⟨t', e⟩ := (show ∃ t', Value.int i t = Value.str j t' from rx); cases e
    | byt j => obtain ⟨t', e⟩ := (show ∃ t', Value.int i t = Value.bytes j t' from rx); cases e
    | flt j => obtain ⟨t', e⟩ := (show ∃ t', Value.int i t = Value.float j t' from rx); cases e
    | ref j => cases (show Value.int i t = Value.ref j from rx)
    | ty j => cases (show Value.int i t = Value.type j from rx)
  | str y t => exact PySem.P.repr_of_str ⟨.str _, H, I.tok _, ⟨_, by rw [PyData.shown_str]⟩, q⟩ (by rw [← PyData.shown_str]; exact hf)
  | list h1 h2 h3 h4 => exact repr_of_reads' (.list h1 h2 h3 h4) hs (PyData.noDict_hsm hn) hr.g (by omega) (fun _ _ e => e) (fun h' u tk hk => ⟨.str _, H, I.kept (t' := tk) hk, ⟨_, rfl⟩, q⟩) hf
  | tuple h1 h2 h3 h4 => exact repr_of_reads' (.tuple h1 h2 h3 h4) hs (PyData.noDict_hsm hn) hr.g (by omega) (fun _ _ e => e) (fun h' u tk hk => ⟨.str _, H, I.kept (t' := tk) hk, ⟨_, rfl⟩, q⟩) hf
  | dict h1 h2 h3 h4 h5 => cases hn

/-! ### enumerate(text) -/
def Ies (x : Str) : It := ⟨fun i _ => i < x.cps.size, fun i H v H' => ∃ T c, v = .ref T ∧ H T = none ∧ H' = upd H T (.tup [.int (i : Nat), .str ⟨#[c]⟩]) ∧ x.cps[i]? = some c, fun i _ => x.cps.size ≤ i⟩
theorem turn_enumS {P : Program} {w : World} {K : PySem.W.Frag} {elts : List Expr} {kk : Nat} {tpos : Pos} (e it : Addr) (x : Str) (t : Tok) :
    Turn P w K (.Tuple elts kk tpos) (Ies x) [e, it] e (fun i h => (∃ old, IsEnum h e it ((i : Nat) : Int) old) ∧ h.IsStrIter it (strIterType x) x t i ∧ e ≠ it ∧ i ≤ x.cps.size) where
  mem := by simp
  obj := fun i h st b hb => by
    obtain ⟨⟨old, he⟩, ⟨o, ho, hc, hd⟩, _⟩ := st
    have e' : b = e ∨ b = it := by simpa using hb
    rcases e' with z | z
    · rw [z]; exact ⟨_, he, fun v q => nomatch q⟩
    · rw [z]; exact ⟨o, ho, fun v q => by rw [hd] at q; cases q⟩
  keep := fun i h h' st k => let ⟨⟨old, he⟩, ⟨o, ho, r⟩, hne, hi⟩ := st; ⟨⟨old, k e (by simp) _ he⟩, ⟨o, k it (by simp) o ho, r⟩, hne, hi⟩
  item := by
    intro X hP hw hK hc i pins s σ H E I hf st hg
    subst hP hw hK
    obtain ⟨⟨old, he⟩, hit, hne, hi⟩ := st
    have hlt : i < x.cps.size := hg
    have D : Draws X.prog X.w X.A.in1 it [it] x.cps.size (fun i v => ∃ c u, x.cps[i]? = some c ∧ v = .str ⟨#[c]⟩ u) (fun i h => h.IsStrIter it (strIterType x) x t i) := by
      unfold strIterType
      split
      · exact Draws.strAscii (A := X.A.in1) (show X.A.in1.handled = none from I.ok.hd hc) it x t
      · exact Draws.strWide (A := X.A.in1) (show X.A.in1.handled = none from I.ok.hd hc) it x t
    have hel : e < s.heap.objs.size := Heap.lt_size he
    have hil : it < s.heap.objs.size := by obtain ⟨_, q, _⟩ := hit; exact Heap.lt_size q
    refine wpAny_pyNext_enum_itemD D he hit hlt hne (by simpa using hne) fun v h' tk hv ho hit' hT hsz hk => ?_
    obtain ⟨c, u, hcx, rfl⟩ := hv
    refine ⟨_, rfl, wpAny_letOwnedTupleGo_enum (s := { s with heap := h', toks := tk + 1 }) ho fun h'' he' sb => ?_⟩
    have hT2 : h''.get? s.heap.objs.size = some { cls := .type "tuple", data := .seq #[.int i tk, .str ⟨#[c]⟩ u] } := (sb.2 _ (Nat.ne_of_gt hel)).trans hT
    have new : ObjOk X.prog X.w (upd H s.heap.objs.size (.tup [.int (i : Nat), .str ⟨#[c]⟩])) h'' s.heap.objs.size (.tup [.int (i : Nat), .str ⟨#[c]⟩]) :=
      ⟨by show 2 ≤ sizeLine; decide, [.int i tk, .str ⟨#[c]⟩ u], .cons ⟨_, rfl⟩ (.cons ⟨_, rfl⟩ .nil), ⟨_, hT2, rfl, _, rfl⟩⟩
    have I1 : Inv X pins σ (upd H s.heap.objs.size (.tup [.int (i : Nat), .str ⟨#[c]⟩])) { s with heap := h'', toks := tk + 1 } :=
      I.turnedNew (ch := [e, it]) (fun b ob hb q => (sb.2 b (fun z => hb (by simp [z]))).trans (hk b ob (fun z => hb (by simp [z])) (fun z => hb (by simp [z])) q)) hf (Nat.le_refl _) new
    obtain ⟨oi, hoi, ri⟩ := hit'
    refine ⟨.ref s.heap.objs.size, _, I1, rfl, ⟨_, c, rfl, I.hok.fresh (Nat.le_refl _), rfl, hcx⟩, ⟨⟨.str ⟨#[c]⟩ u, ?_⟩, ⟨oi, (sb.2 it (Ne.symm hne)).trans hoi, ri⟩, hne, hlt⟩, fun b hb => ?_⟩
    · have e1 : ((i + 1 : Nat) : Int) = (i : Int) + 1 := by omega
      rw [e1]; exact he'
    · have hb' : b < s.heap.objs.size := by
        have e' : b = e ∨ b = it := by simpa using hb
        rcases e' with z | z
        · rw [z]; exact hel
        · rw [z]; exact hil
      rw [upd_ne (Nat.ne_of_lt hb')]
      exact (hf b hb).1
  done := by
    intro X hP hw hK hc i pins s σ H E I hf st hg
    subst hP hw hK
    obtain ⟨⟨old, he⟩, hit, hne, hi⟩ := st
    have hge : x.cps.size ≤ i := hg
    have ei : i = x.cps.size := by omega
    subst ei
    obtain ⟨f0, f1, f2, f3, f4, f5⟩ := hf it (by simp)
    have D : Draws X.prog X.w X.A.in1 it [it] x.cps.size (fun i v => ∃ c u, x.cps[i]? = some c ∧ v = .str ⟨#[c]⟩ u) (fun i h => h.IsStrIter it (strIterType x) x t i) := by
      unfold strIterType
      split
      · exact Draws.strAscii (A := X.A.in1) (show X.A.in1.handled = none from I.ok.hd hc) it x t
      · exact Draws.strWide (A := X.A.in1) (show X.A.in1.handled = none from I.ok.hd hc) it x t
    exact wpAny_pyNext_enum_endD D he hit fun h' eb => ⟨rfl, I.turned (t' := s.toks) (fun b o hb q => eb b o hb q) f0 f1 f3 f4 f5⟩
  self := fun A i s Q E st h => let ⟨⟨_, he⟩, _⟩ := st; wpAny_pyIter_enum he h
def iEnumS (ta : TA) : TI := fun σ H R => ta σ H fun vs H1 => ∃ x, vs = [.str x] ∧ R (Ies x) H1
theorem pi_enumS {X : Cx} {e : Expr} {ta : TA} {p pos tpos : Pos} {elts : List Expr} {kk : Nat} (hg : Gl X "enumerate") (hm : X.mg "enumerate" = none) (ha : PA X [e] ta) (hs : starEach [e] X.env = [(false, eval e X.env)] := by rfl) :
    PI X (.Tuple elts kk tpos) (.Call (.Name "enumerate" p) [e] [] pos) (iEnumS ta) := by
  refine ⟨fun pins s σ H R I h => ?_⟩
  refine Call_ (ld_blt I hg hm boot_enumerate (PyProof.Rows.callWith_type1 (thn (ha.run pos pins s σ H _ I h) fun us s1 ⟨vs, H1, I1, r1, q1⟩ => ?_) hs rfl))
  obtain ⟨x, ex, q⟩ := q1
  subst ex
  cases r1 with
  | cons r rr =>
    cases rr
    obtain ⟨t, rfl⟩ := r
    refine call_enumerate_str fun h' he hit hsz hk => wpAny_pyIter_enum he ?_
    have I2 : Inv X pins σ H1 { s1 with heap := h' } := I1.kept (t' := s1.toks) hk
    refine ⟨s1.heap.objs.size + 1, [s1.heap.objs.size + 1, s1.heap.objs.size], _, _, H1, rfl, I2, turn_enumS (s1.heap.objs.size + 1) s1.heap.objs.size x t, ⟨⟨.none, he⟩, hit, Nat.succ_ne_self _, Nat.zero_le _⟩, fun b hb => ?_, q⟩
    have e' : b = s1.heap.objs.size + 1 ∨ b = s1.heap.objs.size := by simpa using hb
    have hle : s1.heap.objs.size ≤ b := by
      rcases e' with z | z
      · rw [z]; exact Nat.le_add_right _ _
      · rw [z]; exact Nat.le_refl _
    exact I1.fpOk hle (I1.hok.fresh hle)
end FL

/-! The head: facts of the top, read off one run in the kernel. -/
namespace FH
open PySem PySem.Spec PyProof.Rows L2 He

/-! ### a def: where it stands, its parts -/
structure DX where
  at_ : PySem.W.Frag → Addr
  name : Str
  qual : Str
  st : Stmt
  dfl : List Dv := []
  kwd : List (Str × Dv) := []
abbrev FX : Type := Option (Str × Str × Arguments × FuncBody × Scope × Addr × List (Str × Addr) × Addr)
def fnX (K : PySem.W.Frag) (a : Addr) : FX := match K.lookup a with
  | some ⟨_, _, .func fd, _⟩ => some (fd.name, fd.qualname, fd.params, fd.body, fd.scope, fd.globals, fd.closure, fd.builtins)
  | _ => none
def DX.val (d : DX) : FX := some (d.name, d.qual, defArgs d.st, .stmts (defBody d.st), defScope d.st, mainGlobals, [], builtinsNs)
def DX.dvs (K : PySem.W.Frag) (d : DX) : List V := d.dfl.map (Dv.v K)
def DX.kws (K : PySem.W.Frag) (d : DX) : List (Str × V) := d.kwd.map fun q => (q.1, q.2.v K)
def DX.ok (K : PySem.W.Frag) (d : DX) : Bool := PySem.W.keepIn K (.ref (d.at_ K)) && (match K.lookup (d.at_ K) with
  | some ⟨_, _, .func fd, _⟩ => PySem.W.codeIn K fd.code d.qual && (dflB K fd.defaults (d.dvs K) && kwdB K fd.kwdefaults (d.kws K))
  | _ => false)
abbrev FunX (K : PySem.W.Frag) (d : DX) (fd : FuncData) : Prop := FunD K d.name d.qual (defArgs d.st) (defBody d.st) (defScope d.st) (d.dvs K) (d.kws K) (d.at_ K) fd
theorem DX.funD {K : PySem.W.Frag} {d : DX} (e : fnX K (d.at_ K) = d.val) (c : d.ok K = true) : ∃ fd, FunX K d fd := by
  obtain ⟨kp, c2⟩ := ba c
  unfold fnX at e
  cases q : K.lookup (d.at_ K) with
  | none =>
    rw [q] at c2
    cases c2
  | some o =>
    obtain ⟨oc, od, dt, osl⟩ := o
    rw [q] at c2 e
    cases dt with
    | func fd =>
      obtain ⟨n1, n2, n3, n4, n5, n6, n7, n8, n9, n10, n11, n12, n13, n14, n15⟩ := fd
      have e2 : (some (n1, n2, n3, n4, n5, n6, n7, n15) : FX) = some (d.name, d.qual, defArgs d.st, .stmts (defBody d.st), defScope d.st, mainGlobals, [], builtinsNs) := e
      simp only [Option.some.injEq, Prod.mk.injEq] at e2
      obtain ⟨h1, h2, h3, h4, h5, h6, h7, h8⟩ := e2
      subst h1 h2 h3 h4 h5 h6 h7 h8
      have c3 : (PySem.W.codeIn K n13 d.qual && (dflB K n8 (d.dvs K) && kwdB K n9 (d.kws K))) = true := c2
      obtain ⟨k1, k2⟩ := ba c3
      obtain ⟨k3, k4⟩ := ba k2
      exact ⟨_, ⟨oc, od, n8, n9, n10, n11, n12, n13, n14, osl, rfl, q, k1, dflB_ok k3, kwdB_ok k4⟩, kp⟩
    | _ => cases c2
/-! ### places -/
def pgA (K : PySem.W.Frag) (p : Addr) : Addr := match PySem.W.recIn K p "property" with
  | some (.ref g :: _) => g
  | _ => 0
def aG (x : Str) : PySem.W.Frag → Addr := fun K => ga K x
def aM (x m : Str) : PySem.W.Frag → Addr := fun K => ma K (ga K x) m
def aP (x m : Str) : PySem.W.Frag → Addr := fun K => pgA K (ma K (ga K x) m)
/-! ### facts -/
abbrev Ft : Type := PySem.W.Frag → Bool
def fGlo (x : Str) : Ft := fun K => (Fa.glo x).ok K
def fFree (x : Str) : Ft := fun K => (Fa.free x).ok K
def fInt (x : Str) (i : Int) : Ft := fun K => (Fa.int x i).ok K
def fStr (x z : Str) : Ft := fun K => (Fa.str x z).ok K
def fCls (x : Str) : Ft := fun K => (Fa.cls x).ok K
def fNo (x f : Str) : Ft := fun K => (Fa.noat x f).ok K
def fMeth (x m : Str) : Ft := fun K => (Fa.meth x m).ok K
def fMkr (x : Str) : Ft := fun K => (Fa.mkr x).ok K
def fProp (x f : Str) : Ft := fun K => eqO (PySem.W.findIn K (.ref (ga K x)) f) (some (some (.ref (ma K (ga K x) f)))) && (decide (PySem.W.specialIn K (.ref (ma K (ga K x) f)) "__get__" = some (some (.builtin "property.__get__"))) &&
  (decide (PySem.W.takesIn K (.ref (ma K (ga K x) f)) = some true) && (match PySem.W.recIn K (ma K (ga K x) f) "property" with
    | some (.ref _ :: _) => true
    | _ => false)))
def fCon (x f : Str) (v : Dv) : Ft := fun K => (match PySem.W.findIn K (.ref (ga K x)) f with
  | some (some u) => relB (v.v K) u && (decide (PySem.W.specialIn K u "__get__" = some none) && !PySem.W.copiedNames.contains f)
  | _ => false)
def fKit (t c : PySem.W.Frag → Value) (b : Bool) : Ft := fun K => decide (PySem.W.kitOne K (t K) (c K) = some b)
/-- isinstance's look at an instance of x -/
def fIns (x : Str) : Ft := fun K => eqO (PySem.W.findIn K (.ref (ga K x)) "__class__") (some (some (.builtin "object.__class__"))) && (decide (PySem.W.specialIn K (.builtin "object.__class__") "__get__" = some (some (.builtin "getset_descriptor.__get__"))) &&
  (decide (PySem.W.takesIn K (.builtin "object.__class__") = some true) && decide (PySem.W.mroIn K (ga K x) (.type "object") = some true)))
section
variable {K : PySem.W.Frag} {x f : Str}
theorem prop_ok (c : fProp x f K = true) : PropOf K (ga K x) f (ma K (ga K x) f) (pgA K (ma K (ga K x) f)) := by
  obtain ⟨c1, c⟩ := ba c
  obtain ⟨c2, c⟩ := ba c
  obtain ⟨c3, c4⟩ := ba c
  refine ⟨eqO_ok c1, of_decide_eq_true c2, of_decide_eq_true c3, ?_⟩
  unfold pgA
  cases q : PySem.W.recIn K (ma K (ga K x) f) "property" with
  | none =>
    rw [q] at c4
    cases c4
  | some l =>
    rw [q] at c4
    cases l with
    | nil => cases c4
    | cons a r =>
      cases a with
      | ref g => exact ⟨r, rfl⟩
      | _ => cases c4
theorem con_ok {v : Dv} (c : fCon x f v K = true) : ∃ u, Con K (ga K x) f (v.v K) u := by
  unfold fCon at c
  cases q : PySem.W.findIn K (.ref (ga K x)) f with
  | none =>
    rw [q] at c
    cases c
  | some o =>
    rw [q] at c
    cases o with
    | none => cases c
    | some u =>
      obtain ⟨c1, c⟩ := ba (show (relB (v.v K) u && (decide (PySem.W.specialIn K u "__get__" = some none) && !PySem.W.copiedNames.contains f)) = true from c)
      obtain ⟨c2, c3⟩ := ba c
      exact ⟨u, q, relB_ok c1, of_decide_eq_true c2, by simpa using c3⟩
theorem kit_ok {t c : PySem.W.Frag → Value} {b : Bool} (h : fKit t c b K = true) : PySem.W.kitOne K (t K) (c K) = some b := of_decide_eq_true h
theorem ins_ok (cl : Cls K (ga K x)) (c : fIns x K = true) {H : Hp} {a dx : Addr} {fs : List (Str × V)} (e : H a = some (.ins (ga K x) dx fs)) : TyOf K H (.ref a) (.ref (ga K x)) := by
  obtain ⟨c1, c⟩ := ba c
  obtain ⟨c2, c⟩ := ba c
  obtain ⟨c3, c4⟩ := ba c
  exact .ins e cl (eqO_ok c1) (of_decide_eq_true c2) (of_decide_eq_true c3) (of_decide_eq_true c4)
end
/-! ### the Hook -/
abbrev AlX : Type := Bool × List FX
def obsX (fa : List Ft) (fn : List DX) (K : PySem.W.Frag) : AlX := ((fa.all fun f => f K) && fn.all fun d => d.ok K, fn.map fun d => fnX K (d.at_ K))
def valX (fn : List DX) : AlX := (true, fn.map DX.val)
def SaysX (fa : List Ft) (fn : List DX) (K : PySem.W.Frag) : Prop := obsX fa fn K = valX fn
def obsXG (n : Nat) (fa : List Ft) (fn : List DX) (g : Addr → Option Obj) : AlX := obsX fa fn (frG g (List.range n))
def hookX (n : Nat) (fa : List Ft) (fn : List DX) : PySem.W.Hook where
  α := AlX
  obs := fun s => obsXG n fa fn s.heap.get?
  val := fun _ => valX fn
  says := fun _ h => ∃ K : PySem.W.Frag, K.In h ∧ SaysX fa fn K
  of := fun _ _ e => ⟨_, frG_in, e⟩
  keeps := fun _ _ _ ⟨K, hK, c⟩ k => ⟨K, PySem.W.Frag.In.keeps hK k, c⟩
theorem obsXG_eq {n : Nat} {fa : List Ft} {fn : List DX} {g : Addr → Option Obj} {s : Shared} (h : ∀ a, g a = s.heap.get? a) : obsXG n fa fn g = (hookX n fa fn).obs s := by
  have e : g = s.heap.get? := funext h
  rw [e] <;> rfl
section
variable {fa : List Ft} {fn : List DX} {K : PySem.W.Frag}
theorem SaysX.fact (c : SaysX fa fn K) (i : Nat) {f : Ft} (h : fa[i]? = some f := by rfl) : f K = true := by
  have c1 := (ba (show ((fa.all fun f => f K) && fn.all fun d => d.ok K) = true from congrArg (fun z : AlX => z.1) c)).1
  exact List.all_eq_true.mp c1 f (List.mem_of_getElem? h)
theorem SaysX.def_ (c : SaysX fa fn K) (i : Nat) {d : DX} (h : fn[i]? = some d := by rfl) : ∃ fd, FunX K d fd := by
  have c2 := (ba (show ((fa.all fun f => f K) && fn.all fun d => d.ok K) = true from congrArg (fun z : AlX => z.1) c)).2
  have e : fn.map (fun d => fnX K (d.at_ K)) = fn.map DX.val := congrArg (fun z : AlX => z.2) c
  have e2 : (fn.map fun d => fnX K (d.at_ K))[i]? = (fn.map DX.val)[i]? := by rw [e]
  rw [List.getElem?_map, List.getElem?_map, h] at e2
  exact DX.funD (Option.some.inj e2) (List.all_eq_true.mp c2 d (List.mem_of_getElem? h))
end
/-- what every def's theorem leans on -/
structure Tx (fa : List Ft) (fn : List DX) (K : PySem.W.Frag) (mg : Str → Option Value) : Prop where
  c : SaysX fa fn K
  g : ∃ h : Heap, K.In h ∧ h.Ns mainGlobals mg
section
variable {fa : List Ft} {fn : List DX} {K : PySem.W.Frag} {mg : Str → Option Value}
theorem Tx.glo (T : Tx fa fn K mg) {x : Str} (c : fGlo x K = true) : mg x = some (.ref (ga K x)) := let ⟨_, X, G⟩ := T.g; glo_ok X G c
theorem Tx.free (T : Tx fa fn K mg) {x : Str} (c : fFree x K = true) : mg x = none := let ⟨_, X, G⟩ := T.g; free_ok X G c
theorem Tx.int (T : Tx fa fn K mg) {x : Str} {i : Int} (c : fInt x i K = true) : ∃ t, mg x = some (.int i t) := let ⟨_, X, G⟩ := T.g; int_ok X G c
theorem Tx.str (T : Tx fa fn K mg) {x z : Str} (c : fStr x z K = true) : ∃ t, mg x = some (.str z t) := let ⟨_, X, G⟩ := T.g; str_ok X G c
end
/-- a module's int, text -/
theorem pe_gint {X : Cx} {x : Str} {i : Int} {pos : Pos} (hg : Gl X x) (hm : ∃ t, X.mg x = some (.int i t)) (hd : (x == ("__debug__" : Str)) = false := by decide) : PE X (.Name x pos) (tC (.int i)) := let ⟨_, h⟩ := hm; pe_glob hg h ⟨_, rfl⟩ hd
theorem pe_gstr {X : Cx} {x z : Str} {pos : Pos} (hg : Gl X x) (hm : ∃ t, X.mg x = some (.str z t)) (hd : (x == ("__debug__" : Str)) = false := by decide) : PE X (.Name x pos) (tC (.str z)) := let ⟨_, h⟩ := hm; pe_glob hg h ⟨_, rfl⟩ hd
end FH

/-! Readings, step by step: each reading at known slots says what is left. -/
namespace FR
open PySem PySem.Spec PyProof.Rows L2 FL

/-- the two branches of an if, kept shut until the test is known -/
def ifK (t u : TS) (D : Ends) (σ : L2.St) (b : Bool) (H : Hp) : Prop := if b = true then t D σ H else u D σ H
def ifE (ta tb : TE) (σ : L2.St) (Q : VK) (b : Bool) (H : Hp) : Prop := if b = true then ta σ H Q else tb σ H Q
def andK (tb : TE) (σ : L2.St) (Q : VK) (b : Bool) (H : Hp) : Prop := if b = true then tb σ H Q else Q (.bl false) H
def andT (u : TT) (σ : L2.St) (Q : Bool → Hp → Prop) (b : Bool) (H : Hp) : Prop := if b = true then u σ H Q else Q false H
def orT (u : TT) (σ : L2.St) (Q : Bool → Hp → Prop) (b : Bool) (H : Hp) : Prop := if b = true then Q true H else u σ H Q
def orK (tb : TE) (σ : L2.St) (Q : VK) (b : Bool) (H : Hp) : Prop := if b = true then Q (.bl true) H else tb σ H Q
section
variable {σ : L2.St} {H : Hp} {Q : VK} {D : Ends} {ta tb tc te : TE} {t u : TS} {c : TT} {ts tr : TA} {v : V} {i : Nat} {b : Bool} {r r' : R2}
theorem ifK_t : ifK t u D σ true H = t D σ H := if_pos rfl
theorem ifK_f : ifK t u D σ false H = u D σ H := if_neg Bool.false_ne_true
theorem ifE_t : ifE ta tb σ Q true H = ta σ H Q := if_pos rfl
theorem ifE_f : ifE ta tb σ Q false H = tb σ H Q := if_neg Bool.false_ne_true
theorem andK_t : andK tb σ Q true H = tb σ H Q := if_pos rfl
theorem andK_f : andK tb σ Q false H = Q (.bl false) H := if_neg Bool.false_ne_true
theorem orK_t : orK tb σ Q true H = Q (.bl true) H := if_pos rfl
theorem orK_f : orK tb σ Q false H = tb σ H Q := if_neg Bool.false_ne_true
theorem andT_t {u : TT} {Q : Bool → Hp → Prop} : andT u σ Q true H = u σ H Q := if_pos rfl
theorem andT_f {u : TT} {Q : Bool → Hp → Prop} : andT u σ Q false H = Q false H := if_neg Bool.false_ne_true
theorem orT_t {u : TT} {Q : Bool → Hp → Prop} : orT u σ Q true H = Q true H := if_pos rfl
theorem orT_f {u : TT} {Q : Bool → Hp → Prop} : orT u σ Q false H = u σ H Q := if_neg Bool.false_ne_true
theorem r_and {u : TT} {Q : Bool → Hp → Prop} : tAnd c u σ H Q = c σ H (andT u σ Q) := propext Iff.rfl
theorem r_or {u : TT} {Q : Bool → Hp → Prop} : tOr c u σ H Q = c σ H (orT u σ Q) := propext Iff.rfl
theorem r_var (h : σ[i]? = some (some v)) : tVar i σ H Q = Q v H := by
  unfold tVar
  rw [h]
  simp
theorem r_c : tC v σ H Q = Q v H := propext Iff.rfl
theorem r_seq : tSeq t u D σ H = t { D with nx := u D } σ H := propext Iff.rfl
theorem r_next : tNext D σ H = D.nx σ H := propext Iff.rfl
theorem r_break : tBreak D σ H = D.bk σ H := propext Iff.rfl
theorem r_cont : tCont D σ H = D.ct σ H := propext Iff.rfl
theorem r_drop : tDrop te D σ H = te σ H (fun _ H1 => D.nx σ H1) := propext Iff.rfl
theorem r_ret : tRet te D σ H = te σ H D.rt := propext Iff.rfl
theorem r_retN : tRetN D σ H = D.rt .non H := propext Iff.rfl
theorem r_if : tIfS c t u D σ H = c σ H (ifK t u D σ) := propext Iff.rfl
theorem r_ife : tIf c ta tb σ H Q = c σ H (ifE ta tb σ Q) := propext Iff.rfl
theorem r_asg {g : TG} : tAsg te g D σ H = te σ H (fun x H1 => g x σ H1 D.nx) := propext Iff.rfl
theorem r_name {k : L2.St → Hp → Prop} : gName i v σ H k = k (σ.set i (some v)) H := propext Iff.rfl
theorem r_op : tOp r ta tb σ H Q = ta σ H (fun x H1 => tb σ H1 (fun y H2 => r x y H2 Q)) := propext Iff.rfl
theorem r_un {w : V → Hp → VK → Prop} : tUn w ta σ H Q = ta σ H (fun x H1 => w x H1 Q) := propext Iff.rfl
theorem r_nil {k : List V → Hp → Prop} : tNil σ H k = k [] H := propext Iff.rfl
theorem r_cons {k : List V → Hp → Prop} : tCons ta tr σ H k = ta σ H (fun x H1 => tr σ H1 (fun xs H2 => k (x :: xs) H2)) := propext Iff.rfl
theorem r_lst : tLst ts σ H Q = ts σ H (fun xs H1 => xs.length ≤ sizeLine ∧ ∀ p, H1 p = none → Q (.ref p) (upd H1 p (.lst xs))) := propext Iff.rfl
theorem r_tup : tTup ts σ H Q = ts σ H (fun xs H1 => xs.length ≤ sizeLine ∧ ∀ p, H1 p = none → Q (.ref p) (upd H1 p (.tup xs))) := propext Iff.rfl
theorem r_cb {w : List V → Hp → VK → Prop} : tCB w ts σ H Q = ts σ H (fun vs H1 => w vs H1 Q) := propext Iff.rfl
theorem r_test {k : Bool → Hp → Prop} : tTest te σ H k = te σ H (fun x H' => ∃ b, x = .bl b ∧ k b H') := propext Iff.rfl
theorem r_b {k : Bool → Hp → Prop} : tB te σ H k = te σ H (fun x H' => ∃ b, x = .bl b ∧ k b H') := propext Iff.rfl
theorem r_not {k : Bool → Hp → Prop} : tNot c σ H k = c σ H (fun b H1 => k (!b) H1) := propext Iff.rfl
theorem r_notV : tNotV te σ H Q = te σ H (fun x H1 => ∃ b, x = .bl b ∧ Q (.bl (!b)) H1) := propext Iff.rfl
theorem r_andV : tAndV ta tb σ H Q = ta σ H (fun x H1 => ∃ b, x = .bl b ∧ andK tb σ Q b H1) := propext Iff.rfl
theorem r_orV : tOrV ta tb σ H Q = ta σ H (fun x H1 => ∃ b, x = .bl b ∧ orK tb σ Q b H1) := propext Iff.rfl
theorem r_isN : tIsN ta σ H Q = ta σ H (fun x H1 => Q (.bl (decide (x = .non))) H1) := propext Iff.rfl
theorem r_notN : tNotN ta σ H Q = ta σ H (fun x H1 => Q (.bl (!decide (x = .non))) H1) := propext Iff.rfl
theorem r_par {i j : Nat} : tPar i j ts D σ H = ts σ H (fun vs H1 => ∃ v w, vs = [v, w] ∧ D.nx ((σ.set i (some v)).set j (some w)) H1) := propext Iff.rfl
theorem r_sub {to ti : TE} {w : TSet} {k : L2.St → Hp → Prop} : gSub to ti w v σ H k = to σ H (fun o H1 => ti σ H1 (fun i H2 => w o i v H2 (fun H3 => k σ H3))) := propext Iff.rfl
theorem r_gtup {K : PySem.W.Frag} {n : Nat} {t : TGs} {k : L2.St → Hp → Prop} : gTup K n t v σ H k = ∃ a xs, v = .ref a ∧ SqT K H a xs ∧ xs.length = n ∧ t xs σ H k := propext Iff.rfl
theorem r_gnil {vs : List V} {k : L2.St → Hp → Prop} : gNil vs σ H k = (vs = [] ∧ k σ H) := propext Iff.rfl
theorem r_gcons {vs : List V} {t : TG} {u : TGs} {k : L2.St → Hp → Prop} : gCons t u vs σ H k = ∃ v r, vs = v :: r ∧ t v σ H (fun σ' H' => u r σ' H' k) := propext Iff.rfl
theorem r_sl {w : V → Option Int → Option Int → Hp → VK → Prop} {tl th : TO} : tSl w te tl th σ H Q = te σ H (fun x H1 => tl σ H1 (fun l H2 => th σ H2 (fun u H3 => w x l u H3 Q))) := propext Iff.rfl
theorem r_nopart {k : Option Int → Hp → Prop} : tNoPart σ H k = k none H := propext Iff.rfl
theorem r_part {k : Option Int → Hp → Prop} : tPart te σ H k = te σ H (fun x H1 => ∃ i, x = .int i ∧ k (some i) H1) := propext Iff.rfl
theorem r_bm {K : PySem.W.Frag} {T : String} {w : V → List V → Hp → VK → Prop} : tBM K T w te ts σ H Q = te σ H (fun x H1 => tyV K T x H1 ∧ ts σ H1 (fun xs H2 => w x xs H2 Q)) := propext Iff.rfl
theorem r_bm0 {K : PySem.W.Frag} {T : String} {w : V → List V → Hp → VK → Prop} : tBM0 K T w te σ H Q = te σ H (fun x H1 => tyV K T x H1 ∧ w x [] H1 Q) := propext Iff.rfl
theorem r_chain : tChain r r' ta tb tc σ H Q = ta σ H (fun x H1 => tb σ H1 (fun y H2 => r x y H2 (fun z H3 => ∃ k, z = .bl k ∧ andK (fun σ H Q => tc σ H (fun z H4 => r' y z H4 Q)) σ Q k H3))) := by
  unfold tChain andK
  rfl
theorem r_call {sp : Sp} {E : XK} : cCall sp E ts σ H Q = ts σ H (fun vs H1 => sp vs H1 Q E) := propext Iff.rfl
theorem r_callK {m : Nat} {sp : Sp} {E : XK} : cCallK m sp E ts tr σ H Q = ts σ H (fun vs H1 => tr σ H1 (fun zs H2 => zs.length = m ∧ sp (vs ++ zs) H2 Q E)) := propext Iff.rfl
theorem r_meth {C : Addr} {m : Str} {sp : Sp} {E : XK} : cMeth C m sp E te ts σ H Q = te σ H (fun x H1 => ∃ a dx fs, x = .ref a ∧ H1 a = some (.ins C dx fs) ∧ fs.lookup m = none ∧ ts σ H1 (fun vs H2 => sp (x :: vs) H2 Q E)) := propext Iff.rfl
theorem r_prop {C : Addr} {sp : Sp} {E : XK} : cProp C sp E te σ H Q = te σ H (fun x H1 => ∃ a dx fs, x = .ref a ∧ H1 a = some (.ins C dx fs) ∧ sp [.ref a] H1 Q E) := propext Iff.rfl
theorem r_make {C : Addr} {sp : Sp} {E : XK} : cMake C sp E ts σ H Q = ts σ H (fun vs H1 => ∀ x dx, H1 x = none → H1 dx = none → dx ≠ x → sp (.ref x :: vs) (upd (upd H1 dx (.own x)) x (.ins C dx [])) (fun v H2 => v = .non ∧ Q (.ref x) H2) E) := propext Iff.rfl
theorem upd_o {p q : Addr} {o : HO} (hp : H p = none) (hq : (H q).isSome = true) : upd H p o q = H q := by
  refine upd_ne (fun e => ?_)
  subst e
  rw [hp] at hq
  cases hq
theorem some_is {α : Type} {a : α} : (some a).isSome = true := rfl
end
theorem at0 {α : Type} {x0 : α} {xs : List α} : atI (x0 :: xs) 0 = some x0 := by
  unfold atI ixN
  rw [if_pos (by decide), if_pos (by simp only [List.length_cons]; omega)] <;> rfl
theorem at1 {α : Type} {x0 x1 : α} {xs : List α} : atI (x0 :: x1 :: xs) 1 = some x1 := by
  unfold atI ixN
  rw [if_pos (by decide), if_pos (by simp only [List.length_cons]; omega)] <;> rfl
theorem at2 {α : Type} {x0 x1 x2 : α} {xs : List α} : atI (x0 :: x1 :: x2 :: xs) 2 = some x2 := by
  unfold atI ixN
  rw [if_pos (by decide), if_pos (by simp only [List.length_cons]; omega)] <;> rfl
theorem at3 {α : Type} {x0 x1 x2 x3 : α} {xs : List α} : atI (x0 :: x1 :: x2 :: x3 :: xs) 3 = some x3 := by
  unfold atI ixN
  rw [if_pos (by decide), if_pos (by simp only [List.length_cons]; omega)] <;> rfl
theorem at4 {α : Type} {x0 x1 x2 x3 x4 : α} {xs : List α} : atI (x0 :: x1 :: x2 :: x3 :: x4 :: xs) 4 = some x4 := by
  unfold atI ixN
  rw [if_pos (by decide), if_pos (by simp only [List.length_cons]; omega)] <;> rfl
theorem at5 {α : Type} {x0 x1 x2 x3 x4 x5 : α} {xs : List α} : atI (x0 :: x1 :: x2 :: x3 :: x4 :: x5 :: xs) 5 = some x5 := by
  unfold atI ixN
  rw [if_pos (by decide), if_pos (by simp only [List.length_cons]; omega)] <;> rfl
theorem at6 {α : Type} {x0 x1 x2 x3 x4 x5 x6 : α} {xs : List α} : atI (x0 :: x1 :: x2 :: x3 :: x4 :: x5 :: x6 :: xs) 6 = some x6 := by
  unfold atI ixN
  rw [if_pos (by decide), if_pos (by simp only [List.length_cons]; omega)] <;> rfl
theorem at7 {α : Type} {x0 x1 x2 x3 x4 x5 x6 x7 : α} {xs : List α} : atI (x0 :: x1 :: x2 :: x3 :: x4 :: x5 :: x6 :: x7 :: xs) 7 = some x7 := by
  unfold atI ixN
  rw [if_pos (by decide), if_pos (by simp only [List.length_cons]; omega)] <;> rfl
theorem at8 {α : Type} {x0 x1 x2 x3 x4 x5 x6 x7 x8 : α} {xs : List α} : atI (x0 :: x1 :: x2 :: x3 :: x4 :: x5 :: x6 :: x7 :: x8 :: xs) 8 = some x8 := by
  unfold atI ixN
  rw [if_pos (by decide), if_pos (by simp only [List.length_cons]; omega)] <;> rfl
theorem at9 {α : Type} {x0 x1 x2 x3 x4 x5 x6 x7 x8 x9 : α} {xs : List α} : atI (x0 :: x1 :: x2 :: x3 :: x4 :: x5 :: x6 :: x7 :: x8 :: x9 :: xs) 9 = some x9 := by
  unfold atI ixN
  rw [if_pos (by decide), if_pos (by simp only [List.length_cons]; omega)] <;> rfl
theorem at10 {α : Type} {x0 x1 x2 x3 x4 x5 x6 x7 x8 x9 x10 : α} {xs : List α} : atI (x0 :: x1 :: x2 :: x3 :: x4 :: x5 :: x6 :: x7 :: x8 :: x9 :: x10 :: xs) 10 = some x10 := by
  unfold atI ixN
  rw [if_pos (by decide), if_pos (by simp only [List.length_cons]; omega)] <;> rfl
theorem at11 {α : Type} {x0 x1 x2 x3 x4 x5 x6 x7 x8 x9 x10 x11 : α} {xs : List α} : atI (x0 :: x1 :: x2 :: x3 :: x4 :: x5 :: x6 :: x7 :: x8 :: x9 :: x10 :: x11 :: xs) 11 = some x11 := by
  unfold atI ixN
  rw [if_pos (by decide), if_pos (by simp only [List.length_cons]; omega)] <;> rfl
theorem at12 {α : Type} {x0 x1 x2 x3 x4 x5 x6 x7 x8 x9 x10 x11 x12 : α} {xs : List α} : atI (x0 :: x1 :: x2 :: x3 :: x4 :: x5 :: x6 :: x7 :: x8 :: x9 :: x10 :: x11 :: x12 :: xs) 12 = some x12 := by
  unfold atI ixN
  rw [if_pos (by decide), if_pos (by simp only [List.length_cons]; omega)] <;> rfl
theorem at13 {α : Type} {x0 x1 x2 x3 x4 x5 x6 x7 x8 x9 x10 x11 x12 x13 : α} {xs : List α} : atI (x0 :: x1 :: x2 :: x3 :: x4 :: x5 :: x6 :: x7 :: x8 :: x9 :: x10 :: x11 :: x12 :: x13 :: xs) 13 = some x13 := by
  unfold atI ixN
  rw [if_pos (by decide), if_pos (by simp only [List.length_cons]; omega)] <;> rfl
theorem ix3_0 : ixN 3 0 = some 0 := rfl
theorem ix3_1 : ixN 3 1 = some 1 := rfl
theorem ix3_2 : ixN 3 2 = some 2 := rfl
theorem atI_of {α : Type} {xs : List α} {i : Int} (h0 : 0 ≤ i) (h1 : i < xs.length) : ∃ v, atI xs i = some v ∧ xs[i.toNat]? = some v := by
  unfold atI ixN
  rw [if_pos h0, if_pos h1]
  have : i.toNat < xs.length := by omega
  exact ⟨xs[i.toNat], by simp [this], by simp [this]⟩
theorem fits {n : Nat} (h : n ≤ 16777216) : n ≤ sizeLine := by
  rw [sizeLine_eq]
  exact h
/-! values: tracked lists and tuples -/
def rIxLH : R2 := fun x y H Q => ∃ p i, x = .ref p ∧ y = .int i ∧ ∃ xs, H p = some (.lst xs) ∧ ∃ v, atI xs i = some v ∧ Q v H
def rIxTH : R2 := fun x y H Q => ∃ p i, x = .ref p ∧ y = .int i ∧ ∃ xs, H p = some (.tup xs) ∧ ∃ v, atI xs i = some v ∧ Q v H
def rLenH : List V → Hp → VK → Prop := fun xs H Q => ∃ p, xs = [.ref p] ∧ ∃ ys, H p = some (.lst ys) ∧ Q (.int ys.length) H
def rLenTH : List V → Hp → VK → Prop := fun xs H Q => ∃ p, xs = [.ref p] ∧ ∃ ys, H p = some (.tup ys) ∧ Q (.int ys.length) H
section
variable {X : Cx}
theorem IxR.mono {r r' : R2} (h : IxR X r) (k : ∀ x y H Q, r' x y H Q → r x y H Q) : IxR X r' := fun v s pins sh σ H x y a b Q I r1 r2 q => h v s pins sh σ H x y a b Q I r1 r2 (k _ _ _ _ q)
theorem CallR.mono {f : Value} {r r' : List V → Hp → VK → Prop} (h : CallR X f r) (k : ∀ x H Q, r' x H Q → r x H Q) : CallR X f r' := fun pins s σ H xs us Q I rv q => h pins s σ H xs us Q I rv (k _ _ _ q)
theorem ix_lh : IxR X rIxLH := IxR.mono ix_list fun x y H Q ⟨p, i, e1, e2, xs, h, v, a, q⟩ => ⟨p, xs, i, v, e1, e2, SqL.of h, a, q⟩
theorem ix_th : IxR X rIxTH := IxR.mono ix_tup fun x y H Q ⟨p, i, e1, e2, xs, h, v, a, q⟩ => ⟨p, xs, i, v, e1, e2, SqT.of h, a, q⟩
theorem call_len_lh : CallR X (.builtin "len") rLenH := CallR.mono call_len fun x H Q ⟨p, e, ys, h, q⟩ => ⟨.ref p, ys.length, e, .inl ⟨ys, SqL.of h, rfl⟩, q⟩
theorem call_len_th : CallR X (.builtin "len") rLenTH := CallR.mono call_len fun x H Q ⟨p, e, ys, h, q⟩ => ⟨.ref p, ys.length, e, .inr ⟨ys, SqT.of h, rfl⟩, q⟩
end
theorem scal_ii {i j : Int} : scal (.int i) (.int j) = true := rfl
theorem scal_ss {i j : Str} : scal (.str i) (.str j) = true := rfl
theorem scal_bb {i j : Bool} : scal (.bl i) (.bl j) = true := rfl
theorem scal_is {i : Int} {j : Str} : scal (.int i) (.str j) = true := rfl
theorem scal_si {i : Str} {j : Int} : scal (.str i) (.int j) = true := rfl
theorem scal_ns {j : Str} : scal .non (.str j) = true := rfl
theorem scal_ni {j : Int} : scal .non (.int j) = true := rfl
theorem scal_in {j : Int} : scal (.int j) .non = true := rfl
theorem scal_sn {j : Str} : scal (.str j) .non = true := rfl
theorem scal_nn : scal .non .non = true := rfl
/-! new objects -/
def IsNew (H : Hp) (p : Addr) (o : HO) (H2 : Hp) : Prop := H p = none ∧ H2 = upd H p o
/-- all but a stays -/
def Oth (a : Addr) (H H' : Hp) : Prop := ∀ b o, b ≠ a → H b = some o → H' b = some o
theorem Oth.refl {a : Addr} {H : Hp} : Oth a H H := fun _ _ _ h => h
theorem Oth.trans {a : Addr} {H H1 H2 : Hp} (h : Oth a H H1) (k : Oth a H1 H2) : Oth a H H2 := fun b o n e => k b o n (h b o n e)
theorem Oth.of {a : Addr} {H H1 : Hp} (h : Same H H1) : Oth a H H1 := fun b o _ e => h b o e
theorem Oth.new {a p : Addr} {o : HO} {H H1 H2 : Hp} (h : Oth a H H1) (n : IsNew H1 p o H2) : Oth a H H2 := fun b x k e => by
  have z := h b x k e
  rw [n.2, upd_o n.1 (by rw [z]; rfl)]
  exact z
theorem Oth.set {a : Addr} {o : HO} {H H1 : Hp} (h : Oth a H H1) : Oth a H (upd H1 a o) := fun b x n e => by
  rw [upd_ne n]
  exact h b x n e
theorem Oth.fresh {a p : Addr} {o : HO} {H H1 : Hp} (h : Oth a H H1) (n : H p = none) : Oth a H (upd H1 p o) := fun b x k e => by
  rw [upd_ne (fun z => by subst z; rw [n] at e; cases e)]
  exact h b x k e
section
variable {H H1 H2 : Hp} {p b : Addr} {o x : HO}
theorem IsNew.at_ (n : IsNew H p o H2) : H2 p = some o := by rw [n.2]; exact upd_same
theorem IsNew.old (n : IsNew H p o H2) (h : H b = some x) : H2 b = some x := by
  rw [n.2, upd_o n.1 (by rw [h]; rfl)]
  exact h
theorem IsNew.same (n : IsNew H p o H2) : Same H H2 := fun _ _ h => n.old h
theorem IsNew.ne (n : IsNew H p o H2) (h : H b = some x) : b ≠ p := fun e => by
  subst e
  rw [n.1] at h
  cases h
theorem same_refl : Same H H := fun _ _ h => h
theorem same_trans (h : Same H H1) (k : Same H1 H2) : Same H H2 := fun b o e => k b o (h b o e)
end
def lcK (g : TG) (tt : TT) (te : TE) (vs : List Nat) (σ : L2.St) (Q : VK) (J : It) (H1 : Hp) : Prop := ∀ D, H1 D = none → ∃ W : Nat → Nat → Hp → Prop, (∃ m, W 0 m (upd H1 D (.lst []))) ∧ ∀ i m H, W i m H →
  (J.stop i H ∧ Q (.ref D) H) ∨ (J.go i H ∧ ∃ Nx : Hp → Prop, (∀ H', Nx H' → ∃ m', m' < m ∧ W (i + 1) m' H') ∧ ∀ x H', J.yld i H x H' → g x (wipe σ vs) H' fun σ2 H2 => wipe σ2 vs = wipe σ vs ∧ tt σ2 H2 fun b H3 =>
    if b = true then te σ2 H3 fun y H4 => ∃ acc, H4 D = some (.lst acc) ∧ acc.length < sizeLine ∧ Nx (upd H4 D (.lst (acc ++ [y]))) else Nx H3)
def forK (g : TG) (tb : TS) (D : Ends) (σ : L2.St) (J : It) (H1 : Hp) : Prop := ∃ W : Nat → Nat → L2.St → Hp → Prop, (∃ m, W 0 m σ H1) ∧ ∀ i m σ H, W i m σ H →
  (J.stop i H ∧ D.nx σ H) ∨ (J.go i H ∧ ∃ N : L2.St → Hp → Prop, (∀ σ' H', N σ' H' → ∃ m', m' < m ∧ W (i + 1) m' σ' H') ∧ ∀ x H', J.yld i H x H' → g x σ H' fun σ2 H2 => tb { D with nx := N, ct := N, bk := D.nx } σ2 H2)
section
variable {σ : L2.St} {H : Hp} {Q : VK} {D : Ends} {wi : TI} {g : TG} {tt : TT} {te : TE} {vs : List Nat} {tb : TS} {K : PySem.W.Frag} {ts : TA} {R : It → Hp → Prop}
theorem r_lc : tLc wi g tt te vs σ H Q = wi σ H (lcK g tt te vs σ Q) := propext Iff.rfl
theorem r_for : tFor wi g tb D σ H = wi σ H (forK g tb D σ) := propext Iff.rfl
theorem r_ilist : iList K te σ H R = te σ H (fun x H1 => ∃ a, x = .ref a ∧ (∃ xs, SqL K H1 a xs) ∧ R (Itl K a) H1) := propext Iff.rfl
theorem r_itup : iTup K te σ H R = te σ H (fun x H1 => ∃ a, x = .ref a ∧ (∃ xs, SqT K H1 a xs) ∧ R (Itt K a) H1) := propext Iff.rfl
theorem r_istr : iStr te σ H R = te σ H (fun x H1 => ∃ z, x = .str z ∧ R (Its z) H1) := propext Iff.rfl
theorem r_irng1 : iRng1 ts σ H R = ts σ H (fun vs H1 => ∃ j : Int, vs = [.int j] ∧ -(2 ^ 62) ≤ j ∧ j < 2 ^ 62 ∧ R (Itr 0 j.toNat) H1) := propext Iff.rfl
theorem r_irng2 : iRng2 ts σ H R = ts σ H (fun vs H1 => ∃ i j : Int, vs = [.int i, .int j] ∧ (-(2 ^ 62) ≤ i ∧ i < 2 ^ 62 ∧ -(2 ^ 62) ≤ j ∧ j < 2 ^ 62) ∧ R (Itr i (j - i).toNat) H1) := propext Iff.rfl
theorem r_ienum : iEnum K ts σ H R = ts σ H (fun vs H1 => ∃ a xs, vs = [.ref a] ∧ SqL K H1 a xs ∧ R (Ite K a) H1) := propext Iff.rfl
theorem r_ienumS : iEnumS ts σ H R = ts σ H (fun vs H1 => ∃ x, vs = [.str x] ∧ R (Ies x) H1) := propext Iff.rfl
theorem r_lst2 : tLst ts σ H Q = ts σ H (fun xs H1 => xs.length ≤ sizeLine ∧ ∀ p H2, IsNew H1 p (.lst xs) H2 → Q (.ref p) H2) := by
  unfold tLst
  congr 1
  funext xs H1
  apply propext
  constructor
  · rintro ⟨a, b⟩
    exact ⟨a, fun p H2 ⟨n, e⟩ => by subst e; exact b p n⟩
  · rintro ⟨a, b⟩
    exact ⟨a, fun p n => b p _ ⟨n, rfl⟩⟩
theorem r_tup2 : tTup ts σ H Q = ts σ H (fun xs H1 => xs.length ≤ sizeLine ∧ ∀ p H2, IsNew H1 p (.tup xs) H2 → Q (.ref p) H2) := by
  unfold tTup
  congr 1
  funext xs H1
  apply propext
  constructor
  · rintro ⟨a, b⟩
    exact ⟨a, fun p H2 ⟨n, e⟩ => by subst e; exact b p n⟩
  · rintro ⟨a, b⟩
    exact ⟨a, fun p n => b p _ ⟨n, rfl⟩⟩
/-- the new item goes to the list at D -/
def addK (D : Addr) (N : Hp → Prop) (y : V) (H4 : Hp) : Prop := ∃ acc, H4 D = some (.lst acc) ∧ acc.length < sizeLine ∧ N (upd H4 D (.lst (acc ++ [y])))
def lcN (D : Addr) (i : Nat) (Pv : Addr → Nat → List V → Hp → Prop) (H : Hp) : Prop := ∃ acc, H D = some (.lst acc) ∧ acc.length = i ∧ Pv D i acc H
theorem addK_mk {D : Addr} {i : Nat} {acc : List V} {y : V} {H4 : Hp} {Pv : Addr → Nat → List V → Hp → Prop} (e : H4 D = some (.lst acc)) (l : acc.length = i) (hi : i < 16777215) (p : Pv D (i + 1) (acc ++ [y]) (upd H4 D (.lst (acc ++ [y])))) : addK D (lcN D (i + 1) Pv) y H4 := by
  refine ⟨acc, e, ?_, acc ++ [y], upd_same, by simp [l], p⟩
  have := sizeLine_eq
  omega
/-- a comprehension over a range, no test -/
theorem lcK_rng {lo : Int} {n : Nat} (Pv : Addr → Nat → List V → Hp → Prop) (h0 : ∀ D H0, IsNew H D (.lst []) H0 → Pv D 0 [] H0)
    (hs : ∀ D i acc H1, H D = none → i < n → H1 D = some (.lst acc) → acc.length = i → Pv D i acc H1 → g (.int (lo + i)) (wipe σ vs) H1 fun σ2 H2 => wipe σ2 vs = wipe σ vs ∧ te σ2 H2 (addK D (lcN D (i + 1) Pv)))
    (hd : ∀ D acc H1, H D = none → H1 D = some (.lst acc) → acc.length = n → Pv D n acc H1 → Q (.ref D) H1) : lcK g tYes te vs σ Q (Itr lo n) H := by
  intro D nD
  refine lc_range (fun i H1 => lcN D i Pv H1) ⟨[], upd_same, rfl, h0 D _ ⟨nD, rfl⟩⟩ ?_ ?_
  · rintro i H1 hi ⟨acc, e, l, p⟩
    have z := hs D i acc H1 nD hi e l p
    have q : (fun σ2 H2 => wipe σ2 vs = wipe σ vs ∧ tYes σ2 H2 fun b H3 => if b = true then te σ2 H3 fun y H4 => ∃ acc, H4 D = some (.lst acc) ∧ acc.length < sizeLine ∧ lcN D (i + 1) Pv (upd H4 D (.lst (acc ++ [y]))) else lcN D (i + 1) Pv H3) = (fun σ2 H2 => wipe σ2 vs = wipe σ vs ∧ te σ2 H2 (addK D (lcN D (i + 1) Pv))) := by
      funext σ2 H2
      congr 1
    rw [q]
    exact z
  · rintro H1 ⟨acc, e, l, p⟩
    exact hd D acc H1 nD e l p
theorem idx_lt {α : Type} {xs : List α} {i : Nat} {x : α} (h : xs[i]? = some x) : i < xs.length := by
  by_cases z : i < xs.length
  · exact z
  · rw [List.getElem?_eq_none (by omega)] at h
    cases h
/-- .. over a list, no test -/
theorem lcK_lst {a : Addr} {xs : List V} (Pv : Addr → Nat → List V → Hp → Prop) (h0 : ∀ D H0, IsNew H D (.lst []) H0 → Pv D 0 [] H0) (hl : ∀ D i acc H1, H D = none → Pv D i acc H1 → SqL K H1 a xs)
    (hs : ∀ D i x acc H1, H D = none → xs[i]? = some x → H1 D = some (.lst acc) → acc.length = i → Pv D i acc H1 → g x (wipe σ vs) H1 fun σ2 H2 => wipe σ2 vs = wipe σ vs ∧ te σ2 H2 (addK D (lcN D (i + 1) Pv)))
    (hd : ∀ D acc H1, H D = none → H1 D = some (.lst acc) → acc.length = xs.length → Pv D xs.length acc H1 → Q (.ref D) H1) : lcK g tYes te vs σ Q (Itl K a) H := by
  intro D nD
  refine lc_list (K := K) (a := a) (xs := xs) (fun i H1 => lcN D i Pv H1) ⟨[], upd_same, rfl, h0 D _ ⟨nD, rfl⟩⟩ (fun i H1 _ ⟨acc, _, _, p⟩ => hl D i acc H1 nD p) ?_ ?_
  · rintro i x H1 hi ⟨acc, e, l, p⟩
    have z := hs D i x acc H1 nD hi e l p
    have q : (fun σ2 H2 => wipe σ2 vs = wipe σ vs ∧ tYes σ2 H2 fun b H3 => if b = true then te σ2 H3 fun y H4 => ∃ acc, H4 D = some (.lst acc) ∧ acc.length < sizeLine ∧ lcN D (i + 1) Pv (upd H4 D (.lst (acc ++ [y]))) else lcN D (i + 1) Pv H3) = (fun σ2 H2 => wipe σ2 vs = wipe σ vs ∧ te σ2 H2 (addK D (lcN D (i + 1) Pv))) := by
      funext σ2 H2
      congr 1
    rw [q]
    exact z
  · rintro H1 ⟨acc, e, l, p⟩
    exact hd D acc H1 nD e l p
theorem lcK_tup {a : Addr} {xs : List V} (Pv : Addr → Nat → List V → Hp → Prop) (h0 : ∀ D H0, IsNew H D (.lst []) H0 → Pv D 0 [] H0) (hl : ∀ D i acc H1, H D = none → Pv D i acc H1 → SqT K H1 a xs)
    (hs : ∀ D i x acc H1, H D = none → xs[i]? = some x → H1 D = some (.lst acc) → acc.length = i → Pv D i acc H1 → g x (wipe σ vs) H1 fun σ2 H2 => wipe σ2 vs = wipe σ vs ∧ te σ2 H2 (addK D (lcN D (i + 1) Pv)))
    (hd : ∀ D acc H1, H D = none → H1 D = some (.lst acc) → acc.length = xs.length → Pv D xs.length acc H1 → Q (.ref D) H1) : lcK g tYes te vs σ Q (Itt K a) H := by
  intro D nD
  refine lc_tup (K := K) (a := a) (xs := xs) (fun i H1 => lcN D i Pv H1) ⟨[], upd_same, rfl, h0 D _ ⟨nD, rfl⟩⟩ (fun i H1 _ ⟨acc, _, _, p⟩ => hl D i acc H1 nD p) ?_ ?_
  · rintro i x H1 hi ⟨acc, e, l, p⟩
    have z := hs D i x acc H1 nD hi e l p
    have q : (fun σ2 H2 => wipe σ2 vs = wipe σ vs ∧ tYes σ2 H2 fun b H3 => if b = true then te σ2 H3 fun y H4 => ∃ acc, H4 D = some (.lst acc) ∧ acc.length < sizeLine ∧ lcN D (i + 1) Pv (upd H4 D (.lst (acc ++ [y]))) else lcN D (i + 1) Pv H3) = (fun σ2 H2 => wipe σ2 vs = wipe σ vs ∧ te σ2 H2 (addK D (lcN D (i + 1) Pv))) := by
      funext σ2 H2
      congr 1
    rw [q]
    exact z
  · rintro H1 ⟨acc, e, l, p⟩
    exact hd D acc H1 nD e l p
theorem forK_rng {lo : Int} {n : Nat} (Pv : Nat → L2.St → Hp → Prop) (h0 : Pv 0 σ H)
    (hs : ∀ i σ H, i < n → Pv i σ H → g (.int (lo + i)) σ H fun σ2 H2 => tb { D with nx := Pv (i + 1), ct := Pv (i + 1), bk := D.nx } σ2 H2) (hd : ∀ σ H, Pv n σ H → D.nx σ H) : forK g tb D σ (Itr lo n) H := for_range Pv h0 hs hd
theorem forK_lst {a : Addr} {xs : List V} (Pv : Nat → L2.St → Hp → Prop) (h0 : Pv 0 σ H) (hl : ∀ i σ H, i ≤ xs.length → Pv i σ H → SqL K H a xs)
    (hs : ∀ i x σ H, xs[i]? = some x → Pv i σ H → g x σ H fun σ2 H2 => tb { D with nx := Pv (i + 1), ct := Pv (i + 1), bk := D.nx } σ2 H2) (hd : ∀ σ H, Pv xs.length σ H → D.nx σ H) : forK g tb D σ (Itl K a) H := for_list Pv h0 hl hs hd
end
section
variable {σ : L2.St} {H : Hp} {Q : VK} {D : Ends} {g : TG} {te : TE} {vs : List Nat} {tb : TS} {J : It} {n : Nat} {G : Hp → Prop} {Y : Nat → Hp → V → Hp → Prop}
/-- a comprehension over anything that walks, no test -/
theorem lcK_it (w : Walk J n G Y) (Pv : Addr → Nat → List V → Hp → Prop) (h0 : ∀ D H0, IsNew H D (.lst []) H0 → Pv D 0 [] H0) (hG : ∀ D i acc H1, H D = none → i ≤ n → H1 D = some (.lst acc) → Pv D i acc H1 → G H1)
    (hs : ∀ D i x acc H1 H2, H D = none → i < n → H1 D = some (.lst acc) → acc.length = i → Pv D i acc H1 → Y i H1 x H2 → g x (wipe σ vs) H2 fun σ2 H3 => wipe σ2 vs = wipe σ vs ∧ te σ2 H3 (addK D (lcN D (i + 1) Pv)))
    (hd : ∀ D acc H1, H D = none → H1 D = some (.lst acc) → acc.length = n → Pv D n acc H1 → Q (.ref D) H1) : lcK g tYes te vs σ Q J H := by
  intro D nD
  refine lc_it w (fun i H1 => lcN D i Pv H1) ⟨[], upd_same, rfl, h0 D _ ⟨nD, rfl⟩⟩ (fun i H1 hi ⟨acc, e, _, p⟩ => hG D i acc H1 nD hi e p) ?_ ?_
  · rintro i x H1 H2 hi ⟨acc, e, l, p⟩ y
    have z := hs D i x acc H1 H2 nD hi e l p y
    have q : (fun σ2 H2 => wipe σ2 vs = wipe σ vs ∧ tYes σ2 H2 fun b H3 => if b = true then te σ2 H3 fun y H4 => ∃ acc, H4 D = some (.lst acc) ∧ acc.length < sizeLine ∧ lcN D (i + 1) Pv (upd H4 D (.lst (acc ++ [y]))) else lcN D (i + 1) Pv H3) = (fun σ2 H2 => wipe σ2 vs = wipe σ vs ∧ te σ2 H2 (addK D (lcN D (i + 1) Pv))) := by
      funext σ2 H2
      congr 1
    rw [q]
    exact z
  · rintro H1 ⟨acc, e, l, p⟩
    exact hd D acc H1 nD e l p
theorem forK_it (w : Walk J n G Y) (Pv : Nat → L2.St → Hp → Prop) (h0 : Pv 0 σ H) (hG : ∀ i σ H, i ≤ n → Pv i σ H → G H)
    (hs : ∀ i x σ H H', i < n → Pv i σ H → Y i H x H' → g x σ H' fun σ2 H2 => tb { D with nx := Pv (i + 1), ct := Pv (i + 1), bk := D.nx } σ2 H2) (hd : ∀ σ H, Pv n σ H → D.nx σ H) : forK g tb D σ J H := for_it w Pv h0 hG hs hd
theorem r_fld {K : PySem.W.Frag} {ta : TE} {f : Str} : tFld K ta f σ H Q = ta σ H (fun x H1 => ∃ a, x = .ref a ∧ ∃ C dx fs, H1 a = some (.ins C dx fs) ∧ Cls K C ∧ NoAttr K C f ∧ ∃ v, fs.lookup f = some v ∧ Q v H1) := by
  unfold tFld
  congr 1
  funext x H1
  apply propext
  constructor
  · rintro ⟨a, C, dx, fs, v, e, h, c, n, l, q⟩
    exact ⟨a, e, C, dx, fs, h, c, n, v, l, q⟩
  · rintro ⟨a, e, C, dx, fs, h, c, n, v, l, q⟩
    exact ⟨a, C, dx, fs, v, e, h, c, n, l, q⟩
end
section
variable {σ : L2.St} {H : Hp} {Q : VK} {g : TG} {te : TE} {vs : List Nat} {K : PySem.W.Frag} {a : Addr} {xs : List V} {J : It} {n : Nat}
theorem same_upd {D : Addr} {H1 : Hp} {o : HO} (nD : H D = none) (s : Same H H1) : Same H (upd H1 D o) := fun b x e => by
  rw [upd_ne (fun z => by subst z; rw [nD] at e; cases e)]
  exact s b x e
theorem r_m1 {r : V → List V → Hp → VK → Prop} {to : TE} : tM1 r to te σ H Q = to σ H (fun x H1 => (∃ a, x = .str a) ∧ te σ H1 (fun y H2 => r x [y] H2 Q)) := propext Iff.rfl
theorem r_m0 {r : V → List V → Hp → VK → Prop} {to : TE} : tM0 r to σ H Q = to σ H (fun x H1 => (∃ a, x = .str a) ∧ r x [] H1 Q) := propext Iff.rfl
/-- [e for x in xs], e makes new objects at most -/
theorem lcK_map {G : Hp → Prop} (w : Walk J xs.length G (YAt xs)) (hn : xs.length ≤ 16777215) (hG : ∀ H1, Same H H1 → G H1) (f : V → V)
    (hs : ∀ (i : Nat) (x : V) (H1 : Hp) (k : VK), xs[i]? = some x → Same H H1 → (∀ H2, Same H1 H2 → k (f x) H2) → g x (wipe σ vs) H1 fun σ2 H2 => wipe σ2 vs = wipe σ vs ∧ te σ2 H2 k)
    (hd : ∀ D H1, Same H H1 → H D = none → H1 D = some (.lst (xs.map f)) → Q (.ref D) H1) : lcK g tYes te vs σ Q J H := by
  refine lcK_it w (fun D i acc H1 => Same H H1 ∧ acc = (xs.map f).take i) (fun D H0 n0 => ⟨n0.same, rfl⟩) (fun D i acc H1 nD hi e p => hG H1 p.1) ?_ ?_
  · rintro D i x acc H1 H2 nD hi hD hl ⟨sm, ea⟩ ⟨rfl, hx⟩
    refine hs i x H2 _ hx sm fun H3 s3 => addK_mk (s3 _ _ hD) hl (by omega) ⟨same_upd nD (same_trans sm s3), ?_⟩
    rw [ea, List.take_add_one, List.getElem?_map, hx]
    rfl
  · rintro D acc H1 nD hD hl ⟨sm, ea⟩
    rw [List.take_of_length_le (by simp)] at ea
    rw [ea] at hD
    exact hd D H1 sm nD hD
theorem lcK_mapT (hx : H a = some (.tup xs)) (hn : xs.length ≤ 16777215) (f : V → V)
    (hs : ∀ (i : Nat) (x : V) (H1 : Hp) (k : VK), xs[i]? = some x → Same H H1 → (∀ H2, Same H1 H2 → k (f x) H2) → g x (wipe σ vs) H1 fun σ2 H2 => wipe σ2 vs = wipe σ vs ∧ te σ2 H2 k)
    (hd : ∀ D H1, Same H H1 → H D = none → H1 D = some (.lst (xs.map f)) → Q (.ref D) H1) : lcK g tYes te vs σ Q (Itt K a) H :=
  lcK_map walk_tup hn (fun H1 s => SqT.of (s _ _ hx)) f hs hd
theorem lcK_mapL (hx : H a = some (.lst xs)) (hn : xs.length ≤ 16777215) (f : V → V)
    (hs : ∀ (i : Nat) (x : V) (H1 : Hp) (k : VK), xs[i]? = some x → Same H H1 → (∀ H2, Same H1 H2 → k (f x) H2) → g x (wipe σ vs) H1 fun σ2 H2 => wipe σ2 vs = wipe σ vs ∧ te σ2 H2 k)
    (hd : ∀ D H1, Same H H1 → H D = none → H1 D = some (.lst (xs.map f)) → Q (.ref D) H1) : lcK g tYes te vs σ Q (Itl K a) H :=
  lcK_map walk_list hn (fun H1 s => SqL.of (s _ _ hx)) f hs hd
end
/-! values whose result is a new object -/
def rCatN : R2 := fun x y H Q => ∃ l b, x = .ref l ∧ y = .ref b ∧ ∃ xs, H l = some (.lst xs) ∧ ∃ zs, H b = some (.lst zs) ∧ xs.length + zs.length ≤ sizeLine ∧ ∀ p H2, IsNew H p (.lst (xs ++ zs)) H2 → Q (.ref p) H2
def rTupOfN : List V → Hp → VK → Prop := fun xs H Q => ∃ p, xs = [.ref p] ∧ ∃ ys, H p = some (.lst ys) ∧ ∀ l H2, IsNew H l (.tup ys) H2 → Q (.ref l) H2
def rLstOfN : List V → Hp → VK → Prop := fun xs H Q => ∃ p, xs = [.ref p] ∧ ∃ ys, H p = some (.lst ys) ∧ ∀ l H2, IsNew H l (.lst ys) H2 → Q (.ref l) H2
def rSlLN : V → Option Int → Option Int → Hp → VK → Prop := fun x lo hi H Q => ∃ a, x = .ref a ∧ ∃ xs, H a = some (.lst xs) ∧ ∀ p H2, IsNew H p (.lst (cutV xs lo hi)) H2 → Q (.ref p) H2
/-- a tuple's part: a new tuple, or itself -/
def rSlTN : V → Option Int → Option Int → Hp → VK → Prop := fun x lo hi H Q => ∃ a, x = .ref a ∧ ∃ xs, H a = some (.tup xs) ∧ ∀ p H2, Same H H2 → H2 p = some (.tup (cutV xs lo hi)) → Q (.ref p) H2
section
variable {X : Cx}
theorem OpR.mono {f : Value → Value → Sem Value} {r r' : R2} (h : OpR X f r) (k : ∀ x y H Q, r' x y H Q → r x y H Q) : OpR X f r' := fun pins s σ H x y a b Q I r1 r2 q => h pins s σ H x y a b Q I r1 r2 (k _ _ _ _ q)
theorem SlR.mono {r r' : V → Option Int → Option Int → Hp → VK → Prop} (h : SlR X r) (k : ∀ x lo hi H Q, r' x lo hi H Q → r x lo hi H Q) : SlR X r' := fun pins s σ H x v vl vu lo hi sl Q I rx hs pl pu q => h pins s σ H x v vl vu lo hi sl Q I rx hs pl pu (k _ _ _ _ _ q)
theorem op_cat_n : OpR X (binaryOp .Add) rCatN := OpR.mono op_cat fun x y H Q ⟨l, b, e1, e2, xs, h1, zs, h2, hz, q⟩ => ⟨l, b, xs, zs, e1, e2, h1, h2, hz, fun p n => q p _ ⟨n, rfl⟩⟩
theorem call_tuple_n : CallR X (.type "tuple") rTupOfN := CallR.mono call_tuple_of fun x H Q ⟨p, e, ys, h, q⟩ => ⟨p, ys, e, .inl ⟨SqL.of h, fun l n => q l _ ⟨n, rfl⟩⟩⟩
theorem call_list_n : CallR X (.type "list") rLstOfN := CallR.mono call_list_of fun x H Q ⟨p, e, ys, h, q⟩ => ⟨p, ys, e, .inl (SqL.of h), fun l n => q l _ ⟨n, rfl⟩⟩
theorem sl_list_n : SlR X rSlLN := SlR.mono sl_list fun x lo hi H Q ⟨a, e, xs, h, q⟩ => ⟨a, xs, e, SqL.of h, fun p n => q p _ ⟨n, rfl⟩⟩
theorem cut_whole {xs : List V} {lo hi : Option Int} (h : HT.sIx xs.length 0 lo = 0 ∧ HT.sIx xs.length xs.length hi = xs.length) : cutV xs lo hi = xs := by
  unfold cutV
  rw [h.1, h.2]
  simp
theorem sl_tup_n : SlR X rSlTN := SlR.mono sl_tupA fun x lo hi H Q ⟨a, e, xs, h, q⟩ => ⟨a, xs, e, SqT.of h, fun w => q a H same_refl (by rw [cut_whole w]; exact h), fun _ p n => q p _ (IsNew.same ⟨n, rfl⟩) upd_same⟩
end
/-! exceptions leave by the def's own way -/
section
variable {P : Program} {w : World} {K : PySem.W.Frag} {mg : Str → Option Value} {base : Heap} {N : List Str} {qual : Str} {scope : Scope} {f : Addr} {cd : Value} {A : Around} {outer : List Env} {s : Shared} {H : Hp} {E : XK}
theorem cxK {CX : CXT} : (cxOf CX P w K mg base N qual scope f cd A outer s H E).K = K := rfl
theorem passD : Passes (L2.CX P w) (cxOf (L2.CX P w) P w K mg base N qual scope f cd A outer s H E) E := passes_call (takes_of rfl rfl rfl rfl) (fun _ _ _ _ h => h)
theorem passO : PassesOwn (model P w) (cxOf (L2.CX P w) P w K mg base N qual scope f cd A outer s H E).A (cxOf (L2.CX P w) P w K mg base N qual scope f cd A outer s H E).env (cxOf (L2.CX P w) P w K mg base N qual scope f cd A outer s H E).xe := passes_of rfl
end
end FR

/-! Data: ints, texts, flat lists and tuples of them. -/
namespace FR
open PySem PySem.Spec PyProof.Rows L2 FL TL
section
variable {K : PySem.W.Frag} {H : Hp}
theorem dp_ints : ∀ ns : List Int, DpAll K H (ns.map V.int) (ns.map PyData.int)
  | [] => .nil
  | n :: r => .cons (.int n) (dp_ints r)
theorem dp_strs : ∀ ns : List Str, DpAll K H (ns.map V.str) (ns.map PyData.str)
  | [] => .nil
  | n :: r => .cons (.str n) (dp_strs r)
theorem dp_bls : ∀ ns : List Bool, DpAll K H (ns.map V.bl) (ns.map PyData.bool)
  | [] => .nil
  | n :: r => .cons (.bl n) (dp_bls r)
theorem lay_ints : ∀ ns : List Int, PyData.canLayAll0 (ns.map PyData.int) = true
  | [] => by simp [PyData.canLayAll0]
  | n :: r => by simp [PyData.canLayAll0, PyData.canLay0, lay_ints r]
theorem lay_bls : ∀ ns : List Bool, PyData.canLayAll0 (ns.map PyData.bool) = true
  | [] => by simp [PyData.canLayAll0]
  | n :: r => by simp [PyData.canLayAll0, PyData.canLay0, lay_bls r]
theorem lay_strs : ∀ ns : List Str, (∀ x ∈ ns, PyData.strOk x = true) → PyData.canLayAll0 (ns.map PyData.str) = true
  | [], _ => by simp [PyData.canLayAll0]
  | n :: r, h => by simp [PyData.canLayAll0, PyData.canLay0, lay_strs r (fun x hx => h x (List.mem_cons_of_mem _ hx)), h n List.mem_cons_self]
theorem depth_flat : ∀ ds : List PyData, (∀ d ∈ ds, d.depth = 0) → PyData.depthAll ds = 0
  | [], _ => by simp [PyData.depthAll]
  | d :: r, h => by simp [PyData.depthAll, depth_flat r (fun x hx => h x (List.mem_cons_of_mem _ hx)), h d List.mem_cons_self]
theorem shaped_list {ds : List PyData} (h : PyData.canLayAll0 ds = true) (k : PyData.depthAll ds ≤ 63) : SeqAt.shaped (.list ds) = true := by
  unfold SeqAt.shaped
  simp [PyData.canLay0, h, PyData.depth]
  omega
theorem shaped_tuple {ds : List PyData} (h : PyData.canLayAll0 ds = true) (k : PyData.depthAll ds ≤ 63) : SeqAt.shaped (.tuple ds) = true := by
  unfold SeqAt.shaped
  simp [PyData.canLay0, h, PyData.depth]
  omega
theorem depth_ints (ns : List Int) : PyData.depthAll (ns.map PyData.int) = 0 := depth_flat _ fun d hd => by
  obtain ⟨n, _, rfl⟩ := List.mem_map.mp hd
  simp [PyData.depth]
theorem depth_strs (ns : List Str) : PyData.depthAll (ns.map PyData.str) = 0 := depth_flat _ fun d hd => by
  obtain ⟨n, _, rfl⟩ := List.mem_map.mp hd
  simp [PyData.depth]
theorem depth_bls (ns : List Bool) : PyData.depthAll (ns.map PyData.bool) = 0 := depth_flat _ fun d hd => by
  obtain ⟨n, _, rfl⟩ := List.mem_map.mp hd
  simp [PyData.depth]
theorem shaped_ints (ns : List Int) : SeqAt.shaped (.list (ns.map PyData.int)) = true := shaped_list (lay_ints ns) (by rw [depth_ints]; decide)
theorem shaped_bls (ns : List Bool) : SeqAt.shaped (.list (ns.map PyData.bool)) = true := shaped_list (lay_bls ns) (by rw [depth_bls]; decide)
theorem shaped_strs {ns : List Str} (h : ∀ x ∈ ns, PyData.strOk x = true) : SeqAt.shaped (.list (ns.map PyData.str)) = true := shaped_list (lay_strs ns h) (by rw [depth_strs]; decide)
theorem shapedT_strs {ns : List Str} (h : ∀ x ∈ ns, PyData.strOk x = true) : SeqAt.shaped (.tuple (ns.map PyData.str)) = true := shaped_tuple (lay_strs ns h) (by rw [depth_strs]; decide)
theorem eqvAll_strs : ∀ xs ys : List Str, PyData.eqvAll (xs.map PyData.str) (ys.map PyData.str) = decide (xs = ys)
  | [], [] => by simp [PyData.eqvAll]
  | [], _ :: _ => by simp [PyData.eqvAll]
  | _ :: _, [] => by simp [PyData.eqvAll]
  | x :: xs, y :: ys => by
    simp only [List.map_cons, PyData.eqvAll, PyData.eqv, eqvAll_strs xs ys, List.cons.injEq]
    by_cases h : x = y <;> by_cases k : xs = ys <;> simp [h, k]
theorem eqvAll_ints : ∀ xs ys : List Int, PyData.eqvAll (xs.map PyData.int) (ys.map PyData.int) = decide (xs = ys)
  | [], [] => by simp [PyData.eqvAll]
  | [], _ :: _ => by simp [PyData.eqvAll]
  | _ :: _, [] => by simp [PyData.eqvAll]
  | x :: xs, y :: ys => by
    simp only [List.map_cons, PyData.eqvAll, PyData.eqv, eqvAll_ints xs ys, List.cons.injEq]
    by_cases h : x = y <;> by_cases k : xs = ys <;> simp [h, k]
theorem eqv_strs (xs ys : List Str) : PyData.eqv (.list (xs.map PyData.str)) (.list (ys.map PyData.str)) = decide (xs = ys) := by
  rw [← eqvAll_strs]
  simp [PyData.eqv]
theorem eqvT_strs (xs ys : List Str) : PyData.eqv (.tuple (xs.map PyData.str)) (.tuple (ys.map PyData.str)) = decide (xs = ys) := by
  rw [← eqvAll_strs]
  simp [PyData.eqv]
theorem eqv_ints (xs ys : List Int) : PyData.eqv (.list (xs.map PyData.int)) (.list (ys.map PyData.int)) = decide (xs = ys) := by
  rw [← eqvAll_ints]
  simp [PyData.eqv]
/-- lists and tuples of texts compared: tracked -/
theorem eqD_strL {a b : Addr} {xs ys : List Str} (ha : H a = some (.lst (xs.map V.str))) (hb : H b = some (.lst (ys.map V.str))) (hx : ∀ x ∈ xs, PyData.strOk x = true) (hy : ∀ x ∈ ys, PyData.strOk x = true) {Q : VK} (q : Q (.bl (decide (xs = ys))) H) : rEqD K (.ref a) (.ref b) H Q :=
  ⟨_, _, .lst (SqL.of ha) (dp_strs _), .lst (SqL.of hb) (dp_strs _), shaped_strs hx, shaped_strs hy, by rw [eqv_strs]; exact q⟩
theorem neD_strL {a b : Addr} {xs ys : List Str} (ha : H a = some (.lst (xs.map V.str))) (hb : H b = some (.lst (ys.map V.str))) (hx : ∀ x ∈ xs, PyData.strOk x = true) (hy : ∀ x ∈ ys, PyData.strOk x = true) {Q : VK} (q : Q (.bl (!decide (xs = ys))) H) : rNeD K (.ref a) (.ref b) H Q :=
  ⟨_, _, .lst (SqL.of ha) (dp_strs _), .lst (SqL.of hb) (dp_strs _), shaped_strs hx, shaped_strs hy, by rw [eqv_strs]; exact q⟩
theorem eqD_strT {a b : Addr} {xs ys : List Str} (ha : H a = some (.tup (xs.map V.str))) (hb : H b = some (.tup (ys.map V.str))) (hx : ∀ x ∈ xs, PyData.strOk x = true) (hy : ∀ x ∈ ys, PyData.strOk x = true) {Q : VK} (q : Q (.bl (decide (xs = ys))) H) : rEqD K (.ref a) (.ref b) H Q :=
  ⟨_, _, .tup (SqT.of ha) (dp_strs _), .tup (SqT.of hb) (dp_strs _), shapedT_strs hx, shapedT_strs hy, by rw [eqvT_strs]; exact q⟩
theorem neD_strT {a b : Addr} {xs ys : List Str} (ha : H a = some (.tup (xs.map V.str))) (hb : H b = some (.tup (ys.map V.str))) (hx : ∀ x ∈ xs, PyData.strOk x = true) (hy : ∀ x ∈ ys, PyData.strOk x = true) {Q : VK} (q : Q (.bl (!decide (xs = ys))) H) : rNeD K (.ref a) (.ref b) H Q :=
  ⟨_, _, .tup (SqT.of ha) (dp_strs _), .tup (SqT.of hb) (dp_strs _), shapedT_strs hx, shapedT_strs hy, by rw [eqvT_strs]; exact q⟩
theorem isi_ty {x : V} {a b : String} {r : Bool} {Q : VK} (t : TyOf K H x (.type a)) (h : kitB a b = some r) (q : Q (.bl r) H) : rIsi K [x, .ty b] H Q := ⟨x, .ty b, .type a, .type b, r, rfl, .ty b, .base t, kit_ty h, q⟩
theorem isi_own {a : Addr} {C B : Addr} {r : Bool} {Q : VK} (t : TyOf K H (.ref a) (.ref C)) (h : PySem.W.kitOne K (.ref C) (.ref B) = some r) (q : Q (.bl r) H) : rIsi K [.ref a, .ref B] H Q := ⟨.ref a, .ref B, .ref C, .ref B, r, rfl, .own B, .base t, h, q⟩
end
theorem ok_app {a b : Str} (h : PyData.strOk a = true) (k : PyData.strOk b = true) : PyData.strOk (a ++ b) = true := by
  have e : (a ++ b).cps = a.cps ++ b.cps := rfl
  unfold PyData.strOk at *
  rw [e, Array.all_append, h, k]
  rfl
theorem ok_list {a : Str} : PyData.strOk a = a.cps.toList.all (fun c => decide (c < 0x110000)) := by
  unfold PyData.strOk
  simp
theorem ok_cut {z : Str} (h : PyData.strOk z = true) (lo hi : Option Int) : PyData.strOk (cutS z lo hi) = true := by
  rw [ok_list] at *
  rw [List.all_eq_true] at *
  intro c hc
  refine h c ?_
  unfold cutS at hc
  exact List.mem_of_mem_drop (List.mem_of_mem_take (by simpa using hc))
theorem ok_tl {a : Str} : PyData.strOk a = (tl a).all (fun c => decide (c < 0x110000)) := ok_list
theorem ok_joinL {S : List Nat} (hS : S.all (fun c => decide (c < 0x110000)) = true) : ∀ ps : List (List Nat), (∀ p ∈ ps, p.all (fun c => decide (c < 0x110000)) = true) → (joinL S ps).all (fun c => decide (c < 0x110000)) = true
  | [], _ => rfl
  | [p], h => h p List.mem_cons_self
  | p :: q :: r, h => by
    have ih := ok_joinL hS (q :: r) fun x hx => h x (List.mem_cons_of_mem _ hx)
    have e : joinL S (p :: q :: r) = p ++ (S ++ joinL S (q :: r)) := rfl
    rw [e, List.all_append, List.all_append, ih, hS, h p List.mem_cons_self]
    rfl
theorem ok_join {y : Str} {ps : List Str} (hy : PyData.strOk y = true) (h : ∀ p ∈ ps, PyData.strOk p = true) : PyData.strOk (Txt.join y ps) = true := by
  rw [join_eq, ok_tl, tl_join]
  refine ok_joinL (by rw [← ok_tl]; exact hy) _ fun p hp => ?_
  obtain ⟨x, hx, rfl⟩ := List.mem_map.mp hp
  rw [← ok_tl]
  exact h x hx
theorem cut_front {xs : List V} : cutV xs none (some (-1)) = xs.take (xs.length - 1) := by
  unfold cutV HT.sIx
  simp only [List.drop_zero, Nat.sub_zero]
  congr 1
  simp
  omega
theorem cut_all {xs : List V} : cutV xs none none = xs := by
  unfold cutV HT.sIx
  simp
theorem atI_last {α : Type} {xs : List α} {v : α} (h : xs[xs.length - 1]? = some v) : atI xs (-1) = some v := by
  have hl : xs.length - 1 < xs.length := idx_lt h
  unfold atI ixN
  rw [if_neg (by decide), if_pos (by omega)]
  have e : ((-1 : Int) + (xs.length : Int)).toNat = xs.length - 1 := by omega
  rw [e]
  exact h
theorem len_app {a b : Str} : (a ++ b).length = a.length + b.length := by
  show (a.cps ++ b.cps).size = _
  rw [Array.size_append] <;> rfl
theorem len_cut (z : Str) (lo hi : Option Int) : (cutS z lo hi).length ≤ z.length := by
  unfold cutS
  show (List.toArray _).size ≤ z.cps.size
  simp
  omega

/-! ### what repr asks -/
structure Rp (w k : Nat) (d : PyData) : Prop where
  sh : d.showable = true
  nd : d.hasDict = false
  ls : d.leavesShort 13 = true
  wt : d.weight ≤ w
  dp : d.depth ≤ k
structure RpA (w k : Nat) (ds : List PyData) : Prop where
  sh : PyData.showableAll ds = true
  nd : PyData.hasDictAll ds = false
  ls : PyData.leavesShortAll 13 ds = true
  wt : PyData.weightAll ds ≤ w
  dp : PyData.depthAll ds ≤ k
theorem RpA.nil : RpA 0 0 [] := ⟨by simp [PyData.showableAll], by simp [PyData.hasDictAll], by simp [PyData.leavesShortAll], by simp [PyData.weightAll], by simp [PyData.depthAll]⟩
theorem RpA.cons {w k w' k' : Nat} {d : PyData} {ds : List PyData} (h : Rp w k d) (g : RpA w' k' ds) : RpA (w + 1 + w') (max k k') (d :: ds) := by
  refine ⟨by simp [PyData.showableAll, h.sh, g.sh], by simp [PyData.hasDictAll, h.nd, g.nd], by simp [PyData.leavesShortAll, h.ls, g.ls], ?_, ?_⟩
  · have := h.wt; have := g.wt; simp [PyData.weightAll]; omega
  · have := h.dp; have := g.dp; simp [PyData.depthAll]; omega
theorem Rp.list {w k : Nat} {ds : List PyData} (h : RpA w k ds) : Rp w (k + 1) (.list ds) := ⟨by simp [PyData.showable, h.sh], by simp [PyData.hasDict, h.nd], by simp [PyData.leavesShort, h.ls], by simp [PyData.weight, h.wt], by simp [PyData.depth, h.dp]⟩
theorem Rp.tuple {w k : Nat} {ds : List PyData} (h : RpA w k ds) : Rp w (k + 1) (.tuple ds) := ⟨by simp [PyData.showable, h.sh], by simp [PyData.hasDict, h.nd], by simp [PyData.leavesShort, h.ls], by simp [PyData.weight, h.wt], by simp [PyData.depth, h.dp]⟩
theorem Rp.none : Rp 0 0 .none := ⟨by simp [PyData.showable], by simp [PyData.hasDict], by simp [PyData.leavesShort], by simp [PyData.weight], by simp [PyData.depth]⟩
theorem Rp.bool (b : Bool) : Rp 0 0 (.bool b) := ⟨by simp [PyData.showable], by simp [PyData.hasDict], by simp [PyData.leavesShort], by simp [PyData.weight], by simp [PyData.depth]⟩
theorem Rp.str {z : Str} {w : Nat} (h : PyData.strOk z = true) (l : z.length ≤ w) : Rp w 0 (.str z) := by
  refine ⟨by simp [PyData.showable], by simp [PyData.hasDict], ?_, by simp only [PyData.weight]; exact l, by simp [PyData.depth]⟩
  rw [ok_list, List.all_eq_true] at h
  simp only [PyData.leavesShort]
  rw [List.all_eq_true]
  intro c hc
  have := of_decide_eq_true (h c hc)
  exact decide_eq_true (by omega)
theorem RpA.strs {m : Nat} : ∀ {ns : List Str}, (∀ x ∈ ns, PyData.strOk x = true ∧ x.length ≤ m) → RpA (ns.length * (m + 1)) 0 (ns.map PyData.str)
  | [], _ => by simpa using RpA.nil
  | n :: r, h => by
    have h1 := RpA.strs (ns := r) fun x hx => h x (List.mem_cons_of_mem _ hx)
    have h2 := Rp.str (h n List.mem_cons_self).1 (h n List.mem_cons_self).2
    have h3 := RpA.cons h2 h1
    simp only [List.length_cons, List.map_cons]
    refine ⟨h3.sh, h3.nd, h3.ls, ?_, h3.dp⟩
    have := h3.wt
    rw [Nat.add_mul]
    omega
theorem repr_of {K : PySem.W.Frag} {H : Hp} {x : V} {d : PyData} {w k : Nat} {Q : VK} (h : Dp K H x d) (r : Rp w k d) (hw : w ≤ 1048576) (hk : k ≤ 60) (hi : ∀ i, x ≠ .int i) (q : Q (.str d.shown) H) : rRepr K [x] H Q :=
  ⟨x, d, rfl, h, r.sh, r.nd, r.ls, by have := r.wt; omega, by have := r.dp; omega, hi, q⟩
def sgns : List Nat := [97, 98, 99, 100, 101, 102, 103, 104, 105, 106, 107, 108, 109, 110, 111, 112, 113, 114, 115, 116, 117, 118, 119, 120, 121, 122, 48, 49, 50, 51, 52, 53, 54, 55, 56, 57, 95, 45, 46]
theorem sign_eq : (PySem.Str.ofString "abcdefghijklmnopqrstuvwxyz0123456789_-.").cps.toList = sgns := by decide +kernel
def pt1 : Str := ⟨#[46]⟩
def pt2 : Str := ⟨#[46, 46]⟩
theorem pt1_eq : PySem.Str.ofString "." = pt1 := by decide +kernel
theorem pt2_eq : PySem.Str.ofString ".." = pt2 := by decide +kernel
/-- where c stands last in l, or -1 -/
def IsLast (c : Nat) (l : List Nat) (s : Int) : Prop := (s = -1 ∧ ∀ k : Nat, l[k]? ≠ some c) ∨ ∃ i : Nat, s = i ∧ l[i]? = some c ∧ ∀ k : Nat, i < k → l[k]? ≠ some c
theorem IsLast.uniq {c : Nat} {l : List Nat} {s t : Int} (h : IsLast c l s) (k : IsLast c l t) : s = t := by
  rcases h with ⟨h1, h2⟩ | ⟨i, h1, h2, h3⟩ <;> rcases k with ⟨k1, k2⟩ | ⟨j, k1, k2, k3⟩
  · omega
  · exact absurd k2 (h2 j)
  · exact absurd h2 (k2 i)
  · rcases Nat.lt_trichotomy i j with e | e | e
    · exact absurd k2 (h3 j e)
    · omega
    · exact absurd h2 (k3 i e)
theorem IsLast.nil {c : Nat} : IsLast c [] (-1) := .inl ⟨rfl, fun k h => by simp at h⟩
theorem IsLast.step {c x : Nat} {l : List Nat} {s : Int} (h : IsLast c l s) : IsLast c (l ++ [x]) (if x = c then (l.length : Int) else s) := by
  by_cases e : x = c
  · rw [if_pos e]
    refine .inr ⟨l.length, rfl, by simp [e], fun k hk hh => ?_⟩
    rw [List.getElem?_eq_none (by simp; omega)] at hh
    cases hh
  · rw [if_neg e]
    have no : ∀ k : Nat, (l ++ [x])[k]? = some c → l[k]? = some c := fun k hk => by
      by_cases hl : k < l.length
      · rw [List.getElem?_append_left hl] at hk
        exact hk
      · rw [List.getElem?_append_right (by omega)] at hk
        by_cases h0 : k - l.length = 0
        · rw [h0] at hk
          simp at hk
          exact absurd hk e
        · rw [List.getElem?_eq_none (by simp; omega)] at hk
          cases hk
    rcases h with ⟨h1, h2⟩ | ⟨i, h1, h2, h3⟩
    · exact .inl ⟨h1, fun k hk => h2 k (no k hk)⟩
    · exact .inr ⟨i, h1, by rw [List.getElem?_append_left (idx_lt h2)]; exact h2, fun k hk hh => h3 k hk (no k hh)⟩
theorem rfind_last (z : Str) (c : Nat) : IsLast c z.cps.toList (Txt.rfind z ⟨#[c]⟩) := by
  unfold Txt.rfind
  rcases PySem.StrLaws.last_spec z ⟨#[c]⟩ with ⟨e, h⟩ | ⟨i, e, h, k⟩
  · rw [e]
    exact .inl ⟨rfl, fun k hk => h k ((PySem.StrLaws.subAt_one z c k).mpr hk)⟩
  · rw [e]
    exact .inr ⟨i, rfl, (PySem.StrLaws.subAt_one z c i).mp h, fun m hm hk => k m hm ((PySem.StrLaws.subAt_one z c m).mpr hk)⟩
theorem walk_Ies {x : Str} : Walk (Ies x) x.cps.size (fun _ => True) (fun i H v H' => ∃ T c, v = V.ref T ∧ H T = none ∧ H' = upd H T (.tup [.int (i : Nat), .str ⟨#[c]⟩]) ∧ x.cps[i]? = some c) :=
  ⟨fun i H h _ => h, fun H _ => Nat.le_refl _, fun i H x H' _ _ y => y⟩
end FR

/-! The end: the law's promise (Fn, guards told) at the heap behind the top. -/
namespace FE
open PySem PySem.Spec PyProof.Rows L2 FL FH
theorem room_caller {k : Nat} (h : k ≤ 40) : Rm k callerA := by
  have r : Room 40 callerA := ⟨rfl, by decide, by decide⟩
  exact ⟨r.mono h, rfl⟩
/-- the heap that tells of the script alone -/
def scH (K : PySem.W.Frag) (a : Addr) (u : HO) : Hp := fun b => if b = a ∧ K.lookup a = none then some u else none
theorem scH_some {K : PySem.W.Frag} {a b : Addr} {u v : HO} (h : scH K a u b = some v) : b = a ∧ K.lookup a = none ∧ v = u := by
  unfold scH at h
  split at h
  · rename_i c
    exact ⟨c.1, c.2, (Option.some.inj h).symm⟩
  · cases h
theorem call_at {P : Program} {w : World} {K : PySem.W.Frag} {mg mb : Str → Option Value} {k : Nat} {fa a : Addr} {sp : Sp} {s : Shared} {vs : List Value} {ns : List Int}
    (kin : K.In s.heap) (hns : s.heap.Ns mainGlobals mg) (hbn : s.heap.Ns builtinsNs mb) (hbb : ∀ x : Str, x ≠ "__name__" → mb x = bootBuiltins x) (hlim : s.heap.NoLimit) (hgen : s.gens = #[])
    (hobj : s.heap.get? a = some { cls := .type "list", data := .seq vs.toArray }) (hint : IntsAre vs ns) (hlen : ns.length ≤ sizeLine) (hk : k ≤ 40)
    (F : ∀ base : Heap, K.In base → base.Ns mainGlobals mg → Fn P w K mg base k fa [] sp)
    (hsp : ∀ H : Hp, SqL K H a (ns.map V.int) → sp [.ref a] H (fun v _ => v = .bl true) fun _ _ _ => False) :
    codeAny (model P w) callerA (.call (.ref fa) ⟨[.ref a], []⟩) (fun r s' => r = .ok (.ret (.bool true)) ∧ OldK s.heap s'.heap ∧ s'.os = s.os ∧ AllBare s'.gens) s := by
  have rel := vals_ints hint
  have ln := hint.length
  obtain ⟨so, eso⟩ : ∃ so : Obj, so = { cls := .type "list", data := .seq vs.toArray } := ⟨_, rfl⟩
  rw [← eso] at hobj
  obtain ⟨H, eH⟩ : ∃ H : Hp, H = scH K a (.frz so (.lst (ns.map V.int))) := ⟨_, rfl⟩
  have only : ∀ {b : Addr} {v : HO}, H b = some v → b = a ∧ K.lookup a = none ∧ v = .frz so (.lst (ns.map V.int)) := fun {b v} h => scH_some (by rw [← eH]; exact h)
  have ok : HOk P w H s.heap := by
    intro b v h
    obtain ⟨e1, _, e3⟩ := only h
    subst e1 e3 eso
    exact ⟨hobj, by rw [List.length_map]; exact hlen, vs, _, rel, hobj⟩
  have sq : SqL K H a (ns.map V.int) := by
    cases hka : K.lookup a with
    | none => exact .inl (.inr ⟨so, by rw [eH]; exact if_pos ⟨rfl, hka⟩⟩)
    | some o =>
      have z := kin a o hka
      rw [hobj] at z
      obtain rfl : so = o := Option.some.inj z
      subst eso
      exact .inr ⟨_, vs.toArray, _, hka, rfl, rfl, rfl, by rw [List.size_toArray, ln]; exact hlen, by simpa using rel⟩
  have free : ∀ {b : Addr} {o : Obj}, s.heap.get? b = some o → (b = a → K.lookup a ≠ none ∨ o ≠ so) → H b = none := fun {b o} h n => by
    cases e : H b with
    | none => rfl
    | some v =>
      obtain ⟨e1, e2, _⟩ := only e
      rcases n e1 with z | z
      · exact absurd e2 z
      · subst e1
        rw [hobj] at h
        exact absurd (Option.some.inj h).symm z
  have toBase : ∀ {b : Addr} {m : Str → Option Value}, s.heap.Ns b m → (hidT s.heap H).Ns b m := fun {b m} ⟨o, es, ep, h, d, r⟩ => ⟨o, es, ep, hidT_get h (free h fun _ => .inr fun z => by
    rw [z, eso] at d
    have d' : Data.seq vs.toArray _ = Data.dict es ep := d
    cases d'), d, r⟩
  have kbase : K.In (hidT s.heap H) := fun b o h => hidT_get (kin b o h) (free (kin b o h) fun e => .inl (by rw [← e, h]; simp))
  have mod : Mod K mg (hidT s.heap H) := ⟨kbase, toBase hns, ⟨mb, toBase hbn, hbb⟩, let ⟨mc, g1, g2⟩ := hlim; ⟨mc, toBase g1, g2⟩⟩
  have env : Env0 P w K mg (hidT s.heap H) callerA [] s H := by
    refine ⟨rfl, mod, fun b o h => of_hidT h, Nat.le_of_eq (hidT_size _ _), trivial, ?_, ok, .of_eq hgen⟩
    intro b hb
    cases (show b ∈ ([] : List Addr) from hb)
  have run := F _ kbase (toBase hns) callerA [] s H [.ref a] [] [.ref a] [] _ _ (room_caller hk) env (.cons rfl .nil) .nil rfl (hsp H sq)
  refine codeAny_mono run fun r s' h => ?_
  cases r with
  | error e =>
    obtain ⟨_, _, _, _, _, _, _, _, _, _, _, _, z⟩ := (show L2.CX P w [] H s (fun _ _ _ => False) e s' from h)
    exact z.elim
  | ok fl =>
    cases fl with
    | ret u =>
      obtain ⟨v, H', os, bare, un, ok', rv, q⟩ := h
      have qv : v = .bl true := q
      subst qv
      obtain rfl : u = Value.bool true := rv
      refine ⟨rfl, OldK.of_keep fun b o hb => ?_, os, bare⟩
      cases e : H b with
      | none =>
        refine un.keep b o hb e (fun z => ?_) (by simp)
        cases (show b ∈ ([] : List Addr) from z)
      | some v =>
        obtain ⟨_, _, e3⟩ := only e
        subst e3
        obtain ⟨g1, _⟩ := ok b _ e
        obtain ⟨g2, _⟩ := ok' b _ (un.frzs b so _ e)
        rw [hb] at g1
        rw [g2, Option.some.inj g1]
    | next => exact False.elim h
    | brk => exact False.elim h
    | cont => exact False.elim h
/-- the goal that the head leaves, from the law's promise -/
theorem walk_fn {l : PySem.W.OpenLaw} {n k : Nat} {q : Program} {loose : List Str} {XP : (Str → Option Value) → Heap → Prop} {YP : World → Heap → Prop} {d : DefRec}
    (hn : l.most = some n) (hn2 : n ≤ sizeLine) (hdf : d.params.defaults = []) (hk : k ≤ 40)
    (F : ∀ (w : World) (mg : Str → Option Value) (fa : Addr) (h : Heap), YP w h → h.Ns mainGlobals mg → mg d.name = some (.ref fa) →
      ∃ (K : PySem.W.Frag) (sp : Sp), K.In h ∧ (∀ (H : Hp) (a : Addr) (ns : List Int), ns.length ≤ n → SqL K H a (ns.map V.int) → sp [.ref a] H (fun v _ => v = .bl true) fun _ _ _ => False) ∧
        ∀ base : Heap, K.In base → base.Ns mainGlobals mg → Fn l.prog w K mg base k fa [] sp) :
    PySem.W.WalkO q loose XP YP l.row.toRowW d [] (fun f vs => PySem.call f vs) := by
  refine Att.attach_call hn hdf fun w s0 s1 mg mb f o pm cd dc p us is G Y hf hdat hcode hm hp hint hlen hgen => ?_
  obtain ⟨K, sp, kin, h1, h2⟩ := F w mg f _ Y G.T.g hm
  exact call_at kin G.T.g G.T.b G.T.builtins G.T.nolimit hgen hp hint (Nat.le_trans hlen hn2) hk h2 fun H hS => h1 H p is hlen hS
end FE

namespace FLG
open PySem PySem.Spec PyProof.Rows L2 FL FH FR He TL
def top (i : Nat) : Stmt := PySem.Challenge.pw_filelayer_k04_texts_and_last_names.main.body.getD i (.Pass ⟨0, 0, 0, 0⟩)
abbrev s_law_next : Stmt := top 18
abbrev N_law_next : List Str := ["_law_source_here", "_law_many", "_law_found", "_law_primes", "_law_prime"]
theorem sc_law_next : FnScope N_law_next ["_law_source_here", "_law_many"] (defScope s_law_next) := ⟨rfl, rfl, rfl, by decide +kernel, rfl, by decide +kernel, by decide +kernel⟩
def d_law_next : DX := ⟨aG "_law_next", "_law_next", "_law_next", s_law_next, [], []⟩
theorem b_law_next {K : PySem.W.Frag} {fd : FuncData} (F : FunX K d_law_next fd) : Binds K fd ["_law_source_here", "_law_many"] [] := FunD.bindsN F fun _ _ _ _ _ _ us hl => match us, hl with | [_, _], _ => rfl
abbrev s_law_source : Stmt := top 17
abbrev N_law_source : List Str := ["_law_script", "_law_k", "_law_cell"]
theorem sc_law_source : FnScope N_law_source ["_law_script", "_law_k"] (defScope s_law_source) := ⟨rfl, rfl, rfl, by decide +kernel, rfl, by decide +kernel, by decide +kernel⟩
def d_law_source : DX := ⟨aG "_law_source", "_law_source", "_law_source", s_law_source, [], []⟩
theorem b_law_source {K : PySem.W.Frag} {fd : FuncData} (F : FunX K d_law_source fd) : Binds K fd ["_law_script", "_law_k"] [] := FunD.bindsN F fun _ _ _ _ _ _ us hl => match us, hl with | [_, _], _ => rfl
abbrev s_law_pick : Stmt := top 19
abbrev N_law_pick : List Str := ["_law_source_here", "_law_items"]
theorem sc_law_pick : FnScope N_law_pick ["_law_source_here", "_law_items"] (defScope s_law_pick) := ⟨rfl, rfl, rfl, by decide +kernel, rfl, by decide +kernel, by decide +kernel⟩
def d_law_pick : DX := ⟨aG "_law_pick", "_law_pick", "_law_pick", s_law_pick, [], []⟩
theorem b_law_pick {K : PySem.W.Frag} {fd : FuncData} (F : FunX K d_law_pick fd) : Binds K fd ["_law_source_here", "_law_items"] [] := FunD.bindsN F fun _ _ _ _ _ _ us hl => match us, hl with | [_, _], _ => rfl
abbrev s_is_name : Stmt := top 11
abbrev N_is_name : List Str := ["value", "sign"]
theorem sc_is_name : FnScope N_is_name ["value"] (defScope s_is_name) := ⟨rfl, rfl, rfl, by decide +kernel, rfl, by decide +kernel, by decide +kernel⟩
def d_is_name : DX := ⟨aG "is_name", "is_name", "is_name", s_is_name, [], []⟩
theorem b_is_name {K : PySem.W.Frag} {fd : FuncData} (F : FunX K d_is_name fd) : Binds K fd ["value"] [] := FunD.bindsN F fun _ _ _ _ _ _ us hl => match us, hl with | [_], _ => rfl
abbrev s_place_of : Stmt := top 13
abbrev N_place_of : List Str := ["names", "name"]
theorem sc_place_of : FnScope N_place_of ["names"] (defScope s_place_of) := ⟨rfl, rfl, rfl, by decide +kernel, rfl, by decide +kernel, by decide +kernel⟩
def d_place_of : DX := ⟨aG "place_of", "place_of", "place_of", s_place_of, [], []⟩
theorem b_place_of {K : PySem.W.Frag} {fd : FuncData} (F : FunX K d_place_of fd) : Binds K fd ["names"] [] := FunD.bindsN F fun _ _ _ _ _ _ us hl => match us, hl with | [_], _ => rfl
abbrev s_name_parts : Stmt := top 14
abbrev N_name_parts : List Str := ["name", "spot"]
theorem sc_name_parts : FnScope N_name_parts ["name"] (defScope s_name_parts) := ⟨rfl, rfl, rfl, by decide +kernel, rfl, by decide +kernel, by decide +kernel⟩
def d_name_parts : DX := ⟨aG "name_parts", "name_parts", "name_parts", s_name_parts, [], []⟩
theorem b_name_parts {K : PySem.W.Frag} {fd : FuncData} (F : FunX K d_name_parts fd) : Binds K fd ["name"] [] := FunD.bindsN F fun _ _ _ _ _ _ us hl => match us, hl with | [_], _ => rfl
abbrev s_Path_init : Stmt := inClass (top 15) 1
abbrev N_Path_init : List Str := ["self", "names", "name"]
theorem sc_Path_init : FnScope N_Path_init ["self", "names"] (defScope s_Path_init) := ⟨rfl, rfl, rfl, by decide +kernel, rfl, by decide +kernel, by decide +kernel⟩
def d_Path_init : DX := ⟨aM "Path" "__init__", "__init__", "Path.__init__", s_Path_init, [], []⟩
theorem v_Path_init {K : PySem.W.Frag} {fd : FuncData} (F : FunX K d_Path_init fd) : ∀ us rest : List Value, us.length = 1 → bindArgs fd ⟨us ++ rest, []⟩ = (newTuple rest >>= fun t => pure ((["self"] : List Str).zip us ++ [(("names" : Str), t)])) := by
  obtain ⟨oc, od, dV, kV, doc, pm, an, cdv, ct, osl, e, lk, hcd, hD, hK⟩ := F.ex
  subst e
  have hz : dV = .none := by
    rcases hD with ⟨_, z⟩ | ⟨e, _⟩
    · exact z
    · exact absurd rfl e
  subst hz
  intro us rest hl
  match us, hl with
  | [_], _ => cases rest with
    | nil => rfl
    | cons y ys => rfl
abbrev s_Path_text : Stmt := inClass (top 15) 3
abbrev N_Path_text : List Str := ["self"]
theorem sc_Path_text : FnScope N_Path_text ["self"] (defScope s_Path_text) := ⟨rfl, rfl, rfl, by decide +kernel, rfl, by decide +kernel, by decide +kernel⟩
def d_Path_text : DX := ⟨aP "Path" "text", "text", "Path.text", s_Path_text, [], []⟩
theorem b_Path_text {K : PySem.W.Frag} {fd : FuncData} (F : FunX K d_Path_text fd) : Binds K fd ["self"] [] := FunD.bindsN F fun _ _ _ _ _ _ us hl => match us, hl with | [_], _ => rfl
abbrev s_Path_name : Stmt := inClass (top 15) 5
abbrev N_Path_name : List Str := ["self"]
theorem sc_Path_name : FnScope N_Path_name ["self"] (defScope s_Path_name) := ⟨rfl, rfl, rfl, by decide +kernel, rfl, by decide +kernel, by decide +kernel⟩
def d_Path_name : DX := ⟨aP "Path" "name", "name", "Path.name", s_Path_name, [], []⟩
theorem b_Path_name {K : PySem.W.Frag} {fd : FuncData} (F : FunX K d_Path_name fd) : Binds K fd ["self"] [] := FunD.bindsN F fun _ _ _ _ _ _ us hl => match us, hl with | [_], _ => rfl
abbrev s_Path_stem : Stmt := inClass (top 15) 6
abbrev N_Path_stem : List Str := ["self"]
theorem sc_Path_stem : FnScope N_Path_stem ["self"] (defScope s_Path_stem) := ⟨rfl, rfl, rfl, by decide +kernel, rfl, by decide +kernel, by decide +kernel⟩
def d_Path_stem : DX := ⟨aP "Path" "stem", "stem", "Path.stem", s_Path_stem, [], []⟩
theorem b_Path_stem {K : PySem.W.Frag} {fd : FuncData} (F : FunX K d_Path_stem fd) : Binds K fd ["self"] [] := FunD.bindsN F fun _ _ _ _ _ _ us hl => match us, hl with | [_], _ => rfl
abbrev s_Path_suffix : Stmt := inClass (top 15) 7
abbrev N_Path_suffix : List Str := ["self"]
theorem sc_Path_suffix : FnScope N_Path_suffix ["self"] (defScope s_Path_suffix) := ⟨rfl, rfl, rfl, by decide +kernel, rfl, by decide +kernel, by decide +kernel⟩
def d_Path_suffix : DX := ⟨aP "Path" "suffix", "suffix", "Path.suffix", s_Path_suffix, [], []⟩
theorem b_Path_suffix {K : PySem.W.Frag} {fd : FuncData} (F : FunX K d_Path_suffix fd) : Binds K fd ["self"] [] := FunD.bindsN F fun _ _ _ _ _ _ us hl => match us, hl with | [_], _ => rfl
abbrev s_Path_parent : Stmt := inClass (top 15) 4
abbrev N_Path_parent : List Str := ["self", "names"]
theorem sc_Path_parent : FnScope N_Path_parent ["self"] (defScope s_Path_parent) := ⟨rfl, rfl, rfl, by decide +kernel, rfl, by decide +kernel, by decide +kernel⟩
def d_Path_parent : DX := ⟨aP "Path" "parent", "parent", "Path.parent", s_Path_parent, [], []⟩
theorem b_Path_parent {K : PySem.W.Frag} {fd : FuncData} (F : FunX K d_Path_parent fd) : Binds K fd ["self"] [] := FunD.bindsN F fun _ _ _ _ _ _ us hl => match us, hl with | [_], _ => rfl
abbrev s_law_good_name : Stmt := top 20
abbrev N_law_good_name : List Str := ["_law_source_here", "_law_some"]
theorem sc_law_good_name : FnScope N_law_good_name ["_law_source_here"] (defScope s_law_good_name) := ⟨rfl, rfl, rfl, by decide +kernel, rfl, by decide +kernel, by decide +kernel⟩
def d_law_good_name : DX := ⟨aG "_law_good_name", "_law_good_name", "_law_good_name", s_law_good_name, [], []⟩
theorem b_law_good_name {K : PySem.W.Frag} {fd : FuncData} (F : FunX K d_law_good_name fd) : Binds K fd ["_law_source_here"] [] := FunD.bindsN F fun _ _ _ _ _ _ us hl => match us, hl with | [_], _ => rfl
abbrev s_law_row : Stmt := top 22
abbrev N_law_row : List Str := ["_law_source_here", "_law_most", "_law_turn"]
theorem sc_law_row : FnScope N_law_row ["_law_source_here", "_law_most"] (defScope s_law_row) := ⟨rfl, rfl, rfl, by decide +kernel, rfl, by decide +kernel, by decide +kernel⟩
def d_law_row : DX := ⟨aG "_law_row", "_law_row", "_law_row", s_law_row, [], []⟩
theorem b_law_row {K : PySem.W.Frag} {fd : FuncData} (F : FunX K d_law_row fd) : Binds K fd ["_law_source_here", "_law_most"] [] := FunD.bindsN F fun _ _ _ _ _ _ us hl => match us, hl with | [_, _], _ => rfl
abbrev s_law_path_of_row : Stmt := top 21
abbrev N_law_path_of_row : List Str := ["_law_p"]
theorem sc_law_path_of_row : FnScope N_law_path_of_row ["_law_p"] (defScope s_law_path_of_row) := ⟨rfl, rfl, rfl, by decide +kernel, rfl, by decide +kernel, by decide +kernel⟩
def d_law_path_of_row : DX := ⟨aG "_law_path_of_row", "_law_path_of_row", "_law_path_of_row", s_law_path_of_row, [], []⟩
theorem b_law_path_of_row {K : PySem.W.Frag} {fd : FuncData} (F : FunX K d_law_path_of_row fd) : Binds K fd ["_law_p"] [] := FunD.bindsN F fun _ _ _ _ _ _ us hl => match us, hl with | [_], _ => rfl
abbrev s_law_spelled : Stmt := top 23
abbrev N_law_spelled : List Str := ["_law_row_here", "_law_name"]
theorem sc_law_spelled : FnScope N_law_spelled ["_law_row_here"] (defScope s_law_spelled) := ⟨rfl, rfl, rfl, by decide +kernel, rfl, by decide +kernel, by decide +kernel⟩
def d_law_spelled : DX := ⟨aG "_law_spelled", "_law_spelled", "_law_spelled", s_law_spelled, [], []⟩
theorem b_law_spelled {K : PySem.W.Frag} {fd : FuncData} (F : FunX K d_law_spelled fd) : Binds K fd ["_law_row_here"] [] := FunD.bindsN F fun _ _ _ _ _ _ us hl => match us, hl with | [_], _ => rfl
abbrev s_law_dotted : Stmt := top 24
abbrev N_law_dotted : List Str := ["_law_source_here", "_law_found", "_law_turn"]
theorem sc_law_dotted : FnScope N_law_dotted ["_law_source_here"] (defScope s_law_dotted) := ⟨rfl, rfl, rfl, by decide +kernel, rfl, by decide +kernel, by decide +kernel⟩
def d_law_dotted : DX := ⟨aG "_law_dotted", "_law_dotted", "_law_dotted", s_law_dotted, [], []⟩
theorem b_law_dotted {K : PySem.W.Frag} {fd : FuncData} (F : FunX K d_law_dotted fd) : Binds K fd ["_law_source_here"] [] := FunD.bindsN F fun _ _ _ _ _ _ us hl => match us, hl with | [_], _ => rfl
abbrev s_law_cut : Stmt := top 25
abbrev N_law_cut : List Str := ["_law_word", "_law_spot", "_law_k", "_law_sign"]
theorem sc_law_cut : FnScope N_law_cut ["_law_word"] (defScope s_law_cut) := ⟨rfl, rfl, rfl, by decide +kernel, rfl, by decide +kernel, by decide +kernel⟩
def d_law_cut : DX := ⟨aG "_law_cut", "_law_cut", "_law_cut", s_law_cut, [], []⟩
theorem b_law_cut {K : PySem.W.Frag} {fd : FuncData} (F : FunX K d_law_cut fd) : Binds K fd ["_law_word"] [] := FunD.bindsN F fun _ _ _ _ _ _ us hl => match us, hl with | [_], _ => rfl
abbrev s_law_right : Stmt := top 26
abbrev N_law_right : List Str := ["_law_row_here", "_law_one", "_law_last", "_law_above"]
theorem sc_law_right : FnScope N_law_right ["_law_row_here"] (defScope s_law_right) := ⟨rfl, rfl, rfl, by decide +kernel, rfl, by decide +kernel, by decide +kernel⟩
def d_law_right : DX := ⟨aG "_law_right", "_law_right", "_law_right", s_law_right, [], []⟩
theorem b_law_right {K : PySem.W.Frag} {fd : FuncData} (F : FunX K d_law_right fd) : Binds K fd ["_law_row_here"] [] := FunD.bindsN F fun _ _ _ _ _ _ us hl => match us, hl with | [_], _ => rfl
abbrev s_law : Stmt := top 27
abbrev N_law : List Str := ["_law_script", "_law_k", "_law_source_here", "_law_turn", "_law_row_here", "_law_rows", "_law_word", "_law_first", "_law_last", "_law_root"]
theorem sc_law : FnScope N_law ["_law_script"] (defScope s_law) := ⟨rfl, rfl, rfl, by decide +kernel, rfl, by decide +kernel, by decide +kernel⟩
def d_law : DX := ⟨aG "law", "law", "law", s_law, [], []⟩
theorem b_law {K : PySem.W.Frag} {fd : FuncData} (F : FunX K d_law fd) : Binds K fd ["_law_script"] [] := FunD.bindsN F fun _ _ _ _ _ _ us hl => match us, hl with | [_], _ => rfl
def fa : List Ft := [fFree "len",
 fFree "all",
 fStr "NAME_SIGNS" "abcdefghijklmnopqrstuvwxyz0123456789_-.",
 fInt "MAX_NAME" (12),
 fFree "isinstance",
 fFree "str",
 fInt "MAX_NAMES" (12),
 fCls "Path",
 fNo "Path" "names",
 fProp "Path" "name",
 fMkr "Path",
 fGlo "Path",
 fFree "range",
 fFree "enumerate",
 fFree "tuple",
 fFree "repr",
 fProp "Path" "parent",
 fProp "Path" "suffix",
 fProp "Path" "stem",
 fProp "Path" "text",
 fIns "Path",
 fKit (fun K => .ref (ga K "Path")) (fun K => .ref (ga K "Path")) true,
 fFree "max",
 fFree "min",
 fGlo "_law_next",
 fGlo "_law_source",
 fGlo "_law_pick",
 fGlo "is_name",
 fGlo "place_of",
 fGlo "name_parts",
 fGlo "_law_good_name",
 fGlo "_law_row",
 fGlo "_law_path_of_row",
 fGlo "_law_spelled",
 fGlo "_law_dotted",
 fGlo "_law_cut",
 fGlo "_law_right",
 fGlo "law"]
def fn : List DX := [d_law_next, d_law_source, d_law_pick, d_is_name, d_place_of, d_name_parts, d_Path_init, d_Path_text, d_Path_name, d_Path_stem, d_Path_suffix, d_Path_parent, d_law_good_name, d_law_row, d_law_path_of_row, d_law_spelled, d_law_dotted, d_law_cut, d_law_right, d_law]
section
variable {K : PySem.W.Frag} {mg : Str → Option Value} (T : Tx fa fn K mg)
include T
theorem F_law_next : ∃ fd, FunX K d_law_next fd := T.c.def_ 0 (d := d_law_next) rfl
theorem k_law_next : PySem.W.keepIn K (.ref ((aG "_law_next") K)) = true := let ⟨_, F⟩ := F_law_next T; F.kp
theorem g_law_next : mg "_law_next" = some (.ref ((aG "_law_next") K)) := (T.glo (T.c.fact 24 (f := fGlo "_law_next") rfl))
theorem F_law_source : ∃ fd, FunX K d_law_source fd := T.c.def_ 1 (d := d_law_source) rfl
theorem k_law_source : PySem.W.keepIn K (.ref ((aG "_law_source") K)) = true := let ⟨_, F⟩ := F_law_source T; F.kp
theorem g_law_source : mg "_law_source" = some (.ref ((aG "_law_source") K)) := (T.glo (T.c.fact 25 (f := fGlo "_law_source") rfl))
theorem F_law_pick : ∃ fd, FunX K d_law_pick fd := T.c.def_ 2 (d := d_law_pick) rfl
theorem k_law_pick : PySem.W.keepIn K (.ref ((aG "_law_pick") K)) = true := let ⟨_, F⟩ := F_law_pick T; F.kp
theorem g_law_pick : mg "_law_pick" = some (.ref ((aG "_law_pick") K)) := (T.glo (T.c.fact 26 (f := fGlo "_law_pick") rfl))
theorem F_is_name : ∃ fd, FunX K d_is_name fd := T.c.def_ 3 (d := d_is_name) rfl
theorem k_is_name : PySem.W.keepIn K (.ref ((aG "is_name") K)) = true := let ⟨_, F⟩ := F_is_name T; F.kp
theorem g_is_name : mg "is_name" = some (.ref ((aG "is_name") K)) := (T.glo (T.c.fact 27 (f := fGlo "is_name") rfl))
theorem F_place_of : ∃ fd, FunX K d_place_of fd := T.c.def_ 4 (d := d_place_of) rfl
theorem k_place_of : PySem.W.keepIn K (.ref ((aG "place_of") K)) = true := let ⟨_, F⟩ := F_place_of T; F.kp
theorem g_place_of : mg "place_of" = some (.ref ((aG "place_of") K)) := (T.glo (T.c.fact 28 (f := fGlo "place_of") rfl))
theorem F_name_parts : ∃ fd, FunX K d_name_parts fd := T.c.def_ 5 (d := d_name_parts) rfl
theorem k_name_parts : PySem.W.keepIn K (.ref ((aG "name_parts") K)) = true := let ⟨_, F⟩ := F_name_parts T; F.kp
theorem g_name_parts : mg "name_parts" = some (.ref ((aG "name_parts") K)) := (T.glo (T.c.fact 29 (f := fGlo "name_parts") rfl))
theorem F_Path_init : ∃ fd, FunX K d_Path_init fd := T.c.def_ 6 (d := d_Path_init) rfl
theorem k_Path_init : PySem.W.keepIn K (.ref ((aM "Path" "__init__") K)) = true := let ⟨_, F⟩ := F_Path_init T; F.kp
theorem F_Path_text : ∃ fd, FunX K d_Path_text fd := T.c.def_ 7 (d := d_Path_text) rfl
theorem k_Path_text : PySem.W.keepIn K (.ref ((aP "Path" "text") K)) = true := let ⟨_, F⟩ := F_Path_text T; F.kp
theorem F_Path_name : ∃ fd, FunX K d_Path_name fd := T.c.def_ 8 (d := d_Path_name) rfl
theorem k_Path_name : PySem.W.keepIn K (.ref ((aP "Path" "name") K)) = true := let ⟨_, F⟩ := F_Path_name T; F.kp
theorem F_Path_stem : ∃ fd, FunX K d_Path_stem fd := T.c.def_ 9 (d := d_Path_stem) rfl
theorem k_Path_stem : PySem.W.keepIn K (.ref ((aP "Path" "stem") K)) = true := let ⟨_, F⟩ := F_Path_stem T; F.kp
theorem F_Path_suffix : ∃ fd, FunX K d_Path_suffix fd := T.c.def_ 10 (d := d_Path_suffix) rfl
theorem k_Path_suffix : PySem.W.keepIn K (.ref ((aP "Path" "suffix") K)) = true := let ⟨_, F⟩ := F_Path_suffix T; F.kp
theorem F_Path_parent : ∃ fd, FunX K d_Path_parent fd := T.c.def_ 11 (d := d_Path_parent) rfl
theorem k_Path_parent : PySem.W.keepIn K (.ref ((aP "Path" "parent") K)) = true := let ⟨_, F⟩ := F_Path_parent T; F.kp
theorem F_law_good_name : ∃ fd, FunX K d_law_good_name fd := T.c.def_ 12 (d := d_law_good_name) rfl
theorem k_law_good_name : PySem.W.keepIn K (.ref ((aG "_law_good_name") K)) = true := let ⟨_, F⟩ := F_law_good_name T; F.kp
theorem g_law_good_name : mg "_law_good_name" = some (.ref ((aG "_law_good_name") K)) := (T.glo (T.c.fact 30 (f := fGlo "_law_good_name") rfl))
theorem F_law_row : ∃ fd, FunX K d_law_row fd := T.c.def_ 13 (d := d_law_row) rfl
theorem k_law_row : PySem.W.keepIn K (.ref ((aG "_law_row") K)) = true := let ⟨_, F⟩ := F_law_row T; F.kp
theorem g_law_row : mg "_law_row" = some (.ref ((aG "_law_row") K)) := (T.glo (T.c.fact 31 (f := fGlo "_law_row") rfl))
theorem F_law_path_of_row : ∃ fd, FunX K d_law_path_of_row fd := T.c.def_ 14 (d := d_law_path_of_row) rfl
theorem k_law_path_of_row : PySem.W.keepIn K (.ref ((aG "_law_path_of_row") K)) = true := let ⟨_, F⟩ := F_law_path_of_row T; F.kp
theorem g_law_path_of_row : mg "_law_path_of_row" = some (.ref ((aG "_law_path_of_row") K)) := (T.glo (T.c.fact 32 (f := fGlo "_law_path_of_row") rfl))
theorem F_law_spelled : ∃ fd, FunX K d_law_spelled fd := T.c.def_ 15 (d := d_law_spelled) rfl
theorem k_law_spelled : PySem.W.keepIn K (.ref ((aG "_law_spelled") K)) = true := let ⟨_, F⟩ := F_law_spelled T; F.kp
theorem g_law_spelled : mg "_law_spelled" = some (.ref ((aG "_law_spelled") K)) := (T.glo (T.c.fact 33 (f := fGlo "_law_spelled") rfl))
theorem F_law_dotted : ∃ fd, FunX K d_law_dotted fd := T.c.def_ 16 (d := d_law_dotted) rfl
theorem k_law_dotted : PySem.W.keepIn K (.ref ((aG "_law_dotted") K)) = true := let ⟨_, F⟩ := F_law_dotted T; F.kp
theorem g_law_dotted : mg "_law_dotted" = some (.ref ((aG "_law_dotted") K)) := (T.glo (T.c.fact 34 (f := fGlo "_law_dotted") rfl))
theorem F_law_cut : ∃ fd, FunX K d_law_cut fd := T.c.def_ 17 (d := d_law_cut) rfl
theorem k_law_cut : PySem.W.keepIn K (.ref ((aG "_law_cut") K)) = true := let ⟨_, F⟩ := F_law_cut T; F.kp
theorem g_law_cut : mg "_law_cut" = some (.ref ((aG "_law_cut") K)) := (T.glo (T.c.fact 35 (f := fGlo "_law_cut") rfl))
theorem F_law_right : ∃ fd, FunX K d_law_right fd := T.c.def_ 18 (d := d_law_right) rfl
theorem k_law_right : PySem.W.keepIn K (.ref ((aG "_law_right") K)) = true := let ⟨_, F⟩ := F_law_right T; F.kp
theorem g_law_right : mg "_law_right" = some (.ref ((aG "_law_right") K)) := (T.glo (T.c.fact 36 (f := fGlo "_law_right") rfl))
theorem F_law : ∃ fd, FunX K d_law fd := T.c.def_ 19 (d := d_law) rfl
theorem k_law : PySem.W.keepIn K (.ref ((aG "law") K)) = true := let ⟨_, F⟩ := F_law T; F.kp
theorem g_law : mg "law" = some (.ref ((aG "law") K)) := (T.glo (T.c.fact 37 (f := fGlo "law") rfl))
end

section
variable {P : Program} {w : World} {K : PySem.W.Frag} {mg : Str → Option Value} {base : Heap}
/-- a source of draws at a: [cell, count, many] -/
def Src (H : Hp) (a : Addr) (j : Int) : Prop := ∃ c d : Int, H a = some (.lst [.int c, .int j, .int d]) ∧ 0 ≤ j
def spNext : Sp := fun vs H Q _ => ∃ (a : Addr) (m j : Int), vs = [.ref a, .int m] ∧ 0 < m ∧ m < 536870912 ∧ Src H a j ∧ j < 1099511627776 ∧
  ∀ (r j' : Int) (H' : Hp), 0 ≤ r → r < m → j ≤ j' → j' ≤ j + 1 → Oth a H H' → Src H' a j' → Q (.int r) H'
theorem prime_at : ∀ i : Nat, i < 11 → ∃ p : Int, ([2147483647, 2147483629, 2147483587, 2147483579, 2147483563, 2147483549, 2147483543, 2147483497, 2147483489, 2147483477, 2147483423] : List Int)[i]? = some p ∧ 0 < p ∧ p < 2147483648 := by
  intro i hi
  match i, hi with
  | 0, _ | 1, _ | 2, _ | 3, _ | 4, _ | 5, _ | 6, _ | 7, _ | 8, _ | 9, _ | 10, _ => exact ⟨_, rfl, by decide, by decide⟩
theorem ok_law_next (T : Tx fa fn K mg) : Fn P w K mg base 1 (aG "_law_next" K) [] spNext := by
  obtain ⟨fd, F⟩ := F_law_next T
  refine fn_all F sc_law_next (fun vs H Q E h => ?_) (b_law_next F) (fun cdv A outer s H vs Q E hr h => ⟨_, (pss_cons (ps_if (pt_cmpR op_gt (pe_ix ix_lh (pv 0) pe_int (fun _ _ => rfl)) pe_int (nomark _))
 (pss_cons (ps_set (i := 2) sc_law_next.nd rfl (Or.inl rfl) (pe_op op_mod (pe_ix ix_lh (pv 0) pe_int (fun _ _ => rfl)) (pv 1)))
 (pss_cons (ps_asg (pe_op op_fdiv (pe_ix ix_lh (pv 0) pe_int (fun _ _ => rfl)) (pv 1)) (pg_sub (pv 0) pe_int set_list))
 (pss_one (ps_ret (pv 2)))))
 pss_nil)
 (pss_cons (ps_asg (pe_op op_add (pe_ix ix_lh (pv 0) pe_int (fun _ _ => rfl)) pe_int) (pg_sub (pv 0) pe_int set_list))
 (pss_cons (ps_set (i := 3) sc_law_next.nd rfl (Or.inl rfl) (pe_lst (pa_cons pe_int (pa_cons pe_int (pa_cons pe_int (pa_cons pe_int (pa_cons pe_int (pa_cons pe_int (pa_cons pe_int (pa_cons pe_int pa_nil))))))))))
 (pss_cons (ps_set (i := 4) sc_law_next.nd rfl (Or.inl rfl) (pe_ix ix_lh (pe_op op_cat_n (pv 3) (pe_lst (pa_cons pe_int (pa_cons pe_int (pa_cons pe_int pa_nil))))) (pe_op op_mod (pe_ix ix_lh (pv 0) pe_int (fun _ _ => rfl)) pe_int) (fun _ _ => rfl)))
 (pss_one (ps_ret (pe_op op_mod (pe_op op_fdiv (pe_op op_mod (pe_op op_pow (pe_op op_add (pe_op op_add (pe_op op_mod (pe_ix ix_lh (pv 0) pe_int (fun _ _ => rfl)) (pv 4)) (pe_op op_mul pe_int (pe_ix ix_lh (pv 0) pe_int (fun _ _ => rfl)))) pe_int) pe_int) (pv 4)) pe_int) (pv 1)))))))), ?_⟩)
  · first | (obtain ⟨_, e, _⟩ := h; subst e; rfl) | (obtain ⟨_, _, e, _⟩ := h; subst e; rfl) | (obtain ⟨_, _, _, e, _⟩ := h; subst e; rfl) | (obtain ⟨_, _, _, _, e, _⟩ := h; subst e; rfl) | (obtain ⟨_, _, _, _, _, e, _⟩ := h; subst e; rfl) | (obtain ⟨_, _, _, _, _, _, e, _⟩ := h; subst e; rfl) | (obtain ⟨_, _, _, _, _, _, _, e, _⟩ := h; subst e; rfl) | (obtain ⟨_, _, _, _, _, _, _, _, e, _⟩ := h; subst e; rfl) | (obtain ⟨_, _, _, _, _, _, _, _, _, e, _⟩ := h; subst e; rfl) | (obtain ⟨_, _, _, _, _, _, _, _, _, _, e, _⟩ := h; subst e; rfl) | (obtain ⟨_, _, _, _, _, _, _, _, _, _, _, e, _⟩ := h; subst e; rfl)
  obtain ⟨a, m, j, rfl, m0, m1, ⟨c, d, hs, j0⟩, j1, q⟩ := h
  try simp only [cxK, r_var, r_c, r_seq, r_next, r_break, r_cont, r_drop, r_ret, r_retN, r_if, r_ife, r_asg, r_name, r_op, r_un, r_nil, r_cons, r_lst2, r_tup2, r_lc, r_for, r_ilist, r_itup, r_istr, r_irng1, r_irng2, r_ienum, r_ienumS, wipe, r_cb, r_test, r_b, r_not, r_notV, r_andV, r_orV, r_isN, r_notN, r_m1, r_m0, r_fld, sFld, putF, r_par, r_sub, r_gtup, r_gnil, r_gcons, r_sl, r_nopart, r_part, r_bm, r_bm0, r_chain, r_call, r_callK, r_meth, r_prop, r_make, r_and, r_or, andT_t, andT_f, orT_t, orT_f, ifK_t, ifK_f, ifE_t, ifE_f, andK_t, andK_f, orK_t, orK_f, L2.start, List.map_cons, List.map_nil, List.length_cons, List.length_nil, List.replicate_succ, List.replicate_zero, List.cons_append, List.nil_append, List.getElem?_cons_succ, List.getElem?_cons_zero, List.set_cons_succ, List.set_cons_zero, Nat.reduceAdd, Nat.reduceSub, Nat.zero_add, decide_true, decide_false, Bool.not_true, Bool.not_false, if_true, if_false, rEq, rNe, scal_ii, scal_ss, scal_bb, scal_is, scal_si, scal_ns, scal_ni, scal_in, scal_sn, scal_nn, rI, rI0, rU, rIxLH, rIxTH, rLenH, rLenTH, rSetL, rCatN, rTupOfN, rLstOfN, rSlLN, rSlTN, CDiv, CPow, CMul, CDivW, upd_same, at0, at1, at2, at3, at4, at5, at6, at7, at8, at9, at10, at11, at12, at13, ix3_0, ix3_1, ix3_2, V.int.injEq, V.bl.injEq, V.str.injEq, V.ref.injEq, Option.some.injEq, HO.lst.injEq, HO.tup.injEq, HO.ins.injEq, List.cons.injEq, and_true, true_and, exists_eq_left, exists_eq_left', exists_and_left, exists_eq', exists_eq, and_assoc, N_law_next, hs]
  by_cases hd : 0 < d
  · try simp only [cxK, r_var, r_c, r_seq, r_next, r_break, r_cont, r_drop, r_ret, r_retN, r_if, r_ife, r_asg, r_name, r_op, r_un, r_nil, r_cons, r_lst2, r_tup2, r_lc, r_for, r_ilist, r_itup, r_istr, r_irng1, r_irng2, r_ienum, r_ienumS, wipe, r_cb, r_test, r_b, r_not, r_notV, r_andV, r_orV, r_isN, r_notN, r_m1, r_m0, r_fld, sFld, putF, r_par, r_sub, r_gtup, r_gnil, r_gcons, r_sl, r_nopart, r_part, r_bm, r_bm0, r_chain, r_call, r_callK, r_meth, r_prop, r_make, r_and, r_or, andT_t, andT_f, orT_t, orT_f, ifK_t, ifK_f, ifE_t, ifE_f, andK_t, andK_f, orK_t, orK_f, L2.start, List.map_cons, List.map_nil, List.length_cons, List.length_nil, List.replicate_succ, List.replicate_zero, List.cons_append, List.nil_append, List.getElem?_cons_succ, List.getElem?_cons_zero, List.set_cons_succ, List.set_cons_zero, Nat.reduceAdd, Nat.reduceSub, Nat.zero_add, decide_true, decide_false, Bool.not_true, Bool.not_false, if_true, if_false, rEq, rNe, scal_ii, scal_ss, scal_bb, scal_is, scal_si, scal_ns, scal_ni, scal_in, scal_sn, scal_nn, rI, rI0, rU, rIxLH, rIxTH, rLenH, rLenTH, rSetL, rCatN, rTupOfN, rLstOfN, rSlLN, rSlTN, CDiv, CPow, CMul, CDivW, upd_same, at0, at1, at2, at3, at4, at5, at6, at7, at8, at9, at10, at11, at12, at13, ix3_0, ix3_1, ix3_2, V.int.injEq, V.bl.injEq, V.str.injEq, V.ref.injEq, Option.some.injEq, HO.lst.injEq, HO.tup.injEq, HO.ins.injEq, List.cons.injEq, and_true, true_and, exists_eq_left, exists_eq_left', exists_and_left, exists_eq', exists_eq, and_assoc, N_law_next, hd, hs]
    refine ⟨m0, m0, by omega, ?_⟩
    exact q _ j _ (Int.emod_nonneg _ (by omega)) (Int.emod_lt_of_pos _ m0) (Int.le_refl _) (by omega) Oth.refl.set ⟨c, d / m, upd_same, j0⟩
  · try simp only [cxK, r_var, r_c, r_seq, r_next, r_break, r_cont, r_drop, r_ret, r_retN, r_if, r_ife, r_asg, r_name, r_op, r_un, r_nil, r_cons, r_lst2, r_tup2, r_lc, r_for, r_ilist, r_itup, r_istr, r_irng1, r_irng2, r_ienum, r_ienumS, wipe, r_cb, r_test, r_b, r_not, r_notV, r_andV, r_orV, r_isN, r_notN, r_m1, r_m0, r_fld, sFld, putF, r_par, r_sub, r_gtup, r_gnil, r_gcons, r_sl, r_nopart, r_part, r_bm, r_bm0, r_chain, r_call, r_callK, r_meth, r_prop, r_make, r_and, r_or, andT_t, andT_f, orT_t, orT_f, ifK_t, ifK_f, ifE_t, ifE_f, andK_t, andK_f, orK_t, orK_f, L2.start, List.map_cons, List.map_nil, List.length_cons, List.length_nil, List.replicate_succ, List.replicate_zero, List.cons_append, List.nil_append, List.getElem?_cons_succ, List.getElem?_cons_zero, List.set_cons_succ, List.set_cons_zero, Nat.reduceAdd, Nat.reduceSub, Nat.zero_add, decide_true, decide_false, Bool.not_true, Bool.not_false, if_true, if_false, rEq, rNe, scal_ii, scal_ss, scal_bb, scal_is, scal_si, scal_ns, scal_ni, scal_in, scal_sn, scal_nn, rI, rI0, rU, rIxLH, rIxTH, rLenH, rLenTH, rSetL, rCatN, rTupOfN, rLstOfN, rSlLN, rSlTN, CDiv, CPow, CMul, CDivW, upd_same, at0, at1, at2, at3, at4, at5, at6, at7, at8, at9, at10, at11, at12, at13, ix3_0, ix3_1, ix3_2, V.int.injEq, V.bl.injEq, V.str.injEq, V.ref.injEq, Option.some.injEq, HO.lst.injEq, HO.tup.injEq, HO.ins.injEq, List.cons.injEq, and_true, true_and, exists_eq_left, exists_eq_left', exists_and_left, exists_eq', exists_eq, and_assoc, N_law_next, hd, hs]
    refine ⟨fits (by decide), fun p H1 n1 => ⟨fits (by decide), fun r H2 n2 => ?_⟩⟩
    have hs2 := n2.old (n1.old (o := _) (b := a) upd_same)
    have hp2 := n2.old n1.at_
    have hr2 := n2.at_
    try simp only [cxK, r_var, r_c, r_seq, r_next, r_break, r_cont, r_drop, r_ret, r_retN, r_if, r_ife, r_asg, r_name, r_op, r_un, r_nil, r_cons, r_lst2, r_tup2, r_lc, r_for, r_ilist, r_itup, r_istr, r_irng1, r_irng2, r_ienum, r_ienumS, wipe, r_cb, r_test, r_b, r_not, r_notV, r_andV, r_orV, r_isN, r_notN, r_m1, r_m0, r_fld, sFld, putF, r_par, r_sub, r_gtup, r_gnil, r_gcons, r_sl, r_nopart, r_part, r_bm, r_bm0, r_chain, r_call, r_callK, r_meth, r_prop, r_make, r_and, r_or, andT_t, andT_f, orT_t, orT_f, ifK_t, ifK_f, ifE_t, ifE_f, andK_t, andK_f, orK_t, orK_f, L2.start, List.map_cons, List.map_nil, List.length_cons, List.length_nil, List.replicate_succ, List.replicate_zero, List.cons_append, List.nil_append, List.getElem?_cons_succ, List.getElem?_cons_zero, List.set_cons_succ, List.set_cons_zero, Nat.reduceAdd, Nat.reduceSub, Nat.zero_add, decide_true, decide_false, Bool.not_true, Bool.not_false, if_true, if_false, rEq, rNe, scal_ii, scal_ss, scal_bb, scal_is, scal_si, scal_ns, scal_ni, scal_in, scal_sn, scal_nn, rI, rI0, rU, rIxLH, rIxTH, rLenH, rLenTH, rSetL, rCatN, rTupOfN, rLstOfN, rSlLN, rSlTN, CDiv, CPow, CMul, CDivW, upd_same, at0, at1, at2, at3, at4, at5, at6, at7, at8, at9, at10, at11, at12, at13, ix3_0, ix3_1, ix3_2, V.int.injEq, V.bl.injEq, V.str.injEq, V.ref.injEq, Option.some.injEq, HO.lst.injEq, HO.tup.injEq, HO.ins.injEq, List.cons.injEq, and_true, true_and, exists_eq_left, exists_eq_left', exists_and_left, exists_eq', exists_eq, and_assoc, N_law_next, hs2, hp2, hr2]
    refine ⟨fits (by decide), fun t H3 n3 => ?_⟩
    have hs3 := n3.old hs2
    obtain ⟨p, e1, e2, e3⟩ := prime_at ((j + 1) % 11).toNat (by omega)
    have e4 := (atI_nat (xs := ([2147483647, 2147483629, 2147483587, 2147483579, 2147483563, 2147483549, 2147483543, 2147483497, 2147483489, 2147483477, 2147483423] : List Int).map V.int) (j := ((j + 1) % 11).toNat) (v := .int p) (by rw [List.getElem?_map, e1]; rfl))
    have e5 : ((((j + 1) % 11).toNat : Nat) : Int) = (j + 1) % 11 := by omega
    rw [e5] at e4
    simp only [List.map_cons, List.map_nil] at e4
    have ht3 := n3.at_
    try simp only [cxK, r_var, r_c, r_seq, r_next, r_break, r_cont, r_drop, r_ret, r_retN, r_if, r_ife, r_asg, r_name, r_op, r_un, r_nil, r_cons, r_lst2, r_tup2, r_lc, r_for, r_ilist, r_itup, r_istr, r_irng1, r_irng2, r_ienum, r_ienumS, wipe, r_cb, r_test, r_b, r_not, r_notV, r_andV, r_orV, r_isN, r_notN, r_m1, r_m0, r_fld, sFld, putF, r_par, r_sub, r_gtup, r_gnil, r_gcons, r_sl, r_nopart, r_part, r_bm, r_bm0, r_chain, r_call, r_callK, r_meth, r_prop, r_make, r_and, r_or, andT_t, andT_f, orT_t, orT_f, ifK_t, ifK_f, ifE_t, ifE_f, andK_t, andK_f, orK_t, orK_f, L2.start, List.map_cons, List.map_nil, List.length_cons, List.length_nil, List.replicate_succ, List.replicate_zero, List.cons_append, List.nil_append, List.getElem?_cons_succ, List.getElem?_cons_zero, List.set_cons_succ, List.set_cons_zero, Nat.reduceAdd, Nat.reduceSub, Nat.zero_add, decide_true, decide_false, Bool.not_true, Bool.not_false, if_true, if_false, rEq, rNe, scal_ii, scal_ss, scal_bb, scal_is, scal_si, scal_ns, scal_ni, scal_in, scal_sn, scal_nn, rI, rI0, rU, rIxLH, rIxTH, rLenH, rLenTH, rSetL, rCatN, rTupOfN, rLstOfN, rSlLN, rSlTN, CDiv, CPow, CMul, CDivW, upd_same, at0, at1, at2, at3, at4, at5, at6, at7, at8, at9, at10, at11, at12, at13, ix3_0, ix3_1, ix3_2, V.int.injEq, V.bl.injEq, V.str.injEq, V.ref.injEq, Option.some.injEq, HO.lst.injEq, HO.tup.injEq, HO.ins.injEq, List.cons.injEq, and_true, true_and, exists_eq_left, exists_eq_left', exists_and_left, exists_eq', exists_eq, and_assoc, N_law_next, hs3, ht3, e4]
    refine ⟨by decide, e2, .inl ⟨by decide, by decide⟩, by decide, by decide, ?_, e2, by decide, by decide, m0, ?_⟩
    · have h1 := Int.emod_nonneg c (show p ≠ 0 by omega)
      have h2 := Int.emod_lt_of_pos c e2
      omega
    · refine q _ (j + 1) _ (Int.emod_nonneg _ (by omega)) (Int.emod_lt_of_pos _ m0) (by omega) (by omega) ?_ ⟨c, d, hs3, by omega⟩
      exact Oth.new (Oth.new (Oth.new (Oth.set .refl) n1) n2) n3
def spSource (K : PySem.W.Frag) : Sp := fun vs H Q _ => ∃ (L : Addr) (ns : List Int) (k : Int), vs = [.ref L, .int k] ∧ SqL K H L (ns.map V.int) ∧ 0 ≤ k ∧ k < 1000000 ∧
  ∀ (p : Addr) (H' : Hp), H p = none → Same H H' → Src H' p (3 * k) → Q (.ref p) H'
theorem ok_law_source (T : Tx fa fn K mg) : Fn P w K mg base 1 (aG "_law_source" K) [] (spSource K) := by
  obtain ⟨fd, F⟩ := F_law_source T
  refine fn_all F sc_law_source (fun vs H Q E h => ?_) (b_law_source F) (fun cdv A outer s H vs Q E hr h => ⟨_, (pss_cons (ps_set (i := 2) sc_law_source.nd rfl (Or.inl rfl) (pe_ifExp (pt_cmpR (op_neD hr.r.units) (pv 0) (pe_lst pa_nil) (nomark _)) (pe_ix ix_list (pv 0) (pe_op op_mod (pv 1) (pe_callB call_len_seq (by rfl) (T.free (T.c.fact 0 (f := fFree "len") rfl)) (by decide +kernel) (pa_cons (pv 0) pa_nil))) (fun _ _ => rfl)) pe_int))
 (pss_one (ps_ret (pe_lst (pa_cons (pv 2) (pa_cons (pe_op op_mul pe_int (pv 1)) (pa_cons (pe_ifExp (pt_cmpR op_ge (pv 2) (pe_op op_pow pe_int pe_int) (nomark _)) (pe_op op_fdivW (pv 2) (pe_op op_pow pe_int pe_int)) pe_int) pa_nil))))))), ?_⟩)
  · first | (obtain ⟨_, e, _⟩ := h; subst e; rfl) | (obtain ⟨_, _, e, _⟩ := h; subst e; rfl) | (obtain ⟨_, _, _, e, _⟩ := h; subst e; rfl) | (obtain ⟨_, _, _, _, e, _⟩ := h; subst e; rfl) | (obtain ⟨_, _, _, _, _, e, _⟩ := h; subst e; rfl) | (obtain ⟨_, _, _, _, _, _, e, _⟩ := h; subst e; rfl) | (obtain ⟨_, _, _, _, _, _, _, e, _⟩ := h; subst e; rfl) | (obtain ⟨_, _, _, _, _, _, _, _, e, _⟩ := h; subst e; rfl) | (obtain ⟨_, _, _, _, _, _, _, _, _, e, _⟩ := h; subst e; rfl) | (obtain ⟨_, _, _, _, _, _, _, _, _, _, e, _⟩ := h; subst e; rfl) | (obtain ⟨_, _, _, _, _, _, _, _, _, _, _, e, _⟩ := h; subst e; rfl)
  obtain ⟨L, ns, k, rfl, hL, k0, k1, q⟩ := h
  try simp only [cxK, r_var, r_c, r_seq, r_next, r_break, r_cont, r_drop, r_ret, r_retN, r_if, r_ife, r_asg, r_name, r_op, r_un, r_nil, r_cons, r_lst2, r_tup2, r_lc, r_for, r_ilist, r_itup, r_istr, r_irng1, r_irng2, r_ienum, r_ienumS, wipe, r_cb, r_test, r_b, r_not, r_notV, r_andV, r_orV, r_isN, r_notN, r_m1, r_m0, r_fld, sFld, putF, r_par, r_sub, r_gtup, r_gnil, r_gcons, r_sl, r_nopart, r_part, r_bm, r_bm0, r_chain, r_call, r_callK, r_meth, r_prop, r_make, r_and, r_or, andT_t, andT_f, orT_t, orT_f, ifK_t, ifK_f, ifE_t, ifE_f, andK_t, andK_f, orK_t, orK_f, L2.start, List.map_cons, List.map_nil, List.length_cons, List.length_nil, List.replicate_succ, List.replicate_zero, List.cons_append, List.nil_append, List.getElem?_cons_succ, List.getElem?_cons_zero, List.set_cons_succ, List.set_cons_zero, Nat.reduceAdd, Nat.reduceSub, Nat.zero_add, decide_true, decide_false, Bool.not_true, Bool.not_false, if_true, if_false, rEq, rNe, scal_ii, scal_ss, scal_bb, scal_is, scal_si, scal_ns, scal_ni, scal_in, scal_sn, scal_nn, rI, rI0, rU, rIxLH, rIxTH, rLenH, rLenTH, rSetL, rCatN, rTupOfN, rLstOfN, rSlLN, rSlTN, CDiv, CPow, CMul, CDivW, upd_same, at0, at1, at2, at3, at4, at5, at6, at7, at8, at9, at10, at11, at12, at13, ix3_0, ix3_1, ix3_2, V.int.injEq, V.bl.injEq, V.str.injEq, V.ref.injEq, Option.some.injEq, HO.lst.injEq, HO.tup.injEq, HO.ins.injEq, List.cons.injEq, and_true, true_and, exists_eq_left, exists_eq_left', exists_and_left, exists_eq', exists_eq, and_assoc, N_law_source]
  refine ⟨fits (by decide), fun p H1 n1 => ?_⟩
  have hL1 := n1.same.seq hL
  have hp1 := n1.at_
  have he : ([] : List V) = ([] : List Int).map V.int := rfl
  rw [he] at hp1
  try simp only [cxK, r_var, r_c, r_seq, r_next, r_break, r_cont, r_drop, r_ret, r_retN, r_if, r_ife, r_asg, r_name, r_op, r_un, r_nil, r_cons, r_lst2, r_tup2, r_lc, r_for, r_ilist, r_itup, r_istr, r_irng1, r_irng2, r_ienum, r_ienumS, wipe, r_cb, r_test, r_b, r_not, r_notV, r_andV, r_orV, r_isN, r_notN, r_m1, r_m0, r_fld, sFld, putF, r_par, r_sub, r_gtup, r_gnil, r_gcons, r_sl, r_nopart, r_part, r_bm, r_bm0, r_chain, r_call, r_callK, r_meth, r_prop, r_make, r_and, r_or, andT_t, andT_f, orT_t, orT_f, ifK_t, ifK_f, ifE_t, ifE_f, andK_t, andK_f, orK_t, orK_f, L2.start, List.map_cons, List.map_nil, List.length_cons, List.length_nil, List.replicate_succ, List.replicate_zero, List.cons_append, List.nil_append, List.getElem?_cons_succ, List.getElem?_cons_zero, List.set_cons_succ, List.set_cons_zero, Nat.reduceAdd, Nat.reduceSub, Nat.zero_add, decide_true, decide_false, Bool.not_true, Bool.not_false, if_true, if_false, rEq, rNe, scal_ii, scal_ss, scal_bb, scal_is, scal_si, scal_ns, scal_ni, scal_in, scal_sn, scal_nn, rI, rI0, rU, rIxLH, rIxTH, rLenH, rLenTH, rSetL, rCatN, rTupOfN, rLstOfN, rSlLN, rSlTN, CDiv, CPow, CMul, CDivW, upd_same, at0, at1, at2, at3, at4, at5, at6, at7, at8, at9, at10, at11, at12, at13, ix3_0, ix3_1, ix3_2, V.int.injEq, V.bl.injEq, V.str.injEq, V.ref.injEq, Option.some.injEq, HO.lst.injEq, HO.tup.injEq, HO.ins.injEq, List.cons.injEq, and_true, true_and, exists_eq_left, exists_eq_left', exists_and_left, exists_eq', exists_eq, and_assoc, N_law_source]
  refine ⟨_, _, .lst hL1 (dp_ints ns), .lst (SqL.of hp1) (dp_ints []), shaped_ints _, shaped_ints _, ?_⟩
  have ev : PyData.eqv (.list (ns.map PyData.int)) (.list []) = decide (ns = []) := eqv_ints ns []
  try simp only [cxK, r_var, r_c, r_seq, r_next, r_break, r_cont, r_drop, r_ret, r_retN, r_if, r_ife, r_asg, r_name, r_op, r_un, r_nil, r_cons, r_lst2, r_tup2, r_lc, r_for, r_ilist, r_itup, r_istr, r_irng1, r_irng2, r_ienum, r_ienumS, wipe, r_cb, r_test, r_b, r_not, r_notV, r_andV, r_orV, r_isN, r_notN, r_m1, r_m0, r_fld, sFld, putF, r_par, r_sub, r_gtup, r_gnil, r_gcons, r_sl, r_nopart, r_part, r_bm, r_bm0, r_chain, r_call, r_callK, r_meth, r_prop, r_make, r_and, r_or, andT_t, andT_f, orT_t, orT_f, ifK_t, ifK_f, ifE_t, ifE_f, andK_t, andK_f, orK_t, orK_f, L2.start, List.map_cons, List.map_nil, List.length_cons, List.length_nil, List.replicate_succ, List.replicate_zero, List.cons_append, List.nil_append, List.getElem?_cons_succ, List.getElem?_cons_zero, List.set_cons_succ, List.set_cons_zero, Nat.reduceAdd, Nat.reduceSub, Nat.zero_add, decide_true, decide_false, Bool.not_true, Bool.not_false, if_true, if_false, rEq, rNe, scal_ii, scal_ss, scal_bb, scal_is, scal_si, scal_ns, scal_ni, scal_in, scal_sn, scal_nn, rI, rI0, rU, rIxLH, rIxTH, rLenH, rLenTH, rSetL, rCatN, rTupOfN, rLstOfN, rSlLN, rSlTN, CDiv, CPow, CMul, CDivW, upd_same, at0, at1, at2, at3, at4, at5, at6, at7, at8, at9, at10, at11, at12, at13, ix3_0, ix3_1, ix3_2, V.int.injEq, V.bl.injEq, V.str.injEq, V.ref.injEq, Option.some.injEq, HO.lst.injEq, HO.tup.injEq, HO.ins.injEq, List.cons.injEq, and_true, true_and, exists_eq_left, exists_eq_left', exists_and_left, exists_eq', exists_eq, and_assoc, N_law_source, ev]
  have fin : ∀ (c : Int) (H2 : Hp), Same H H2 → (-2 ^ 64 < (3 : Int) ∧ (3 : Int) < 2 ^ 64 ∨ -2 ^ 64 < k ∧ k < 2 ^ 64) ∧ 0 ≤ (18 : Int) ∧ (18 : Int) ≤ 1000000 ∧ Int.natAbs 10 < 2 ^ 64 ∧
      ifE (tOp (rI CDivW fun i j => V.int (i / j)) (tVar 2) (tOp (rI CPow fun i j => V.int (i ^ j.toNat)) (tC (V.int 10)) (tC (V.int 18)))) (tC (V.int 0)) [some (V.ref L), some (V.int k), some (V.int c)]
        (fun x_1 H1 => 3 ≤ sizeLine ∧ ∀ (p : Addr) (H2 : Hp), IsNew H1 p (HO.lst [V.int c, V.int (3 * k), x_1]) H2 → Q (V.ref p) H2) (decide (10 ^ Int.toNat 18 ≤ c)) H2 := by
    intro c H2 sm
    refine ⟨.inl ⟨by decide, by decide⟩, by decide, by decide, by decide, ?_⟩
    have e : (10 : Int) ^ Int.toNat 18 = 1000000000000000000 := by decide
    have last : ∀ (d : Int), 3 ≤ sizeLine ∧ ∀ (p : Addr) (H3 : Hp), IsNew H2 p (HO.lst [V.int c, V.int (3 * k), V.int d]) H3 → Q (V.ref p) H3 := fun d => ⟨fits (by decide), fun p H3 n3 => q p H3 (by
      have z := n3.1
      cases e : H p with
      | none => rfl
      | some o => rw [sm _ _ e] at z; cases z) (same_trans sm n3.same) ⟨c, d, n3.at_, by omega⟩⟩
    by_cases h : (10 : Int) ^ Int.toNat 18 ≤ c
    · try simp only [cxK, r_var, r_c, r_seq, r_next, r_break, r_cont, r_drop, r_ret, r_retN, r_if, r_ife, r_asg, r_name, r_op, r_un, r_nil, r_cons, r_lst2, r_tup2, r_lc, r_for, r_ilist, r_itup, r_istr, r_irng1, r_irng2, r_ienum, r_ienumS, wipe, r_cb, r_test, r_b, r_not, r_notV, r_andV, r_orV, r_isN, r_notN, r_m1, r_m0, r_fld, sFld, putF, r_par, r_sub, r_gtup, r_gnil, r_gcons, r_sl, r_nopart, r_part, r_bm, r_bm0, r_chain, r_call, r_callK, r_meth, r_prop, r_make, r_and, r_or, andT_t, andT_f, orT_t, orT_f, ifK_t, ifK_f, ifE_t, ifE_f, andK_t, andK_f, orK_t, orK_f, L2.start, List.map_cons, List.map_nil, List.length_cons, List.length_nil, List.replicate_succ, List.replicate_zero, List.cons_append, List.nil_append, List.getElem?_cons_succ, List.getElem?_cons_zero, List.set_cons_succ, List.set_cons_zero, Nat.reduceAdd, Nat.reduceSub, Nat.zero_add, decide_true, decide_false, Bool.not_true, Bool.not_false, if_true, if_false, rEq, rNe, scal_ii, scal_ss, scal_bb, scal_is, scal_si, scal_ns, scal_ni, scal_in, scal_sn, scal_nn, rI, rI0, rU, rIxLH, rIxTH, rLenH, rLenTH, rSetL, rCatN, rTupOfN, rLstOfN, rSlLN, rSlTN, CDiv, CPow, CMul, CDivW, upd_same, at0, at1, at2, at3, at4, at5, at6, at7, at8, at9, at10, at11, at12, at13, ix3_0, ix3_1, ix3_2, V.int.injEq, V.bl.injEq, V.str.injEq, V.ref.injEq, Option.some.injEq, HO.lst.injEq, HO.tup.injEq, HO.ins.injEq, List.cons.injEq, and_true, true_and, exists_eq_left, exists_eq_left', exists_and_left, exists_eq', exists_eq, and_assoc, N_law_source, h]
      refine ⟨by decide, by decide, by decide, by rw [e]; decide, by rw [e]; decide +kernel, last _⟩
    · try simp only [cxK, r_var, r_c, r_seq, r_next, r_break, r_cont, r_drop, r_ret, r_retN, r_if, r_ife, r_asg, r_name, r_op, r_un, r_nil, r_cons, r_lst2, r_tup2, r_lc, r_for, r_ilist, r_itup, r_istr, r_irng1, r_irng2, r_ienum, r_ienumS, wipe, r_cb, r_test, r_b, r_not, r_notV, r_andV, r_orV, r_isN, r_notN, r_m1, r_m0, r_fld, sFld, putF, r_par, r_sub, r_gtup, r_gnil, r_gcons, r_sl, r_nopart, r_part, r_bm, r_bm0, r_chain, r_call, r_callK, r_meth, r_prop, r_make, r_and, r_or, andT_t, andT_f, orT_t, orT_f, ifK_t, ifK_f, ifE_t, ifE_f, andK_t, andK_f, orK_t, orK_f, L2.start, List.map_cons, List.map_nil, List.length_cons, List.length_nil, List.replicate_succ, List.replicate_zero, List.cons_append, List.nil_append, List.getElem?_cons_succ, List.getElem?_cons_zero, List.set_cons_succ, List.set_cons_zero, Nat.reduceAdd, Nat.reduceSub, Nat.zero_add, decide_true, decide_false, Bool.not_true, Bool.not_false, if_true, if_false, rEq, rNe, scal_ii, scal_ss, scal_bb, scal_is, scal_si, scal_ns, scal_ni, scal_in, scal_sn, scal_nn, rI, rI0, rU, rIxLH, rIxTH, rLenH, rLenTH, rSetL, rCatN, rTupOfN, rLstOfN, rSlLN, rSlTN, CDiv, CPow, CMul, CDivW, upd_same, at0, at1, at2, at3, at4, at5, at6, at7, at8, at9, at10, at11, at12, at13, ix3_0, ix3_1, ix3_2, V.int.injEq, V.bl.injEq, V.str.injEq, V.ref.injEq, Option.some.injEq, HO.lst.injEq, HO.tup.injEq, HO.ins.injEq, List.cons.injEq, and_true, true_and, exists_eq_left, exists_eq_left', exists_and_left, exists_eq', exists_eq, and_assoc, N_law_source, h]
      exact last 0
  by_cases hn : ns = []
  · subst hn
    try simp only [cxK, r_var, r_c, r_seq, r_next, r_break, r_cont, r_drop, r_ret, r_retN, r_if, r_ife, r_asg, r_name, r_op, r_un, r_nil, r_cons, r_lst2, r_tup2, r_lc, r_for, r_ilist, r_itup, r_istr, r_irng1, r_irng2, r_ienum, r_ienumS, wipe, r_cb, r_test, r_b, r_not, r_notV, r_andV, r_orV, r_isN, r_notN, r_m1, r_m0, r_fld, sFld, putF, r_par, r_sub, r_gtup, r_gnil, r_gcons, r_sl, r_nopart, r_part, r_bm, r_bm0, r_chain, r_call, r_callK, r_meth, r_prop, r_make, r_and, r_or, andT_t, andT_f, orT_t, orT_f, ifK_t, ifK_f, ifE_t, ifE_f, andK_t, andK_f, orK_t, orK_f, L2.start, List.map_cons, List.map_nil, List.length_cons, List.length_nil, List.replicate_succ, List.replicate_zero, List.cons_append, List.nil_append, List.getElem?_cons_succ, List.getElem?_cons_zero, List.set_cons_succ, List.set_cons_zero, Nat.reduceAdd, Nat.reduceSub, Nat.zero_add, decide_true, decide_false, Bool.not_true, Bool.not_false, if_true, if_false, rEq, rNe, scal_ii, scal_ss, scal_bb, scal_is, scal_si, scal_ns, scal_ni, scal_in, scal_sn, scal_nn, rI, rI0, rU, rIxLH, rIxTH, rLenH, rLenTH, rSetL, rCatN, rTupOfN, rLstOfN, rSlLN, rSlTN, CDiv, CPow, CMul, CDivW, upd_same, at0, at1, at2, at3, at4, at5, at6, at7, at8, at9, at10, at11, at12, at13, ix3_0, ix3_1, ix3_2, V.int.injEq, V.bl.injEq, V.str.injEq, V.ref.injEq, Option.some.injEq, HO.lst.injEq, HO.tup.injEq, HO.ins.injEq, List.cons.injEq, and_true, true_and, exists_eq_left, exists_eq_left', exists_and_left, exists_eq', exists_eq, and_assoc, N_law_source]
    exact fin 1 H1 n1.same
  · try simp only [cxK, r_var, r_c, r_seq, r_next, r_break, r_cont, r_drop, r_ret, r_retN, r_if, r_ife, r_asg, r_name, r_op, r_un, r_nil, r_cons, r_lst2, r_tup2, r_lc, r_for, r_ilist, r_itup, r_istr, r_irng1, r_irng2, r_ienum, r_ienumS, wipe, r_cb, r_test, r_b, r_not, r_notV, r_andV, r_orV, r_isN, r_notN, r_m1, r_m0, r_fld, sFld, putF, r_par, r_sub, r_gtup, r_gnil, r_gcons, r_sl, r_nopart, r_part, r_bm, r_bm0, r_chain, r_call, r_callK, r_meth, r_prop, r_make, r_and, r_or, andT_t, andT_f, orT_t, orT_f, ifK_t, ifK_f, ifE_t, ifE_f, andK_t, andK_f, orK_t, orK_f, L2.start, List.map_cons, List.map_nil, List.length_cons, List.length_nil, List.replicate_succ, List.replicate_zero, List.cons_append, List.nil_append, List.getElem?_cons_succ, List.getElem?_cons_zero, List.set_cons_succ, List.set_cons_zero, Nat.reduceAdd, Nat.reduceSub, Nat.zero_add, decide_true, decide_false, Bool.not_true, Bool.not_false, if_true, if_false, rEq, rNe, scal_ii, scal_ss, scal_bb, scal_is, scal_si, scal_ns, scal_ni, scal_in, scal_sn, scal_nn, rI, rI0, rU, rIxLH, rIxTH, rLenH, rLenTH, rSetL, rCatN, rTupOfN, rLstOfN, rSlLN, rSlTN, CDiv, CPow, CMul, CDivW, upd_same, at0, at1, at2, at3, at4, at5, at6, at7, at8, at9, at10, at11, at12, at13, ix3_0, ix3_1, ix3_2, V.int.injEq, V.bl.injEq, V.str.injEq, V.ref.injEq, Option.some.injEq, HO.lst.injEq, HO.tup.injEq, HO.ins.injEq, List.cons.injEq, and_true, true_and, exists_eq_left, exists_eq_left', exists_and_left, exists_eq', exists_eq, and_assoc, N_law_source, hn]
    have hl : 0 < ns.length := List.length_pos_iff.mpr hn
    refine ⟨_, Or.inl hL1, ?_⟩
    try simp only [cxK, r_var, r_c, r_seq, r_next, r_break, r_cont, r_drop, r_ret, r_retN, r_if, r_ife, r_asg, r_name, r_op, r_un, r_nil, r_cons, r_lst2, r_tup2, r_lc, r_for, r_ilist, r_itup, r_istr, r_irng1, r_irng2, r_ienum, r_ienumS, wipe, r_cb, r_test, r_b, r_not, r_notV, r_andV, r_orV, r_isN, r_notN, r_m1, r_m0, r_fld, sFld, putF, r_par, r_sub, r_gtup, r_gnil, r_gcons, r_sl, r_nopart, r_part, r_bm, r_bm0, r_chain, r_call, r_callK, r_meth, r_prop, r_make, r_and, r_or, andT_t, andT_f, orT_t, orT_f, ifK_t, ifK_f, ifE_t, ifE_f, andK_t, andK_f, orK_t, orK_f, L2.start, List.map_cons, List.map_nil, List.length_cons, List.length_nil, List.replicate_succ, List.replicate_zero, List.cons_append, List.nil_append, List.getElem?_cons_succ, List.getElem?_cons_zero, List.set_cons_succ, List.set_cons_zero, Nat.reduceAdd, Nat.reduceSub, Nat.zero_add, decide_true, decide_false, Bool.not_true, Bool.not_false, if_true, if_false, rEq, rNe, scal_ii, scal_ss, scal_bb, scal_is, scal_si, scal_ns, scal_ni, scal_in, scal_sn, scal_nn, rI, rI0, rU, rIxLH, rIxTH, rLenH, rLenTH, rSetL, rCatN, rTupOfN, rLstOfN, rSlLN, rSlTN, CDiv, CPow, CMul, CDivW, upd_same, at0, at1, at2, at3, at4, at5, at6, at7, at8, at9, at10, at11, at12, at13, ix3_0, ix3_1, ix3_2, V.int.injEq, V.bl.injEq, V.str.injEq, V.ref.injEq, Option.some.injEq, HO.lst.injEq, HO.tup.injEq, HO.ins.injEq, List.cons.injEq, and_true, true_and, exists_eq_left, exists_eq_left', exists_and_left, exists_eq', exists_eq, and_assoc, N_law_source]
    have hl2 : (List.map V.int ns).length = ns.length := List.length_map ..
    rw [hl2]
    obtain ⟨v, e1, e2⟩ := atI_of (xs := ns.map V.int) (i := k % (ns.length : Int)) (Int.emod_nonneg _ (by omega)) (by rw [hl2]; exact Int.emod_lt_of_pos _ (by omega))
    rw [List.getElem?_map] at e2
    obtain ⟨c, e3, e4⟩ := Option.map_eq_some_iff.mp e2
    subst e4
    refine ⟨by omega, L, _, _, V.int c, rfl, rfl, hL1, e1, ?_⟩
    try simp only [cxK, r_var, r_c, r_seq, r_next, r_break, r_cont, r_drop, r_ret, r_retN, r_if, r_ife, r_asg, r_name, r_op, r_un, r_nil, r_cons, r_lst2, r_tup2, r_lc, r_for, r_ilist, r_itup, r_istr, r_irng1, r_irng2, r_ienum, r_ienumS, wipe, r_cb, r_test, r_b, r_not, r_notV, r_andV, r_orV, r_isN, r_notN, r_m1, r_m0, r_fld, sFld, putF, r_par, r_sub, r_gtup, r_gnil, r_gcons, r_sl, r_nopart, r_part, r_bm, r_bm0, r_chain, r_call, r_callK, r_meth, r_prop, r_make, r_and, r_or, andT_t, andT_f, orT_t, orT_f, ifK_t, ifK_f, ifE_t, ifE_f, andK_t, andK_f, orK_t, orK_f, L2.start, List.map_cons, List.map_nil, List.length_cons, List.length_nil, List.replicate_succ, List.replicate_zero, List.cons_append, List.nil_append, List.getElem?_cons_succ, List.getElem?_cons_zero, List.set_cons_succ, List.set_cons_zero, Nat.reduceAdd, Nat.reduceSub, Nat.zero_add, decide_true, decide_false, Bool.not_true, Bool.not_false, if_true, if_false, rEq, rNe, scal_ii, scal_ss, scal_bb, scal_is, scal_si, scal_ns, scal_ni, scal_in, scal_sn, scal_nn, rI, rI0, rU, rIxLH, rIxTH, rLenH, rLenTH, rSetL, rCatN, rTupOfN, rLstOfN, rSlLN, rSlTN, CDiv, CPow, CMul, CDivW, upd_same, at0, at1, at2, at3, at4, at5, at6, at7, at8, at9, at10, at11, at12, at13, ix3_0, ix3_1, ix3_2, V.int.injEq, V.bl.injEq, V.str.injEq, V.ref.injEq, Option.some.injEq, HO.lst.injEq, HO.tup.injEq, HO.ins.injEq, List.cons.injEq, and_true, true_and, exists_eq_left, exists_eq_left', exists_and_left, exists_eq', exists_eq, and_assoc, N_law_source]
    exact fin c H1 n1.same
/-- an item of a list -/
def spPick : Sp := fun vs H Q _ => ∃ (a l : Addr) (j : Int) (xs : List V), vs = [.ref a, .ref l] ∧ l ≠ a ∧ H l = some (.lst xs) ∧ 0 < xs.length ∧ xs.length < 500000000 ∧ Src H a j ∧ j < 1099511627776 ∧
  ∀ (i : Nat) (v : V) (j' : Int) (H' : Hp), xs[i]? = some v → j ≤ j' → j' ≤ j + 1 → Oth a H H' → Src H' a j' → Q v H'
theorem ok_law_pick (T : Tx fa fn K mg) : Fn P w K mg base 2 (aG "_law_pick" K) [] spPick := by
  obtain ⟨fd, F⟩ := F_law_pick T
  refine fn_all F sc_law_pick (fun vs H Q E h => ?_) (b_law_pick F) (fun cdv A outer s H vs Q E hr h => ⟨_, (pss_one (ps_ret (pe_ix ix_lh (pv 1) (pe_fn (ok_law_next T) (hr.mono (by decide)) rfl (g_law_next T) (k_law_next T) passD (pa_cons (pv 0) (pa_cons (pe_callB call_len_lh (by rfl) (T.free (T.c.fact 0 (f := fFree "len") rfl)) (by decide +kernel) (pa_cons (pv 1) pa_nil)) pa_nil))) (fun _ _ => rfl)))), ?_⟩)
  · first | (obtain ⟨_, e, _⟩ := h; subst e; rfl) | (obtain ⟨_, _, e, _⟩ := h; subst e; rfl) | (obtain ⟨_, _, _, e, _⟩ := h; subst e; rfl) | (obtain ⟨_, _, _, _, e, _⟩ := h; subst e; rfl) | (obtain ⟨_, _, _, _, _, e, _⟩ := h; subst e; rfl) | (obtain ⟨_, _, _, _, _, _, e, _⟩ := h; subst e; rfl) | (obtain ⟨_, _, _, _, _, _, _, e, _⟩ := h; subst e; rfl) | (obtain ⟨_, _, _, _, _, _, _, _, e, _⟩ := h; subst e; rfl) | (obtain ⟨_, _, _, _, _, _, _, _, _, e, _⟩ := h; subst e; rfl) | (obtain ⟨_, _, _, _, _, _, _, _, _, _, e, _⟩ := h; subst e; rfl) | (obtain ⟨_, _, _, _, _, _, _, _, _, _, _, e, _⟩ := h; subst e; rfl)
  obtain ⟨a, l, j, xs, rfl, la, hl, x0, x1, hs, j1, q⟩ := h
  try simp only [cxK, r_var, r_c, r_seq, r_next, r_break, r_cont, r_drop, r_ret, r_retN, r_if, r_ife, r_asg, r_name, r_op, r_un, r_nil, r_cons, r_lst2, r_tup2, r_lc, r_for, r_ilist, r_itup, r_istr, r_irng1, r_irng2, r_ienum, r_ienumS, wipe, r_cb, r_test, r_b, r_not, r_notV, r_andV, r_orV, r_isN, r_notN, r_m1, r_m0, r_fld, sFld, putF, r_par, r_sub, r_gtup, r_gnil, r_gcons, r_sl, r_nopart, r_part, r_bm, r_bm0, r_chain, r_call, r_callK, r_meth, r_prop, r_make, r_and, r_or, andT_t, andT_f, orT_t, orT_f, ifK_t, ifK_f, ifE_t, ifE_f, andK_t, andK_f, orK_t, orK_f, L2.start, List.map_cons, List.map_nil, List.length_cons, List.length_nil, List.replicate_succ, List.replicate_zero, List.cons_append, List.nil_append, List.getElem?_cons_succ, List.getElem?_cons_zero, List.set_cons_succ, List.set_cons_zero, Nat.reduceAdd, Nat.reduceSub, Nat.zero_add, decide_true, decide_false, Bool.not_true, Bool.not_false, if_true, if_false, rEq, rNe, scal_ii, scal_ss, scal_bb, scal_is, scal_si, scal_ns, scal_ni, scal_in, scal_sn, scal_nn, rI, rI0, rU, rIxLH, rIxTH, rLenH, rLenTH, rSetL, rCatN, rTupOfN, rLstOfN, rSlLN, rSlTN, CDiv, CPow, CMul, CDivW, upd_same, at0, at1, at2, at3, at4, at5, at6, at7, at8, at9, at10, at11, at12, at13, ix3_0, ix3_1, ix3_2, V.int.injEq, V.bl.injEq, V.str.injEq, V.ref.injEq, Option.some.injEq, HO.lst.injEq, HO.tup.injEq, HO.ins.injEq, List.cons.injEq, and_true, true_and, exists_eq_left, exists_eq_left', exists_and_left, exists_eq', exists_eq, and_assoc, N_law_pick, hl]
  refine ⟨a, xs.length, j, rfl, by omega, by omega, hs, j1, fun r j' H' r0 r1 j2 j3 ho hs' => ?_⟩
  have hl' := ho l _ la hl
  try simp only [cxK, r_var, r_c, r_seq, r_next, r_break, r_cont, r_drop, r_ret, r_retN, r_if, r_ife, r_asg, r_name, r_op, r_un, r_nil, r_cons, r_lst2, r_tup2, r_lc, r_for, r_ilist, r_itup, r_istr, r_irng1, r_irng2, r_ienum, r_ienumS, wipe, r_cb, r_test, r_b, r_not, r_notV, r_andV, r_orV, r_isN, r_notN, r_m1, r_m0, r_fld, sFld, putF, r_par, r_sub, r_gtup, r_gnil, r_gcons, r_sl, r_nopart, r_part, r_bm, r_bm0, r_chain, r_call, r_callK, r_meth, r_prop, r_make, r_and, r_or, andT_t, andT_f, orT_t, orT_f, ifK_t, ifK_f, ifE_t, ifE_f, andK_t, andK_f, orK_t, orK_f, L2.start, List.map_cons, List.map_nil, List.length_cons, List.length_nil, List.replicate_succ, List.replicate_zero, List.cons_append, List.nil_append, List.getElem?_cons_succ, List.getElem?_cons_zero, List.set_cons_succ, List.set_cons_zero, Nat.reduceAdd, Nat.reduceSub, Nat.zero_add, decide_true, decide_false, Bool.not_true, Bool.not_false, if_true, if_false, rEq, rNe, scal_ii, scal_ss, scal_bb, scal_is, scal_si, scal_ns, scal_ni, scal_in, scal_sn, scal_nn, rI, rI0, rU, rIxLH, rIxTH, rLenH, rLenTH, rSetL, rCatN, rTupOfN, rLstOfN, rSlLN, rSlTN, CDiv, CPow, CMul, CDivW, upd_same, at0, at1, at2, at3, at4, at5, at6, at7, at8, at9, at10, at11, at12, at13, ix3_0, ix3_1, ix3_2, V.int.injEq, V.bl.injEq, V.str.injEq, V.ref.injEq, Option.some.injEq, HO.lst.injEq, HO.tup.injEq, HO.ins.injEq, List.cons.injEq, and_true, true_and, exists_eq_left, exists_eq_left', exists_and_left, exists_eq', exists_eq, and_assoc, N_law_pick, hl']
  obtain ⟨v, e1, e2⟩ := atI_of r0 r1
  exact ⟨v, e1, q _ v j' H' e2 j2 j3 ho hs'⟩
def spPickS : Sp := fun vs H Q _ => ∃ (a : Addr) (z : Str) (j : Int), vs = [.ref a, .str z] ∧ 0 < z.cps.size ∧ z.cps.size < 16000000 ∧ Src H a j ∧ j < 1099511627776 ∧
  ∀ (c : Nat) (j' : Int) (H' : Hp), c ∈ z.cps.toList → j ≤ j' → j' ≤ j + 1 → Oth a H H' → Src H' a j' → Q (.str ⟨#[c]⟩) H'
theorem ok_law_pickS (T : Tx fa fn K mg) : Fn P w K mg base 2 (aG "_law_pick" K) [] spPickS := by
  obtain ⟨fd, F⟩ := F_law_pick T
  refine fn_all F sc_law_pick (fun vs H Q E h => ?_) (b_law_pick F) (fun cdv A outer s H vs Q E hr h => ⟨_, (pss_one (ps_ret (pe_ix ix_str (pv 1) (pe_fn (ok_law_next T) (hr.mono (by decide)) rfl (g_law_next T) (k_law_next T) passD (pa_cons (pv 0) (pa_cons (pe_callB call_len_str (by rfl) (T.free (T.c.fact 0 (f := fFree "len") rfl)) (by decide +kernel) (pa_cons (pv 1) pa_nil)) pa_nil))) (fun _ _ => rfl)))), ?_⟩)
  · first | (obtain ⟨_, e, _⟩ := h; subst e; rfl) | (obtain ⟨_, _, e, _⟩ := h; subst e; rfl) | (obtain ⟨_, _, _, e, _⟩ := h; subst e; rfl) | (obtain ⟨_, _, _, _, e, _⟩ := h; subst e; rfl) | (obtain ⟨_, _, _, _, _, e, _⟩ := h; subst e; rfl) | (obtain ⟨_, _, _, _, _, _, e, _⟩ := h; subst e; rfl) | (obtain ⟨_, _, _, _, _, _, _, e, _⟩ := h; subst e; rfl) | (obtain ⟨_, _, _, _, _, _, _, _, e, _⟩ := h; subst e; rfl) | (obtain ⟨_, _, _, _, _, _, _, _, _, e, _⟩ := h; subst e; rfl) | (obtain ⟨_, _, _, _, _, _, _, _, _, _, e, _⟩ := h; subst e; rfl) | (obtain ⟨_, _, _, _, _, _, _, _, _, _, _, e, _⟩ := h; subst e; rfl)
  obtain ⟨a, z, j, rfl, z0, z1, hs, j1, q⟩ := h
  try simp only [cxK, r_var, r_c, r_seq, r_next, r_break, r_cont, r_drop, r_ret, r_retN, r_if, r_ife, r_asg, r_name, r_op, r_un, r_nil, r_cons, r_lst2, r_tup2, r_lc, r_for, r_ilist, r_itup, r_istr, r_irng1, r_irng2, r_ienum, r_ienumS, wipe, r_cb, r_test, r_b, r_not, r_notV, r_andV, r_orV, r_isN, r_notN, r_m1, r_m0, r_fld, sFld, putF, r_par, r_sub, r_gtup, r_gnil, r_gcons, r_sl, r_nopart, r_part, r_bm, r_bm0, r_chain, r_call, r_callK, r_meth, r_prop, r_make, r_and, r_or, andT_t, andT_f, orT_t, orT_f, ifK_t, ifK_f, ifE_t, ifE_f, andK_t, andK_f, orK_t, orK_f, L2.start, List.map_cons, List.map_nil, List.length_cons, List.length_nil, List.replicate_succ, List.replicate_zero, List.cons_append, List.nil_append, List.getElem?_cons_succ, List.getElem?_cons_zero, List.set_cons_succ, List.set_cons_zero, Nat.reduceAdd, Nat.reduceSub, Nat.zero_add, decide_true, decide_false, Bool.not_true, Bool.not_false, if_true, if_false, rEq, rNe, scal_ii, scal_ss, scal_bb, scal_is, scal_si, scal_ns, scal_ni, scal_in, scal_sn, scal_nn, rI, rI0, rU, rIxLH, rIxTH, rLenH, rLenTH, rSetL, rCatN, rTupOfN, rLstOfN, rSlLN, rSlTN, CDiv, CPow, CMul, CDivW, upd_same, at0, at1, at2, at3, at4, at5, at6, at7, at8, at9, at10, at11, at12, at13, ix3_0, ix3_1, ix3_2, V.int.injEq, V.bl.injEq, V.str.injEq, V.ref.injEq, Option.some.injEq, HO.lst.injEq, HO.tup.injEq, HO.ins.injEq, List.cons.injEq, and_true, true_and, exists_eq_left, exists_eq_left', exists_and_left, exists_eq', exists_eq, and_assoc, N_law_pick]
  have hz : z.length = z.cps.size := rfl
  refine ⟨fits (by rw [hz]; omega), a, z.length, j, rfl, by rw [hz]; omega, by rw [hz]; omega, hs, j1, fun r j' H' r0 r1 j2 j3 ho hs' => ?_⟩
  have hr : r < (z.cps.toList.length : Int) := by simpa [hz] using r1
  obtain ⟨c, e1, e2⟩ := atI_of r0 hr
  exact ⟨z, r, c, rfl, rfl, fits (by rw [hz]; omega), e1, q c j' H' (List.mem_of_getElem? e2) j2 j3 ho hs'⟩

end

section
variable {P : Program} {w : World} {K : PySem.W.Frag} {mg : Str → Option Value} {base : Heap}
/-- a good name -/
def isNm (z : Str) : Bool := (decide (1 ≤ z.length) && decide (z.length ≤ 12)) && (!(z == pt1 || z == pt2)) && z.cps.toList.all fun c => decide (c ∈ sgns)
def spIsName : Sp := fun vs H Q _ => ∃ z : Str, vs = [.str z] ∧ z.cps.size ≤ 16000000 ∧ ∀ H', Same H H' → Q (.bl (isNm z)) H'
theorem ok_is_name (T : Tx fa fn K mg) : Fn P w K mg base 1 (aG "is_name" K) [] spIsName := by
  obtain ⟨fd, F⟩ := F_is_name T
  refine fn_all F sc_is_name (fun vs H Q E h => ?_) (b_is_name F) (fun cdv A outer s H vs Q E hr h => ⟨_, (pss_cons (ps_if (PW.pt (pw_or (pt_not (pt_val (pe_callB call_isi (by rfl) (T.free (T.c.fact 4 (f := fFree "isinstance") rfl)) (by decide +kernel) (pa_cons (pv 0) (pa_cons (pe_bltn (v := .ty "str") (by rfl) (T.free (T.c.fact 5 (f := fFree "str") rfl)) (by decide +kernel) rfl) pa_nil))))) (pw_or (pt_not (pt_chain op_le op_le pe_int (pe_callB call_len_str (by rfl) (T.free (T.c.fact 0 (f := fFree "len") rfl)) (by decide +kernel) (pa_cons (pv 0) pa_nil)) (pe_gint rfl (T.int (T.c.fact 3 (f := fInt "MAX_NAME" (12)) rfl))))) (pw_or1 (pt_cmpR op_in_seq (pv 0) (pe_tup (pa_cons pe_str (pa_cons pe_str pa_nil))) rfl)))))
 (pss_one (ps_ret pe_bl))
 pss_nil)
 (pss_one (ps_ret (pe_callB (cr_all rfl) (by rfl) (T.free (T.c.fact 1 (f := fFree "all") rfl)) (by decide +kernel) (pa_cons (pe_lc (own := [("sign", 1)]) (g := gName 1) (tt := tYes) rfl sc_is_name.nd (pi_str (pv 0)) (blkOk_by (own := [("sign", 1)]) (N := N_is_name) (sc := defScope s_is_name) (by decide +kernel)) (fun _ _ _ _ _ => (pg_name (i := 1) sc_is_name.nd rfl (Or.inl rfl))) (fun _ _ _ _ _ => pts_nil) (fun _ _ _ _ _ => (pe_cmpR op_in_sign (pv 1) (pe_gstr rfl (T.str (T.c.fact 2 (f := fStr "NAME_SIGNS" "abcdefghijklmnopqrstuvwxyz0123456789_-.") rfl))) rfl))) pa_nil))))), ?_⟩)
  · first | (obtain ⟨_, e, _⟩ := h; subst e; rfl) | (obtain ⟨_, _, e, _⟩ := h; subst e; rfl) | (obtain ⟨_, _, _, e, _⟩ := h; subst e; rfl) | (obtain ⟨_, _, _, _, e, _⟩ := h; subst e; rfl) | (obtain ⟨_, _, _, _, _, e, _⟩ := h; subst e; rfl) | (obtain ⟨_, _, _, _, _, _, e, _⟩ := h; subst e; rfl) | (obtain ⟨_, _, _, _, _, _, _, e, _⟩ := h; subst e; rfl) | (obtain ⟨_, _, _, _, _, _, _, _, e, _⟩ := h; subst e; rfl) | (obtain ⟨_, _, _, _, _, _, _, _, _, e, _⟩ := h; subst e; rfl) | (obtain ⟨_, _, _, _, _, _, _, _, _, _, e, _⟩ := h; subst e; rfl) | (obtain ⟨_, _, _, _, _, _, _, _, _, _, _, e, _⟩ := h; subst e; rfl)
  obtain ⟨z, rfl, hz, q⟩ := h
  try simp only [cxK, r_var, r_c, r_seq, r_next, r_break, r_cont, r_drop, r_ret, r_retN, r_if, r_ife, r_asg, r_name, r_op, r_un, r_nil, r_cons, r_lst2, r_tup2, r_lc, r_for, r_ilist, r_itup, r_istr, r_irng1, r_irng2, r_ienum, r_ienumS, wipe, r_cb, r_test, r_b, r_not, r_notV, r_andV, r_orV, r_isN, r_notN, r_m1, r_m0, r_fld, sFld, putF, r_par, r_sub, r_gtup, r_gnil, r_gcons, r_sl, r_nopart, r_part, r_bm, r_bm0, r_chain, r_call, r_callK, r_meth, r_prop, r_make, r_and, r_or, andT_t, andT_f, orT_t, orT_f, ifK_t, ifK_f, ifE_t, ifE_f, andK_t, andK_f, orK_t, orK_f, L2.start, List.map_cons, List.map_nil, List.length_cons, List.length_nil, List.replicate_succ, List.replicate_zero, List.cons_append, List.nil_append, List.getElem?_cons_succ, List.getElem?_cons_zero, List.set_cons_succ, List.set_cons_zero, Nat.reduceAdd, Nat.reduceSub, Nat.zero_add, decide_true, decide_false, Bool.not_true, Bool.not_false, if_true, if_false, rEq, rNe, scal_ii, scal_ss, scal_bb, scal_is, scal_si, scal_ns, scal_ni, scal_in, scal_sn, scal_nn, rI, rI0, rU, rIxLH, rIxTH, rLenH, rLenTH, rSetL, rCatN, rTupOfN, rLstOfN, rSlLN, rSlTN, CDiv, CPow, CMul, CDivW, upd_same, at0, at1, at2, at3, at4, at5, at6, at7, at8, at9, at10, at11, at12, at13, ix3_0, ix3_1, ix3_2, V.int.injEq, V.bl.injEq, V.str.injEq, V.ref.injEq, Option.some.injEq, HO.lst.injEq, HO.tup.injEq, HO.ins.injEq, List.cons.injEq, and_true, true_and, exists_eq_left, exists_eq_left', exists_and_left, exists_eq', exists_eq, and_assoc, N_is_name]
  refine isi_ty (r := true) (.str z) (by decide +kernel) ?_
  try simp only [cxK, r_var, r_c, r_seq, r_next, r_break, r_cont, r_drop, r_ret, r_retN, r_if, r_ife, r_asg, r_name, r_op, r_un, r_nil, r_cons, r_lst2, r_tup2, r_lc, r_for, r_ilist, r_itup, r_istr, r_irng1, r_irng2, r_ienum, r_ienumS, wipe, r_cb, r_test, r_b, r_not, r_notV, r_andV, r_orV, r_isN, r_notN, r_m1, r_m0, r_fld, sFld, putF, r_par, r_sub, r_gtup, r_gnil, r_gcons, r_sl, r_nopart, r_part, r_bm, r_bm0, r_chain, r_call, r_callK, r_meth, r_prop, r_make, r_and, r_or, andT_t, andT_f, orT_t, orT_f, ifK_t, ifK_f, ifE_t, ifE_f, andK_t, andK_f, orK_t, orK_f, L2.start, List.map_cons, List.map_nil, List.length_cons, List.length_nil, List.replicate_succ, List.replicate_zero, List.cons_append, List.nil_append, List.getElem?_cons_succ, List.getElem?_cons_zero, List.set_cons_succ, List.set_cons_zero, Nat.reduceAdd, Nat.reduceSub, Nat.zero_add, decide_true, decide_false, Bool.not_true, Bool.not_false, if_true, if_false, rEq, rNe, scal_ii, scal_ss, scal_bb, scal_is, scal_si, scal_ns, scal_ni, scal_in, scal_sn, scal_nn, rI, rI0, rU, rIxLH, rIxTH, rLenH, rLenTH, rSetL, rCatN, rTupOfN, rLstOfN, rSlLN, rSlTN, CDiv, CPow, CMul, CDivW, upd_same, at0, at1, at2, at3, at4, at5, at6, at7, at8, at9, at10, at11, at12, at13, ix3_0, ix3_1, ix3_2, V.int.injEq, V.bl.injEq, V.str.injEq, V.ref.injEq, Option.some.injEq, HO.lst.injEq, HO.tup.injEq, HO.ins.injEq, List.cons.injEq, and_true, true_and, exists_eq_left, exists_eq_left', exists_and_left, exists_eq', exists_eq, and_assoc, N_is_name]
  have hl : z.length = z.cps.size := rfl
  by_cases h1 : (1 : Int) ≤ z.length
  · try simp only [cxK, r_var, r_c, r_seq, r_next, r_break, r_cont, r_drop, r_ret, r_retN, r_if, r_ife, r_asg, r_name, r_op, r_un, r_nil, r_cons, r_lst2, r_tup2, r_lc, r_for, r_ilist, r_itup, r_istr, r_irng1, r_irng2, r_ienum, r_ienumS, wipe, r_cb, r_test, r_b, r_not, r_notV, r_andV, r_orV, r_isN, r_notN, r_m1, r_m0, r_fld, sFld, putF, r_par, r_sub, r_gtup, r_gnil, r_gcons, r_sl, r_nopart, r_part, r_bm, r_bm0, r_chain, r_call, r_callK, r_meth, r_prop, r_make, r_and, r_or, andT_t, andT_f, orT_t, orT_f, ifK_t, ifK_f, ifE_t, ifE_f, andK_t, andK_f, orK_t, orK_f, L2.start, List.map_cons, List.map_nil, List.length_cons, List.length_nil, List.replicate_succ, List.replicate_zero, List.cons_append, List.nil_append, List.getElem?_cons_succ, List.getElem?_cons_zero, List.set_cons_succ, List.set_cons_zero, Nat.reduceAdd, Nat.reduceSub, Nat.zero_add, decide_true, decide_false, Bool.not_true, Bool.not_false, if_true, if_false, rEq, rNe, scal_ii, scal_ss, scal_bb, scal_is, scal_si, scal_ns, scal_ni, scal_in, scal_sn, scal_nn, rI, rI0, rU, rIxLH, rIxTH, rLenH, rLenTH, rSetL, rCatN, rTupOfN, rLstOfN, rSlLN, rSlTN, CDiv, CPow, CMul, CDivW, upd_same, at0, at1, at2, at3, at4, at5, at6, at7, at8, at9, at10, at11, at12, at13, ix3_0, ix3_1, ix3_2, V.int.injEq, V.bl.injEq, V.str.injEq, V.ref.injEq, Option.some.injEq, HO.lst.injEq, HO.tup.injEq, HO.ins.injEq, List.cons.injEq, and_true, true_and, exists_eq_left, exists_eq_left', exists_and_left, exists_eq', exists_eq, and_assoc, N_is_name, h1]
    refine ⟨fits (by rw [hl]; omega), ?_⟩
    by_cases h2 : (z.length : Int) ≤ 12
    · try simp only [cxK, r_var, r_c, r_seq, r_next, r_break, r_cont, r_drop, r_ret, r_retN, r_if, r_ife, r_asg, r_name, r_op, r_un, r_nil, r_cons, r_lst2, r_tup2, r_lc, r_for, r_ilist, r_itup, r_istr, r_irng1, r_irng2, r_ienum, r_ienumS, wipe, r_cb, r_test, r_b, r_not, r_notV, r_andV, r_orV, r_isN, r_notN, r_m1, r_m0, r_fld, sFld, putF, r_par, r_sub, r_gtup, r_gnil, r_gcons, r_sl, r_nopart, r_part, r_bm, r_bm0, r_chain, r_call, r_callK, r_meth, r_prop, r_make, r_and, r_or, andT_t, andT_f, orT_t, orT_f, ifK_t, ifK_f, ifE_t, ifE_f, andK_t, andK_f, orK_t, orK_f, L2.start, List.map_cons, List.map_nil, List.length_cons, List.length_nil, List.replicate_succ, List.replicate_zero, List.cons_append, List.nil_append, List.getElem?_cons_succ, List.getElem?_cons_zero, List.set_cons_succ, List.set_cons_zero, Nat.reduceAdd, Nat.reduceSub, Nat.zero_add, decide_true, decide_false, Bool.not_true, Bool.not_false, if_true, if_false, rEq, rNe, scal_ii, scal_ss, scal_bb, scal_is, scal_si, scal_ns, scal_ni, scal_in, scal_sn, scal_nn, rI, rI0, rU, rIxLH, rIxTH, rLenH, rLenTH, rSetL, rCatN, rTupOfN, rLstOfN, rSlLN, rSlTN, CDiv, CPow, CMul, CDivW, upd_same, at0, at1, at2, at3, at4, at5, at6, at7, at8, at9, at10, at11, at12, at13, ix3_0, ix3_1, ix3_2, V.int.injEq, V.bl.injEq, V.str.injEq, V.ref.injEq, Option.some.injEq, HO.lst.injEq, HO.tup.injEq, HO.ins.injEq, List.cons.injEq, and_true, true_and, exists_eq_left, exists_eq_left', exists_and_left, exists_eq', exists_eq, and_assoc, N_is_name, h2]
      refine ⟨fits (by decide), fun p H1 n1 => ?_⟩
      refine ⟨p, _, rfl, Or.inr (SqT.of n1.at_), rfl, rfl, ?_⟩
      have e : inV (V.str z) [V.str (PySem.Str.ofString "."), V.str (PySem.Str.ofString "..")] = (z == pt1 || z == pt2) := by
        rw [pt1_eq, pt2_eq]
        show ((pt1 == z) || ((pt2 == z) || false)) = _
        rw [Bool.or_false, BEq.comm (a := pt1), BEq.comm (a := pt2)]
      rw [if_neg Bool.false_ne_true, e]
      cases h3 : (z == pt1 || z == pt2) with
      | true =>
        try simp only [cxK, r_var, r_c, r_seq, r_next, r_break, r_cont, r_drop, r_ret, r_retN, r_if, r_ife, r_asg, r_name, r_op, r_un, r_nil, r_cons, r_lst2, r_tup2, r_lc, r_for, r_ilist, r_itup, r_istr, r_irng1, r_irng2, r_ienum, r_ienumS, wipe, r_cb, r_test, r_b, r_not, r_notV, r_andV, r_orV, r_isN, r_notN, r_m1, r_m0, r_fld, sFld, putF, r_par, r_sub, r_gtup, r_gnil, r_gcons, r_sl, r_nopart, r_part, r_bm, r_bm0, r_chain, r_call, r_callK, r_meth, r_prop, r_make, r_and, r_or, andT_t, andT_f, orT_t, orT_f, ifK_t, ifK_f, ifE_t, ifE_f, andK_t, andK_f, orK_t, orK_f, L2.start, List.map_cons, List.map_nil, List.length_cons, List.length_nil, List.replicate_succ, List.replicate_zero, List.cons_append, List.nil_append, List.getElem?_cons_succ, List.getElem?_cons_zero, List.set_cons_succ, List.set_cons_zero, Nat.reduceAdd, Nat.reduceSub, Nat.zero_add, decide_true, decide_false, Bool.not_true, Bool.not_false, if_true, if_false, rEq, rNe, scal_ii, scal_ss, scal_bb, scal_is, scal_si, scal_ns, scal_ni, scal_in, scal_sn, scal_nn, rI, rI0, rU, rIxLH, rIxTH, rLenH, rLenTH, rSetL, rCatN, rTupOfN, rLstOfN, rSlLN, rSlTN, CDiv, CPow, CMul, CDivW, upd_same, at0, at1, at2, at3, at4, at5, at6, at7, at8, at9, at10, at11, at12, at13, ix3_0, ix3_1, ix3_2, V.int.injEq, V.bl.injEq, V.str.injEq, V.ref.injEq, Option.some.injEq, HO.lst.injEq, HO.tup.injEq, HO.ins.injEq, List.cons.injEq, and_true, true_and, exists_eq_left, exists_eq_left', exists_and_left, exists_eq', exists_eq, and_assoc, N_is_name]
        have z3 := q H1 n1.same
        have e4 : isNm z = false := by unfold isNm; rw [h3]; simp
        rw [e4] at z3
        exact z3
      | false =>
        try simp only [cxK, r_var, r_c, r_seq, r_next, r_break, r_cont, r_drop, r_ret, r_retN, r_if, r_ife, r_asg, r_name, r_op, r_un, r_nil, r_cons, r_lst2, r_tup2, r_lc, r_for, r_ilist, r_itup, r_istr, r_irng1, r_irng2, r_ienum, r_ienumS, wipe, r_cb, r_test, r_b, r_not, r_notV, r_andV, r_orV, r_isN, r_notN, r_m1, r_m0, r_fld, sFld, putF, r_par, r_sub, r_gtup, r_gnil, r_gcons, r_sl, r_nopart, r_part, r_bm, r_bm0, r_chain, r_call, r_callK, r_meth, r_prop, r_make, r_and, r_or, andT_t, andT_f, orT_t, orT_f, ifK_t, ifK_f, ifE_t, ifE_f, andK_t, andK_f, orK_t, orK_f, L2.start, List.map_cons, List.map_nil, List.length_cons, List.length_nil, List.replicate_succ, List.replicate_zero, List.cons_append, List.nil_append, List.getElem?_cons_succ, List.getElem?_cons_zero, List.set_cons_succ, List.set_cons_zero, Nat.reduceAdd, Nat.reduceSub, Nat.zero_add, decide_true, decide_false, Bool.not_true, Bool.not_false, if_true, if_false, rEq, rNe, scal_ii, scal_ss, scal_bb, scal_is, scal_si, scal_ns, scal_ni, scal_in, scal_sn, scal_nn, rI, rI0, rU, rIxLH, rIxTH, rLenH, rLenTH, rSetL, rCatN, rTupOfN, rLstOfN, rSlLN, rSlTN, CDiv, CPow, CMul, CDivW, upd_same, at0, at1, at2, at3, at4, at5, at6, at7, at8, at9, at10, at11, at12, at13, ix3_0, ix3_1, ix3_2, V.int.injEq, V.bl.injEq, V.str.injEq, V.ref.injEq, Option.some.injEq, HO.lst.injEq, HO.tup.injEq, HO.ins.injEq, List.cons.injEq, and_true, true_and, exists_eq_left, exists_eq_left', exists_and_left, exists_eq', exists_eq, and_assoc, N_is_name]
        refine lcK_it walk_str (fun D i acc H' => Same H H' ∧ acc = ((z.cps.toList.map fun c => decide (c ∈ sgns)).take i).map V.bl) ?_ (fun _ _ _ _ _ _ _ _ => trivial) ?_ ?_
        · intro D H0 n0
          exact ⟨same_trans n1.same n0.same, rfl⟩
        · rintro D i x acc H2 H3 nD hi hD hl3 ⟨sm, ea⟩ ⟨rfl, c, hc, rfl⟩
          try simp only [cxK, r_var, r_c, r_seq, r_next, r_break, r_cont, r_drop, r_ret, r_retN, r_if, r_ife, r_asg, r_name, r_op, r_un, r_nil, r_cons, r_lst2, r_tup2, r_lc, r_for, r_ilist, r_itup, r_istr, r_irng1, r_irng2, r_ienum, r_ienumS, wipe, r_cb, r_test, r_b, r_not, r_notV, r_andV, r_orV, r_isN, r_notN, r_m1, r_m0, r_fld, sFld, putF, r_par, r_sub, r_gtup, r_gnil, r_gcons, r_sl, r_nopart, r_part, r_bm, r_bm0, r_chain, r_call, r_callK, r_meth, r_prop, r_make, r_and, r_or, andT_t, andT_f, orT_t, orT_f, ifK_t, ifK_f, ifE_t, ifE_f, andK_t, andK_f, orK_t, orK_f, L2.start, List.map_cons, List.map_nil, List.length_cons, List.length_nil, List.replicate_succ, List.replicate_zero, List.cons_append, List.nil_append, List.getElem?_cons_succ, List.getElem?_cons_zero, List.set_cons_succ, List.set_cons_zero, Nat.reduceAdd, Nat.reduceSub, Nat.zero_add, decide_true, decide_false, Bool.not_true, Bool.not_false, if_true, if_false, rEq, rNe, scal_ii, scal_ss, scal_bb, scal_is, scal_si, scal_ns, scal_ni, scal_in, scal_sn, scal_nn, rI, rI0, rU, rIxLH, rIxTH, rLenH, rLenTH, rSetL, rCatN, rTupOfN, rLstOfN, rSlLN, rSlTN, CDiv, CPow, CMul, CDivW, upd_same, at0, at1, at2, at3, at4, at5, at6, at7, at8, at9, at10, at11, at12, at13, ix3_0, ix3_1, ix3_2, V.int.injEq, V.bl.injEq, V.str.injEq, V.ref.injEq, Option.some.injEq, HO.lst.injEq, HO.tup.injEq, HO.ins.injEq, List.cons.injEq, and_true, true_and, exists_eq_left, exists_eq_left', exists_and_left, exists_eq', exists_eq, and_assoc, N_is_name, sign_eq]
          refine ⟨c, rfl, addK_mk hD hl3 (by omega) ⟨fun b o hb => ?_, ?_⟩⟩
          · rw [upd_ne (fun zz => by subst zz; rw [n1.old hb] at nD; cases nD)]
            exact sm b o hb
          · have hc2 : z.cps.toList[i]? = some c := by simpa using hc
            rw [ea, List.take_add_one, List.getElem?_map, hc2]
            simp
        · rintro D acc H2 nD hD hl2 ⟨sm, ea⟩
          have ea2 : acc = (z.cps.toList.map fun c => decide (c ∈ sgns)).map V.bl := by
            rw [ea, List.take_of_length_le (by simp)]
          rw [ea2] at hD
          refine ⟨D, _, rfl, SqL.of hD, ?_⟩
          have z3 := q H2 sm
          have e4 : isNm z = ((z.cps.toList.map fun c => decide (c ∈ sgns)).all id) := by
            unfold isNm
            rw [h3, List.all_map]
            have a1 : 1 ≤ z.length := by omega
            have a2 : z.length ≤ 12 := by omega
            simp [a1, a2]
          rw [e4] at z3
          exact z3
    · try simp only [cxK, r_var, r_c, r_seq, r_next, r_break, r_cont, r_drop, r_ret, r_retN, r_if, r_ife, r_asg, r_name, r_op, r_un, r_nil, r_cons, r_lst2, r_tup2, r_lc, r_for, r_ilist, r_itup, r_istr, r_irng1, r_irng2, r_ienum, r_ienumS, wipe, r_cb, r_test, r_b, r_not, r_notV, r_andV, r_orV, r_isN, r_notN, r_m1, r_m0, r_fld, sFld, putF, r_par, r_sub, r_gtup, r_gnil, r_gcons, r_sl, r_nopart, r_part, r_bm, r_bm0, r_chain, r_call, r_callK, r_meth, r_prop, r_make, r_and, r_or, andT_t, andT_f, orT_t, orT_f, ifK_t, ifK_f, ifE_t, ifE_f, andK_t, andK_f, orK_t, orK_f, L2.start, List.map_cons, List.map_nil, List.length_cons, List.length_nil, List.replicate_succ, List.replicate_zero, List.cons_append, List.nil_append, List.getElem?_cons_succ, List.getElem?_cons_zero, List.set_cons_succ, List.set_cons_zero, Nat.reduceAdd, Nat.reduceSub, Nat.zero_add, decide_true, decide_false, Bool.not_true, Bool.not_false, if_true, if_false, rEq, rNe, scal_ii, scal_ss, scal_bb, scal_is, scal_si, scal_ns, scal_ni, scal_in, scal_sn, scal_nn, rI, rI0, rU, rIxLH, rIxTH, rLenH, rLenTH, rSetL, rCatN, rTupOfN, rLstOfN, rSlLN, rSlTN, CDiv, CPow, CMul, CDivW, upd_same, at0, at1, at2, at3, at4, at5, at6, at7, at8, at9, at10, at11, at12, at13, ix3_0, ix3_1, ix3_2, V.int.injEq, V.bl.injEq, V.str.injEq, V.ref.injEq, Option.some.injEq, HO.lst.injEq, HO.tup.injEq, HO.ins.injEq, List.cons.injEq, and_true, true_and, exists_eq_left, exists_eq_left', exists_and_left, exists_eq', exists_eq, and_assoc, N_is_name, h2]
      have z3 := q H same_refl
      have e4 : isNm z = false := by unfold isNm; have : ¬ z.length ≤ 12 := by omega
                                     simp [this]
      rw [e4] at z3
      exact z3
  · try simp only [cxK, r_var, r_c, r_seq, r_next, r_break, r_cont, r_drop, r_ret, r_retN, r_if, r_ife, r_asg, r_name, r_op, r_un, r_nil, r_cons, r_lst2, r_tup2, r_lc, r_for, r_ilist, r_itup, r_istr, r_irng1, r_irng2, r_ienum, r_ienumS, wipe, r_cb, r_test, r_b, r_not, r_notV, r_andV, r_orV, r_isN, r_notN, r_m1, r_m0, r_fld, sFld, putF, r_par, r_sub, r_gtup, r_gnil, r_gcons, r_sl, r_nopart, r_part, r_bm, r_bm0, r_chain, r_call, r_callK, r_meth, r_prop, r_make, r_and, r_or, andT_t, andT_f, orT_t, orT_f, ifK_t, ifK_f, ifE_t, ifE_f, andK_t, andK_f, orK_t, orK_f, L2.start, List.map_cons, List.map_nil, List.length_cons, List.length_nil, List.replicate_succ, List.replicate_zero, List.cons_append, List.nil_append, List.getElem?_cons_succ, List.getElem?_cons_zero, List.set_cons_succ, List.set_cons_zero, Nat.reduceAdd, Nat.reduceSub, Nat.zero_add, decide_true, decide_false, Bool.not_true, Bool.not_false, if_true, if_false, rEq, rNe, scal_ii, scal_ss, scal_bb, scal_is, scal_si, scal_ns, scal_ni, scal_in, scal_sn, scal_nn, rI, rI0, rU, rIxLH, rIxTH, rLenH, rLenTH, rSetL, rCatN, rTupOfN, rLstOfN, rSlLN, rSlTN, CDiv, CPow, CMul, CDivW, upd_same, at0, at1, at2, at3, at4, at5, at6, at7, at8, at9, at10, at11, at12, at13, ix3_0, ix3_1, ix3_2, V.int.injEq, V.bl.injEq, V.str.injEq, V.ref.injEq, Option.some.injEq, HO.lst.injEq, HO.tup.injEq, HO.ins.injEq, List.cons.injEq, and_true, true_and, exists_eq_left, exists_eq_left', exists_and_left, exists_eq', exists_eq, and_assoc, N_is_name, h1]
    refine ⟨fits (by rw [hl]; omega), ?_⟩
    have z3 := q H same_refl
    have e4 : isNm z = false := by unfold isNm; have : ¬ 1 ≤ z.length := by omega
                                   simp [this]
    rw [e4] at z3
    exact z3

/-- what a path's text is -/
def textOf (ns : List Str) : Str := if ns = [] then "/" else Txt.join "" (ns.map fun n => "/" ++ n)
def Nms (ns : List Str) : Prop := ns.length ≤ 1000 ∧ ∀ x ∈ ns, PyData.strOk x = true ∧ x.length ≤ 1000
theorem Nms.ok {ns : List Str} (h : Nms ns) : ∀ x ∈ ns, PyData.strOk x = true := fun x hx => (h.2 x hx).1
theorem sum_le : ∀ (l : List Str) (m : Nat), (∀ x ∈ l, x.length ≤ m) → (l.map fun x => x.length).sum ≤ l.length * m
  | [], m, _ => by simp
  | x :: r, m, h => by
    have h1 := sum_le r m (fun y hy => h y (List.mem_cons_of_mem _ hy))
    have h2 := h x List.mem_cons_self
    simp only [List.map_cons, List.sum_cons, List.length_cons]
    rw [Nat.add_mul]
    omega
def spPlace : Sp := fun vs H Q _ => ∃ (t : Addr) (ns : List Str), vs = [.ref t] ∧ H t = some (.tup (ns.map V.str)) ∧ Nms ns ∧ ∀ H', Same H H' → Q (.str (textOf ns)) H'
theorem glue_fits {ns : List Str} (h : Nms ns) : ((ns.map fun n => (PySem.Str.ofString "/") ++ n).map fun x => x.length).sum + (ns.map fun n => (PySem.Str.ofString "/") ++ n).length * (PySem.Str.ofString "").length ≤ 16777216 := by
  have h1 := sum_le (ns.map fun n => (PySem.Str.ofString "/") ++ n) 1001 (fun x hx => by
    obtain ⟨y, hy, rfl⟩ := List.mem_map.mp hx
    have := (h.2 y hy).2
    rw [len_app]
    have e : (PySem.Str.ofString "/").length = 1 := by decide
    omega)
  have e : (PySem.Str.ofString "").length = 0 := by decide
  rw [e]
  rw [List.length_map] at h1
  have := h.1
  omega
theorem ok_place_of (T : Tx fa fn K mg) : Fn P w K mg base 1 (aG "place_of" K) [] spPlace := by
  obtain ⟨fd, F⟩ := F_place_of T
  refine fn_all F sc_place_of (fun vs H Q E h => ?_) (b_place_of F) (fun cdv A outer s H vs Q E hr h => ⟨_, (pss_one (ps_ret (pe_ifExp (pt_cmpR (op_neD hr.r.units) (pv 0) (pe_tup pa_nil) (nomark _)) (pe_join pe_str (pe_lc (own := [("name", 1)]) (g := gName 1) (tt := tYes) rfl sc_place_of.nd (pi_tup (pv 0)) (blkOk_by (own := [("name", 1)]) (N := N_place_of) (sc := defScope s_place_of) (by decide +kernel)) (fun _ _ _ _ _ => (pg_name (i := 1) sc_place_of.nd rfl (Or.inl rfl))) (fun _ _ _ _ _ => pts_nil) (fun _ _ _ _ _ => (pe_op op_add_str pe_str (pv 1))))) pe_str))), ?_⟩)
  · first | (obtain ⟨_, e, _⟩ := h; subst e; rfl) | (obtain ⟨_, _, e, _⟩ := h; subst e; rfl) | (obtain ⟨_, _, _, e, _⟩ := h; subst e; rfl) | (obtain ⟨_, _, _, _, e, _⟩ := h; subst e; rfl) | (obtain ⟨_, _, _, _, _, e, _⟩ := h; subst e; rfl) | (obtain ⟨_, _, _, _, _, _, e, _⟩ := h; subst e; rfl) | (obtain ⟨_, _, _, _, _, _, _, e, _⟩ := h; subst e; rfl) | (obtain ⟨_, _, _, _, _, _, _, _, e, _⟩ := h; subst e; rfl) | (obtain ⟨_, _, _, _, _, _, _, _, _, e, _⟩ := h; subst e; rfl) | (obtain ⟨_, _, _, _, _, _, _, _, _, _, e, _⟩ := h; subst e; rfl) | (obtain ⟨_, _, _, _, _, _, _, _, _, _, _, e, _⟩ := h; subst e; rfl)
  obtain ⟨t, ns, rfl, ht, hN, q⟩ := h
  try simp only [cxK, r_var, r_c, r_seq, r_next, r_break, r_cont, r_drop, r_ret, r_retN, r_if, r_ife, r_asg, r_name, r_op, r_un, r_nil, r_cons, r_lst2, r_tup2, r_lc, r_for, r_ilist, r_itup, r_istr, r_irng1, r_irng2, r_ienum, r_ienumS, wipe, r_cb, r_test, r_b, r_not, r_notV, r_andV, r_orV, r_isN, r_notN, r_m1, r_m0, r_fld, sFld, putF, r_par, r_sub, r_gtup, r_gnil, r_gcons, r_sl, r_nopart, r_part, r_bm, r_bm0, r_chain, r_call, r_callK, r_meth, r_prop, r_make, r_and, r_or, andT_t, andT_f, orT_t, orT_f, ifK_t, ifK_f, ifE_t, ifE_f, andK_t, andK_f, orK_t, orK_f, L2.start, List.map_cons, List.map_nil, List.length_cons, List.length_nil, List.replicate_succ, List.replicate_zero, List.cons_append, List.nil_append, List.getElem?_cons_succ, List.getElem?_cons_zero, List.set_cons_succ, List.set_cons_zero, Nat.reduceAdd, Nat.reduceSub, Nat.zero_add, decide_true, decide_false, Bool.not_true, Bool.not_false, if_true, if_false, rEq, rNe, scal_ii, scal_ss, scal_bb, scal_is, scal_si, scal_ns, scal_ni, scal_in, scal_sn, scal_nn, rI, rI0, rU, rIxLH, rIxTH, rLenH, rLenTH, rSetL, rCatN, rTupOfN, rLstOfN, rSlLN, rSlTN, CDiv, CPow, CMul, CDivW, upd_same, at0, at1, at2, at3, at4, at5, at6, at7, at8, at9, at10, at11, at12, at13, ix3_0, ix3_1, ix3_2, V.int.injEq, V.bl.injEq, V.str.injEq, V.ref.injEq, Option.some.injEq, HO.lst.injEq, HO.tup.injEq, HO.ins.injEq, List.cons.injEq, and_true, true_and, exists_eq_left, exists_eq_left', exists_and_left, exists_eq', exists_eq, and_assoc, N_place_of]
  refine ⟨fits (by decide), fun p H1 n1 => ?_⟩
  have ht1 := n1.old ht
  have he : ([] : List V) = ([] : List Str).map V.str := rfl
  have hp1 := n1.at_
  rw [he] at hp1
  refine neD_strT ht1 hp1 hN.ok (fun _ h => nomatch h) ?_
  try simp only [cxK, r_var, r_c, r_seq, r_next, r_break, r_cont, r_drop, r_ret, r_retN, r_if, r_ife, r_asg, r_name, r_op, r_un, r_nil, r_cons, r_lst2, r_tup2, r_lc, r_for, r_ilist, r_itup, r_istr, r_irng1, r_irng2, r_ienum, r_ienumS, wipe, r_cb, r_test, r_b, r_not, r_notV, r_andV, r_orV, r_isN, r_notN, r_m1, r_m0, r_fld, sFld, putF, r_par, r_sub, r_gtup, r_gnil, r_gcons, r_sl, r_nopart, r_part, r_bm, r_bm0, r_chain, r_call, r_callK, r_meth, r_prop, r_make, r_and, r_or, andT_t, andT_f, orT_t, orT_f, ifK_t, ifK_f, ifE_t, ifE_f, andK_t, andK_f, orK_t, orK_f, L2.start, List.map_cons, List.map_nil, List.length_cons, List.length_nil, List.replicate_succ, List.replicate_zero, List.cons_append, List.nil_append, List.getElem?_cons_succ, List.getElem?_cons_zero, List.set_cons_succ, List.set_cons_zero, Nat.reduceAdd, Nat.reduceSub, Nat.zero_add, decide_true, decide_false, Bool.not_true, Bool.not_false, if_true, if_false, rEq, rNe, scal_ii, scal_ss, scal_bb, scal_is, scal_si, scal_ns, scal_ni, scal_in, scal_sn, scal_nn, rI, rI0, rU, rIxLH, rIxTH, rLenH, rLenTH, rSetL, rCatN, rTupOfN, rLstOfN, rSlLN, rSlTN, CDiv, CPow, CMul, CDivW, upd_same, at0, at1, at2, at3, at4, at5, at6, at7, at8, at9, at10, at11, at12, at13, ix3_0, ix3_1, ix3_2, V.int.injEq, V.bl.injEq, V.str.injEq, V.ref.injEq, Option.some.injEq, HO.lst.injEq, HO.tup.injEq, HO.ins.injEq, List.cons.injEq, and_true, true_and, exists_eq_left, exists_eq_left', exists_and_left, exists_eq', exists_eq, and_assoc, N_place_of]
  by_cases hn : ns = []
  · subst hn
    try simp only [cxK, r_var, r_c, r_seq, r_next, r_break, r_cont, r_drop, r_ret, r_retN, r_if, r_ife, r_asg, r_name, r_op, r_un, r_nil, r_cons, r_lst2, r_tup2, r_lc, r_for, r_ilist, r_itup, r_istr, r_irng1, r_irng2, r_ienum, r_ienumS, wipe, r_cb, r_test, r_b, r_not, r_notV, r_andV, r_orV, r_isN, r_notN, r_m1, r_m0, r_fld, sFld, putF, r_par, r_sub, r_gtup, r_gnil, r_gcons, r_sl, r_nopart, r_part, r_bm, r_bm0, r_chain, r_call, r_callK, r_meth, r_prop, r_make, r_and, r_or, andT_t, andT_f, orT_t, orT_f, ifK_t, ifK_f, ifE_t, ifE_f, andK_t, andK_f, orK_t, orK_f, L2.start, List.map_cons, List.map_nil, List.length_cons, List.length_nil, List.replicate_succ, List.replicate_zero, List.cons_append, List.nil_append, List.getElem?_cons_succ, List.getElem?_cons_zero, List.set_cons_succ, List.set_cons_zero, Nat.reduceAdd, Nat.reduceSub, Nat.zero_add, decide_true, decide_false, Bool.not_true, Bool.not_false, if_true, if_false, rEq, rNe, scal_ii, scal_ss, scal_bb, scal_is, scal_si, scal_ns, scal_ni, scal_in, scal_sn, scal_nn, rI, rI0, rU, rIxLH, rIxTH, rLenH, rLenTH, rSetL, rCatN, rTupOfN, rLstOfN, rSlLN, rSlTN, CDiv, CPow, CMul, CDivW, upd_same, at0, at1, at2, at3, at4, at5, at6, at7, at8, at9, at10, at11, at12, at13, ix3_0, ix3_1, ix3_2, V.int.injEq, V.bl.injEq, V.str.injEq, V.ref.injEq, Option.some.injEq, HO.lst.injEq, HO.tup.injEq, HO.ins.injEq, List.cons.injEq, and_true, true_and, exists_eq_left, exists_eq_left', exists_and_left, exists_eq', exists_eq, and_assoc, N_place_of]
    exact q H1 n1.same
  · try simp only [cxK, r_var, r_c, r_seq, r_next, r_break, r_cont, r_drop, r_ret, r_retN, r_if, r_ife, r_asg, r_name, r_op, r_un, r_nil, r_cons, r_lst2, r_tup2, r_lc, r_for, r_ilist, r_itup, r_istr, r_irng1, r_irng2, r_ienum, r_ienumS, wipe, r_cb, r_test, r_b, r_not, r_notV, r_andV, r_orV, r_isN, r_notN, r_m1, r_m0, r_fld, sFld, putF, r_par, r_sub, r_gtup, r_gnil, r_gcons, r_sl, r_nopart, r_part, r_bm, r_bm0, r_chain, r_call, r_callK, r_meth, r_prop, r_make, r_and, r_or, andT_t, andT_f, orT_t, orT_f, ifK_t, ifK_f, ifE_t, ifE_f, andK_t, andK_f, orK_t, orK_f, L2.start, List.map_cons, List.map_nil, List.length_cons, List.length_nil, List.replicate_succ, List.replicate_zero, List.cons_append, List.nil_append, List.getElem?_cons_succ, List.getElem?_cons_zero, List.set_cons_succ, List.set_cons_zero, Nat.reduceAdd, Nat.reduceSub, Nat.zero_add, decide_true, decide_false, Bool.not_true, Bool.not_false, if_true, if_false, rEq, rNe, scal_ii, scal_ss, scal_bb, scal_is, scal_si, scal_ns, scal_ni, scal_in, scal_sn, scal_nn, rI, rI0, rU, rIxLH, rIxTH, rLenH, rLenTH, rSetL, rCatN, rTupOfN, rLstOfN, rSlLN, rSlTN, CDiv, CPow, CMul, CDivW, upd_same, at0, at1, at2, at3, at4, at5, at6, at7, at8, at9, at10, at11, at12, at13, ix3_0, ix3_1, ix3_2, V.int.injEq, V.bl.injEq, V.str.injEq, V.ref.injEq, Option.some.injEq, HO.lst.injEq, HO.tup.injEq, HO.ins.injEq, List.cons.injEq, and_true, true_and, exists_eq_left, exists_eq_left', exists_and_left, exists_eq', exists_eq, and_assoc, N_place_of, hn]
    refine ⟨⟨_, SqT.of ht1⟩, ?_⟩
    refine lcK_mapT ht1 (by have := hN.1; simp; omega) (fun v => match v with | .str n => .str ("/" ++ n) | v => v) ?_ ?_
    · intro i x H2 k hx sm hk
      rw [List.getElem?_map] at hx
      obtain ⟨z, hz, rfl⟩ := Option.map_eq_some_iff.mp hx
      have := (hN.2 z (List.mem_of_getElem? hz)).2
      try simp only [cxK, r_var, r_c, r_seq, r_next, r_break, r_cont, r_drop, r_ret, r_retN, r_if, r_ife, r_asg, r_name, r_op, r_un, r_nil, r_cons, r_lst2, r_tup2, r_lc, r_for, r_ilist, r_itup, r_istr, r_irng1, r_irng2, r_ienum, r_ienumS, wipe, r_cb, r_test, r_b, r_not, r_notV, r_andV, r_orV, r_isN, r_notN, r_m1, r_m0, r_fld, sFld, putF, r_par, r_sub, r_gtup, r_gnil, r_gcons, r_sl, r_nopart, r_part, r_bm, r_bm0, r_chain, r_call, r_callK, r_meth, r_prop, r_make, r_and, r_or, andT_t, andT_f, orT_t, orT_f, ifK_t, ifK_f, ifE_t, ifE_f, andK_t, andK_f, orK_t, orK_f, L2.start, List.map_cons, List.map_nil, List.length_cons, List.length_nil, List.replicate_succ, List.replicate_zero, List.cons_append, List.nil_append, List.getElem?_cons_succ, List.getElem?_cons_zero, List.set_cons_succ, List.set_cons_zero, Nat.reduceAdd, Nat.reduceSub, Nat.zero_add, decide_true, decide_false, Bool.not_true, Bool.not_false, if_true, if_false, rEq, rNe, scal_ii, scal_ss, scal_bb, scal_is, scal_si, scal_ns, scal_ni, scal_in, scal_sn, scal_nn, rI, rI0, rU, rIxLH, rIxTH, rLenH, rLenTH, rSetL, rCatN, rTupOfN, rLstOfN, rSlLN, rSlTN, CDiv, CPow, CMul, CDivW, upd_same, at0, at1, at2, at3, at4, at5, at6, at7, at8, at9, at10, at11, at12, at13, ix3_0, ix3_1, ix3_2, V.int.injEq, V.bl.injEq, V.str.injEq, V.ref.injEq, Option.some.injEq, HO.lst.injEq, HO.tup.injEq, HO.ins.injEq, List.cons.injEq, and_true, true_and, exists_eq_left, exists_eq_left', exists_and_left, exists_eq', exists_eq, and_assoc, N_place_of]
      refine ⟨fits ?_, hk H2 same_refl⟩
      have e : (PySem.Str.ofString "/").length = 1 := by decide
      omega
    · intro D H2 sm nD hD
      refine ⟨D, rfl, ns.map fun n => (PySem.Str.ofString "/") ++ n, Or.inl (SqL.of (by rw [hD, List.map_map, List.map_map] <;> rfl)), glue_fits hN, ?_⟩
      have z := q H2 (same_trans n1.same sm)
      unfold textOf at z
      rw [if_neg hn] at z
      exact z
/-- the parts of a name at its last point -/
def partsOf (z : Str) : Str × Str := if 0 < Txt.rfind z "." ∧ Txt.rfind z "." < (z.length : Int) - 1 then (cutS z none (some (Txt.rfind z ".")), cutS z (some (Txt.rfind z ".")) none) else (z, "")
def spParts : Sp := fun vs H Q _ => ∃ z : Str, vs = [.str z] ∧ z.length ≤ 16000000 ∧ ∀ H' t, Same H H' → H' t = some (.tup [.str (partsOf z).1, .str (partsOf z).2]) → Q (.ref t) H'
theorem ok_name_parts (T : Tx fa fn K mg) : Fn P w K mg base 1 (aG "name_parts" K) [] spParts := by
  obtain ⟨fd, F⟩ := F_name_parts T
  refine fn_all F sc_name_parts (fun vs H Q E h => ?_) (b_name_parts F) (fun cdv A outer s H vs Q E hr h => ⟨_, (pss_cons (ps_set (i := 1) sc_name_parts.nd rfl (Or.inl rfl) (pe_bm PySem.F.plainAttrs_str PySem.F.slot_str_rfind PySem.F.type_str_rfind mt_rfind (pv 0) (pa_cons pe_str pa_nil)))
 (pss_one (ps_ret (pe_ifExp (pt_chain op_lt op_lt pe_int (pv 1) (pe_op op_sub (pe_callB call_len_str (by rfl) (T.free (T.c.fact 0 (f := fFree "len") rfl)) (by decide +kernel) (pa_cons (pv 0) pa_nil)) pe_int)) (pe_tup (pa_cons (pe_slice sl_str (pv 0) po_none (po_some (pv 1))) (pa_cons (pe_slice sl_str (pv 0) (po_some (pv 1)) po_none) pa_nil))) (pe_tup (pa_cons (pv 0) (pa_cons pe_str pa_nil))))))), ?_⟩)
  · first | (obtain ⟨_, e, _⟩ := h; subst e; rfl) | (obtain ⟨_, _, e, _⟩ := h; subst e; rfl) | (obtain ⟨_, _, _, e, _⟩ := h; subst e; rfl) | (obtain ⟨_, _, _, _, e, _⟩ := h; subst e; rfl) | (obtain ⟨_, _, _, _, _, e, _⟩ := h; subst e; rfl) | (obtain ⟨_, _, _, _, _, _, e, _⟩ := h; subst e; rfl) | (obtain ⟨_, _, _, _, _, _, _, e, _⟩ := h; subst e; rfl) | (obtain ⟨_, _, _, _, _, _, _, _, e, _⟩ := h; subst e; rfl) | (obtain ⟨_, _, _, _, _, _, _, _, _, e, _⟩ := h; subst e; rfl) | (obtain ⟨_, _, _, _, _, _, _, _, _, _, e, _⟩ := h; subst e; rfl) | (obtain ⟨_, _, _, _, _, _, _, _, _, _, _, e, _⟩ := h; subst e; rfl)
  obtain ⟨z, rfl, hz, q⟩ := h
  try simp only [cxK, r_var, r_c, r_seq, r_next, r_break, r_cont, r_drop, r_ret, r_retN, r_if, r_ife, r_asg, r_name, r_op, r_un, r_nil, r_cons, r_lst2, r_tup2, r_lc, r_for, r_ilist, r_itup, r_istr, r_irng1, r_irng2, r_ienum, r_ienumS, wipe, r_cb, r_test, r_b, r_not, r_notV, r_andV, r_orV, r_isN, r_notN, r_m1, r_m0, r_fld, sFld, putF, r_par, r_sub, r_gtup, r_gnil, r_gcons, r_sl, r_nopart, r_part, r_bm, r_bm0, r_chain, r_call, r_callK, r_meth, r_prop, r_make, r_and, r_or, andT_t, andT_f, orT_t, orT_f, ifK_t, ifK_f, ifE_t, ifE_f, andK_t, andK_f, orK_t, orK_f, L2.start, List.map_cons, List.map_nil, List.length_cons, List.length_nil, List.replicate_succ, List.replicate_zero, List.cons_append, List.nil_append, List.getElem?_cons_succ, List.getElem?_cons_zero, List.set_cons_succ, List.set_cons_zero, Nat.reduceAdd, Nat.reduceSub, Nat.zero_add, decide_true, decide_false, Bool.not_true, Bool.not_false, if_true, if_false, rEq, rNe, scal_ii, scal_ss, scal_bb, scal_is, scal_si, scal_ns, scal_ni, scal_in, scal_sn, scal_nn, rI, rI0, rU, rIxLH, rIxTH, rLenH, rLenTH, rSetL, rCatN, rTupOfN, rLstOfN, rSlLN, rSlTN, CDiv, CPow, CMul, CDivW, upd_same, at0, at1, at2, at3, at4, at5, at6, at7, at8, at9, at10, at11, at12, at13, ix3_0, ix3_1, ix3_2, V.int.injEq, V.bl.injEq, V.str.injEq, V.ref.injEq, Option.some.injEq, HO.lst.injEq, HO.tup.injEq, HO.ins.injEq, List.cons.injEq, and_true, true_and, exists_eq_left, exists_eq_left', exists_and_left, exists_eq', exists_eq, and_assoc, N_name_parts]
  refine ⟨rfl, ?_⟩
  by_cases h1 : 0 < Txt.rfind z "."
  · try simp only [cxK, r_var, r_c, r_seq, r_next, r_break, r_cont, r_drop, r_ret, r_retN, r_if, r_ife, r_asg, r_name, r_op, r_un, r_nil, r_cons, r_lst2, r_tup2, r_lc, r_for, r_ilist, r_itup, r_istr, r_irng1, r_irng2, r_ienum, r_ienumS, wipe, r_cb, r_test, r_b, r_not, r_notV, r_andV, r_orV, r_isN, r_notN, r_m1, r_m0, r_fld, sFld, putF, r_par, r_sub, r_gtup, r_gnil, r_gcons, r_sl, r_nopart, r_part, r_bm, r_bm0, r_chain, r_call, r_callK, r_meth, r_prop, r_make, r_and, r_or, andT_t, andT_f, orT_t, orT_f, ifK_t, ifK_f, ifE_t, ifE_f, andK_t, andK_f, orK_t, orK_f, L2.start, List.map_cons, List.map_nil, List.length_cons, List.length_nil, List.replicate_succ, List.replicate_zero, List.cons_append, List.nil_append, List.getElem?_cons_succ, List.getElem?_cons_zero, List.set_cons_succ, List.set_cons_zero, Nat.reduceAdd, Nat.reduceSub, Nat.zero_add, decide_true, decide_false, Bool.not_true, Bool.not_false, if_true, if_false, rEq, rNe, scal_ii, scal_ss, scal_bb, scal_is, scal_si, scal_ns, scal_ni, scal_in, scal_sn, scal_nn, rI, rI0, rU, rIxLH, rIxTH, rLenH, rLenTH, rSetL, rCatN, rTupOfN, rLstOfN, rSlLN, rSlTN, CDiv, CPow, CMul, CDivW, upd_same, at0, at1, at2, at3, at4, at5, at6, at7, at8, at9, at10, at11, at12, at13, ix3_0, ix3_1, ix3_2, V.int.injEq, V.bl.injEq, V.str.injEq, V.ref.injEq, Option.some.injEq, HO.lst.injEq, HO.tup.injEq, HO.ins.injEq, List.cons.injEq, and_true, true_and, exists_eq_left, exists_eq_left', exists_and_left, exists_eq', exists_eq, and_assoc, N_name_parts, h1]
    refine ⟨fits (by omega), ?_⟩
    by_cases h2 : Txt.rfind z "." < (z.length : Int) - 1
    · try simp only [cxK, r_var, r_c, r_seq, r_next, r_break, r_cont, r_drop, r_ret, r_retN, r_if, r_ife, r_asg, r_name, r_op, r_un, r_nil, r_cons, r_lst2, r_tup2, r_lc, r_for, r_ilist, r_itup, r_istr, r_irng1, r_irng2, r_ienum, r_ienumS, wipe, r_cb, r_test, r_b, r_not, r_notV, r_andV, r_orV, r_isN, r_notN, r_m1, r_m0, r_fld, sFld, putF, r_par, r_sub, r_gtup, r_gnil, r_gcons, r_sl, r_nopart, r_part, r_bm, r_bm0, r_chain, r_call, r_callK, r_meth, r_prop, r_make, r_and, r_or, andT_t, andT_f, orT_t, orT_f, ifK_t, ifK_f, ifE_t, ifE_f, andK_t, andK_f, orK_t, orK_f, L2.start, List.map_cons, List.map_nil, List.length_cons, List.length_nil, List.replicate_succ, List.replicate_zero, List.cons_append, List.nil_append, List.getElem?_cons_succ, List.getElem?_cons_zero, List.set_cons_succ, List.set_cons_zero, Nat.reduceAdd, Nat.reduceSub, Nat.zero_add, decide_true, decide_false, Bool.not_true, Bool.not_false, if_true, if_false, rEq, rNe, scal_ii, scal_ss, scal_bb, scal_is, scal_si, scal_ns, scal_ni, scal_in, scal_sn, scal_nn, rI, rI0, rU, rIxLH, rIxTH, rLenH, rLenTH, rSetL, rCatN, rTupOfN, rLstOfN, rSlLN, rSlTN, CDiv, CPow, CMul, CDivW, upd_same, at0, at1, at2, at3, at4, at5, at6, at7, at8, at9, at10, at11, at12, at13, ix3_0, ix3_1, ix3_2, V.int.injEq, V.bl.injEq, V.str.injEq, V.ref.injEq, Option.some.injEq, HO.lst.injEq, HO.tup.injEq, HO.ins.injEq, List.cons.injEq, and_true, true_and, exists_eq_left, exists_eq_left', exists_and_left, exists_eq', exists_eq, and_assoc, N_name_parts, h2]
      refine ⟨z, rfl, fits (by omega), z, rfl, fits (by omega), fits (by decide), fun p H1 n1 => q H1 p n1.same ?_⟩
      have e : partsOf z = (cutS z none (some (Txt.rfind z ".")), cutS z (some (Txt.rfind z ".")) none) := if_pos ⟨h1, h2⟩
      rw [e]
      exact n1.at_
    · try simp only [cxK, r_var, r_c, r_seq, r_next, r_break, r_cont, r_drop, r_ret, r_retN, r_if, r_ife, r_asg, r_name, r_op, r_un, r_nil, r_cons, r_lst2, r_tup2, r_lc, r_for, r_ilist, r_itup, r_istr, r_irng1, r_irng2, r_ienum, r_ienumS, wipe, r_cb, r_test, r_b, r_not, r_notV, r_andV, r_orV, r_isN, r_notN, r_m1, r_m0, r_fld, sFld, putF, r_par, r_sub, r_gtup, r_gnil, r_gcons, r_sl, r_nopart, r_part, r_bm, r_bm0, r_chain, r_call, r_callK, r_meth, r_prop, r_make, r_and, r_or, andT_t, andT_f, orT_t, orT_f, ifK_t, ifK_f, ifE_t, ifE_f, andK_t, andK_f, orK_t, orK_f, L2.start, List.map_cons, List.map_nil, List.length_cons, List.length_nil, List.replicate_succ, List.replicate_zero, List.cons_append, List.nil_append, List.getElem?_cons_succ, List.getElem?_cons_zero, List.set_cons_succ, List.set_cons_zero, Nat.reduceAdd, Nat.reduceSub, Nat.zero_add, decide_true, decide_false, Bool.not_true, Bool.not_false, if_true, if_false, rEq, rNe, scal_ii, scal_ss, scal_bb, scal_is, scal_si, scal_ns, scal_ni, scal_in, scal_sn, scal_nn, rI, rI0, rU, rIxLH, rIxTH, rLenH, rLenTH, rSetL, rCatN, rTupOfN, rLstOfN, rSlLN, rSlTN, CDiv, CPow, CMul, CDivW, upd_same, at0, at1, at2, at3, at4, at5, at6, at7, at8, at9, at10, at11, at12, at13, ix3_0, ix3_1, ix3_2, V.int.injEq, V.bl.injEq, V.str.injEq, V.ref.injEq, Option.some.injEq, HO.lst.injEq, HO.tup.injEq, HO.ins.injEq, List.cons.injEq, and_true, true_and, exists_eq_left, exists_eq_left', exists_and_left, exists_eq', exists_eq, and_assoc, N_name_parts, h2]
      refine ⟨fits (by decide), fun p H1 n1 => q H1 p n1.same ?_⟩
      have e : partsOf z = (z, PySem.Str.ofString "") := if_neg fun h => h2 h.2
      rw [e]
      exact n1.at_
  · try simp only [cxK, r_var, r_c, r_seq, r_next, r_break, r_cont, r_drop, r_ret, r_retN, r_if, r_ife, r_asg, r_name, r_op, r_un, r_nil, r_cons, r_lst2, r_tup2, r_lc, r_for, r_ilist, r_itup, r_istr, r_irng1, r_irng2, r_ienum, r_ienumS, wipe, r_cb, r_test, r_b, r_not, r_notV, r_andV, r_orV, r_isN, r_notN, r_m1, r_m0, r_fld, sFld, putF, r_par, r_sub, r_gtup, r_gnil, r_gcons, r_sl, r_nopart, r_part, r_bm, r_bm0, r_chain, r_call, r_callK, r_meth, r_prop, r_make, r_and, r_or, andT_t, andT_f, orT_t, orT_f, ifK_t, ifK_f, ifE_t, ifE_f, andK_t, andK_f, orK_t, orK_f, L2.start, List.map_cons, List.map_nil, List.length_cons, List.length_nil, List.replicate_succ, List.replicate_zero, List.cons_append, List.nil_append, List.getElem?_cons_succ, List.getElem?_cons_zero, List.set_cons_succ, List.set_cons_zero, Nat.reduceAdd, Nat.reduceSub, Nat.zero_add, decide_true, decide_false, Bool.not_true, Bool.not_false, if_true, if_false, rEq, rNe, scal_ii, scal_ss, scal_bb, scal_is, scal_si, scal_ns, scal_ni, scal_in, scal_sn, scal_nn, rI, rI0, rU, rIxLH, rIxTH, rLenH, rLenTH, rSetL, rCatN, rTupOfN, rLstOfN, rSlLN, rSlTN, CDiv, CPow, CMul, CDivW, upd_same, at0, at1, at2, at3, at4, at5, at6, at7, at8, at9, at10, at11, at12, at13, ix3_0, ix3_1, ix3_2, V.int.injEq, V.bl.injEq, V.str.injEq, V.ref.injEq, Option.some.injEq, HO.lst.injEq, HO.tup.injEq, HO.ins.injEq, List.cons.injEq, and_true, true_and, exists_eq_left, exists_eq_left', exists_and_left, exists_eq', exists_eq, and_assoc, N_name_parts, h1]
    refine ⟨fits (by decide), fun p H1 n1 => q H1 p n1.same ?_⟩
    have e : partsOf z = (z, PySem.Str.ofString "") := if_neg fun h => h1 h.1
    rw [e]
    exact n1.at_
/-- a path of names at p -/
def IsPath (K : PySem.W.Frag) (H : Hp) (p : Addr) (ns : List Str) : Prop := ∃ dx t, H p = some (.ins (ga K "Path") dx [("names", .ref t)]) ∧ H t = some (.tup (ns.map V.str))
theorem IsPath.same {K : PySem.W.Frag} {H H' : Hp} {p : Addr} {ns : List Str} (h : IsPath K H p ns) (s : Same H H') : IsPath K H' p ns := let ⟨dx, t, a, b⟩ := h; ⟨dx, t, s _ _ a, s _ _ b⟩
theorem IsPath.oth {K : PySem.W.Frag} {H H' : Hp} {p a : Addr} {xs : List V} {ns : List Str} (h : IsPath K H p ns) (s : Oth a H H') (ha : H a = some (.lst xs)) : IsPath K H' p ns := by
  obtain ⟨dx, t, h1, h2⟩ := h
  refine ⟨dx, t, s _ _ (fun e => ?_) h1, s _ _ (fun e => ?_) h2⟩
  · subst e
    rw [ha] at h1
    cases h1
  · subst e
    rw [ha] at h2
    cases h2
theorem isNm_fits {z : Str} (h : isNm z = true) : z.length ≤ 12 ∧ PyData.strOk z = true ∧ 1 ≤ z.length := by
  unfold isNm at h
  simp only [Bool.and_eq_true, decide_eq_true_eq] at h
  obtain ⟨⟨⟨h1, h2⟩, _⟩, h3⟩ := h
  refine ⟨h2, ?_, h1⟩
  rw [ok_list]
  rw [List.all_eq_true] at h3 ⊢
  intro c hc
  have q := of_decide_eq_true (h3 c hc)
  have all : (sgns.all fun c => decide (c < 0x110000)) = true := by decide +kernel
  exact (List.all_eq_true.mp all) c q
def spInit (K : PySem.W.Frag) : Sp := fun vs H Q _ => ∃ (p t dx : Addr) (ns : List Str), vs = [.ref p, .ref t] ∧ H p = some (.ins (ga K "Path") dx []) ∧ H t = some (.tup (ns.map V.str)) ∧ ns.length ≤ 12 ∧ (∀ x ∈ ns, isNm x = true) ∧
  ∀ H', Same H H' → Q .non (upd H' p (.ins (ga K "Path") dx [("names", .ref t)]))
theorem ok_Path_init (T : Tx fa fn K mg) : Fn P w K mg base 2 (aM "Path" "__init__" K) [] (fun vs H Q E => ∃ ws rest, vs = ws ++ rest ∧ ws.length = 1 ∧ rest.length ≤ sizeLine ∧ ∀ t, H t = Option.none → spInit K (ws ++ [V.ref t]) (upd H t (.tup rest)) Q E) := by
  obtain ⟨fd, F⟩ := F_Path_init T
  refine fn_var (ps := ["self"]) (pv := "names") F sc_Path_init (v_Path_init F) (fun cdv A outer s H vs Q E hr h => ⟨_, (pss_cons (ps_if (pt_not (pt_val (pe_callB (cr_all rfl) (by rfl) (T.free (T.c.fact 1 (f := fFree "all") rfl)) (by decide +kernel) (pa_cons (pe_lc (own := [("name", 2)]) (g := gName 2) (tt := tYes) rfl sc_Path_init.nd (pi_tup (pv 1)) (blkOk_by (own := [("name", 2)]) (N := N_Path_init) (sc := defScope s_Path_init) (by decide +kernel)) (fun _ _ _ _ _ => (pg_name (i := 2) sc_Path_init.nd rfl (Or.inl rfl))) (fun _ _ _ _ _ => pts_nil) (fun _ _ _ _ _ => (pe_fn (ok_is_name T) (hr.mono (by decide)) rfl (g_is_name T) (k_is_name T) passL (pa_cons (pv 2) pa_nil)))) pa_nil))))
 (pss_one (ps_never))
 pss_nil)
 (pss_cons (ps_if (pt_cmpR op_gt (pe_callB call_len_th (by rfl) (T.free (T.c.fact 0 (f := fFree "len") rfl)) (by decide +kernel) (pa_cons (pv 1) pa_nil)) (pe_gint rfl (T.int (T.c.fact 6 (f := fInt "MAX_NAMES" (12)) rfl))) (nomark _))
 (pss_one (ps_never))
 pss_nil)
 (pss_one (ps_fld (pv 0) (pv 1) rfl)))), ?_⟩)
  obtain ⟨p, t, dx, ns, rfl, hp, ht, hl, hN, q⟩ := h
  try simp only [cxK, r_var, r_c, r_seq, r_next, r_break, r_cont, r_drop, r_ret, r_retN, r_if, r_ife, r_asg, r_name, r_op, r_un, r_nil, r_cons, r_lst2, r_tup2, r_lc, r_for, r_ilist, r_itup, r_istr, r_irng1, r_irng2, r_ienum, r_ienumS, wipe, r_cb, r_test, r_b, r_not, r_notV, r_andV, r_orV, r_isN, r_notN, r_m1, r_m0, r_fld, sFld, putF, r_par, r_sub, r_gtup, r_gnil, r_gcons, r_sl, r_nopart, r_part, r_bm, r_bm0, r_chain, r_call, r_callK, r_meth, r_prop, r_make, r_and, r_or, andT_t, andT_f, orT_t, orT_f, ifK_t, ifK_f, ifE_t, ifE_f, andK_t, andK_f, orK_t, orK_f, L2.start, List.map_cons, List.map_nil, List.length_cons, List.length_nil, List.replicate_succ, List.replicate_zero, List.cons_append, List.nil_append, List.getElem?_cons_succ, List.getElem?_cons_zero, List.set_cons_succ, List.set_cons_zero, Nat.reduceAdd, Nat.reduceSub, Nat.zero_add, decide_true, decide_false, Bool.not_true, Bool.not_false, if_true, if_false, rEq, rNe, scal_ii, scal_ss, scal_bb, scal_is, scal_si, scal_ns, scal_ni, scal_in, scal_sn, scal_nn, rI, rI0, rU, rIxLH, rIxTH, rLenH, rLenTH, rSetL, rCatN, rTupOfN, rLstOfN, rSlLN, rSlTN, CDiv, CPow, CMul, CDivW, upd_same, at0, at1, at2, at3, at4, at5, at6, at7, at8, at9, at10, at11, at12, at13, ix3_0, ix3_1, ix3_2, V.int.injEq, V.bl.injEq, V.str.injEq, V.ref.injEq, Option.some.injEq, HO.lst.injEq, HO.tup.injEq, HO.ins.injEq, List.cons.injEq, and_true, true_and, exists_eq_left, exists_eq_left', exists_and_left, exists_eq', exists_eq, and_assoc, N_Path_init]
  refine ⟨⟨_, SqT.of ht⟩, lcK_mapT ht (by simp; omega) (fun _ => .bl true) ?_ ?_⟩
  · intro i x H2 k hx sm hk
    rw [List.getElem?_map] at hx
    obtain ⟨z, hz, rfl⟩ := Option.map_eq_some_iff.mp hx
    have hz2 := hN z (List.mem_of_getElem? hz)
    try simp only [cxK, r_var, r_c, r_seq, r_next, r_break, r_cont, r_drop, r_ret, r_retN, r_if, r_ife, r_asg, r_name, r_op, r_un, r_nil, r_cons, r_lst2, r_tup2, r_lc, r_for, r_ilist, r_itup, r_istr, r_irng1, r_irng2, r_ienum, r_ienumS, wipe, r_cb, r_test, r_b, r_not, r_notV, r_andV, r_orV, r_isN, r_notN, r_m1, r_m0, r_fld, sFld, putF, r_par, r_sub, r_gtup, r_gnil, r_gcons, r_sl, r_nopart, r_part, r_bm, r_bm0, r_chain, r_call, r_callK, r_meth, r_prop, r_make, r_and, r_or, andT_t, andT_f, orT_t, orT_f, ifK_t, ifK_f, ifE_t, ifE_f, andK_t, andK_f, orK_t, orK_f, L2.start, List.map_cons, List.map_nil, List.length_cons, List.length_nil, List.replicate_succ, List.replicate_zero, List.cons_append, List.nil_append, List.getElem?_cons_succ, List.getElem?_cons_zero, List.set_cons_succ, List.set_cons_zero, Nat.reduceAdd, Nat.reduceSub, Nat.zero_add, decide_true, decide_false, Bool.not_true, Bool.not_false, if_true, if_false, rEq, rNe, scal_ii, scal_ss, scal_bb, scal_is, scal_si, scal_ns, scal_ni, scal_in, scal_sn, scal_nn, rI, rI0, rU, rIxLH, rIxTH, rLenH, rLenTH, rSetL, rCatN, rTupOfN, rLstOfN, rSlLN, rSlTN, CDiv, CPow, CMul, CDivW, upd_same, at0, at1, at2, at3, at4, at5, at6, at7, at8, at9, at10, at11, at12, at13, ix3_0, ix3_1, ix3_2, V.int.injEq, V.bl.injEq, V.str.injEq, V.ref.injEq, Option.some.injEq, HO.lst.injEq, HO.tup.injEq, HO.ins.injEq, List.cons.injEq, and_true, true_and, exists_eq_left, exists_eq_left', exists_and_left, exists_eq', exists_eq, and_assoc, N_Path_init]
    refine ⟨z, rfl, by have := (isNm_fits hz2).1; show z.length ≤ 16000000; omega, fun H3 s3 => ?_⟩
    rw [hz2]
    exact hk H3 s3
  · intro D H2 sm nD hD
    refine ⟨D, ns.map fun _ => true, rfl, SqL.of (by rw [hD, List.map_map, List.map_map] <;> rfl), ?_⟩
    have e : (ns.map fun _ => true).all id = true := by simp
    have ht2 := sm _ _ ht
    have hp2 := sm _ _ hp
    rw [e]
    have hl2 : ¬ (12 : Int) < ((ns.map V.str).length : Nat) := by simp; omega
    try simp only [cxK, r_var, r_c, r_seq, r_next, r_break, r_cont, r_drop, r_ret, r_retN, r_if, r_ife, r_asg, r_name, r_op, r_un, r_nil, r_cons, r_lst2, r_tup2, r_lc, r_for, r_ilist, r_itup, r_istr, r_irng1, r_irng2, r_ienum, r_ienumS, wipe, r_cb, r_test, r_b, r_not, r_notV, r_andV, r_orV, r_isN, r_notN, r_m1, r_m0, r_fld, sFld, putF, r_par, r_sub, r_gtup, r_gnil, r_gcons, r_sl, r_nopart, r_part, r_bm, r_bm0, r_chain, r_call, r_callK, r_meth, r_prop, r_make, r_and, r_or, andT_t, andT_f, orT_t, orT_f, ifK_t, ifK_f, ifE_t, ifE_f, andK_t, andK_f, orK_t, orK_f, L2.start, List.map_cons, List.map_nil, List.length_cons, List.length_nil, List.replicate_succ, List.replicate_zero, List.cons_append, List.nil_append, List.getElem?_cons_succ, List.getElem?_cons_zero, List.set_cons_succ, List.set_cons_zero, Nat.reduceAdd, Nat.reduceSub, Nat.zero_add, decide_true, decide_false, Bool.not_true, Bool.not_false, if_true, if_false, rEq, rNe, scal_ii, scal_ss, scal_bb, scal_is, scal_si, scal_ns, scal_ni, scal_in, scal_sn, scal_nn, rI, rI0, rU, rIxLH, rIxTH, rLenH, rLenTH, rSetL, rCatN, rTupOfN, rLstOfN, rSlLN, rSlTN, CDiv, CPow, CMul, CDivW, upd_same, at0, at1, at2, at3, at4, at5, at6, at7, at8, at9, at10, at11, at12, at13, ix3_0, ix3_1, ix3_2, V.int.injEq, V.bl.injEq, V.str.injEq, V.ref.injEq, Option.some.injEq, HO.lst.injEq, HO.tup.injEq, HO.ins.injEq, List.cons.injEq, and_true, true_and, exists_eq_left, exists_eq_left', exists_and_left, exists_eq', exists_eq, and_assoc, N_Path_init, ht2, hp2, hl2]
    exact ⟨(cls_ok (T.c.fact 7 (f := fCls "Path") rfl)), (noat_ok (T.c.fact 8 (f := fNo "Path" "names") rfl)), by decide, q H2 sm⟩
theorem path_made {K : PySem.W.Frag} {H : Hp} {ns : List Str} {Q : VK} {E : XK} (hl : ns.length ≤ 12) (hN : ∀ x ∈ ns, isNm x = true) (q : ∀ p H', Same H H' → IsPath K H' p ns → Q (.ref p) H') :
    ∀ x dx, H x = none → H dx = none → dx ≠ x → ∃ ws rest, (V.ref x :: ns.map V.str) = ws ++ rest ∧ ws.length = 1 ∧ rest.length ≤ sizeLine ∧ ∀ t, (upd (upd H dx (.own x)) x (.ins (ga K "Path") dx [])) t = Option.none →
      spInit K (ws ++ [V.ref t]) (upd (upd (upd H dx (.own x)) x (.ins (ga K "Path") dx [])) t (.tup rest)) (fun v H2 => v = .non ∧ Q (.ref x) H2) E := by
  intro x dx nx ndx ne
  refine ⟨[.ref x], ns.map V.str, rfl, rfl, fits (by simp; omega), fun t nt => ?_⟩
  have tx : x ≠ t := fun e => by
    subst e
    rw [upd_same] at nt
    cases nt
  refine ⟨x, t, dx, ns, rfl, by rw [upd_ne tx]; exact upd_same, upd_same, hl, hN, fun H' s => ⟨rfl, ?_⟩⟩
  have s0 : Same H (upd (upd (upd H dx (.own x)) x (.ins (ga K "Path") dx [])) t (.tup (ns.map V.str))) := same_trans (IsNew.same ⟨ndx, rfl⟩) (same_trans (IsNew.same ⟨by rw [upd_ne (Ne.symm ne)]; exact nx, rfl⟩) (IsNew.same ⟨nt, rfl⟩))
  refine q x _ (same_upd nx (same_trans s0 s)) ⟨dx, t, upd_same, ?_⟩
  rw [upd_ne (Ne.symm tx)]
  exact s _ _ upd_same
theorem path_made2 {K : PySem.W.Frag} {H : Hp} {ns : List Str} {Q : Addr → Hp → Prop} {E : XK} (hl : ns.length ≤ 12) (hN : ∀ x ∈ ns, isNm x = true) (q : ∀ p H', Same H H' → IsPath K H' p ns → Q p H') :
    ∀ x dx, H x = none → H dx = none → dx ≠ x → ∃ ws rest, (V.ref x :: ns.map V.str) = ws ++ rest ∧ ws.length = 1 ∧ rest.length ≤ sizeLine ∧ ∀ t, (upd (upd H dx (.own x)) x (.ins (ga K "Path") dx [])) t = Option.none →
      spInit K (ws ++ [V.ref t]) (upd (upd (upd H dx (.own x)) x (.ins (ga K "Path") dx [])) t (.tup rest)) (fun v H2 => v = .non ∧ Q x H2) E :=
  by
    intro x dx a b c
    obtain ⟨ws, rest, e1, e2, e3, k⟩ := path_made (E := E) (Q := fun v H' => ∃ p, v = .ref p ∧ Q p H') hl hN (fun p H' s h => ⟨p, rfl, q p H' s h⟩) x dx a b c
    refine ⟨ws, rest, e1, e2, e3, fun t nt => ?_⟩
    obtain ⟨p, t', dx', ms, f1, f2, f3, f4, f5, f6⟩ := k t nt
    refine ⟨p, t', dx', ms, f1, f2, f3, f4, f5, fun H' s => ?_⟩
    obtain ⟨g1, y, g2, g3⟩ := f6 H' s
    cases g2
    exact ⟨g1, g3⟩
def lastOf (ns : List Str) : Str := (ns[ns.length - 1]?).getD ""
theorem nms_of {ns : List Str} (hl : ns.length ≤ 12) (hN : ∀ x ∈ ns, isNm x = true) : Nms ns := ⟨by omega, fun x hx => ⟨(isNm_fits (hN x hx)).2.1, by have := (isNm_fits (hN x hx)).1; omega⟩⟩
theorem last_ok {ns : List Str} (h : Nms ns) : PyData.strOk (lastOf ns) = true ∧ (lastOf ns).length ≤ 1000 := by
  unfold lastOf
  cases e : ns[ns.length - 1]? with
  | none => exact ⟨by decide +kernel, by decide +kernel⟩
  | some v => exact h.2 v (List.mem_of_getElem? e)
/-- a property that gives a text -/
def spStr (f : List Str → Str) (K : PySem.W.Frag) : Sp := fun vs H Q _ => ∃ (p : Addr) (ns : List Str), vs = [.ref p] ∧ IsPath K H p ns ∧ Nms ns ∧ ∀ H', Same H H' → Q (.str (f ns)) H'
theorem ok_Path_text (T : Tx fa fn K mg) : Fn P w K mg base 2 (aP "Path" "text" K) [] (spStr textOf K) := by
  obtain ⟨fd, F⟩ := F_Path_text T
  refine fn_all F sc_Path_text (fun vs H Q E h => ?_) (b_Path_text F) (fun cdv A outer s H vs Q E hr h => ⟨_, (pss_one (ps_ret (pe_fn (ok_place_of T) (hr.mono (by decide)) rfl (g_place_of T) (k_place_of T) passD (pa_cons (pe_fld (pv 0) rfl) pa_nil)))), ?_⟩)
  · first | (obtain ⟨_, e, _⟩ := h; subst e; rfl) | (obtain ⟨_, _, e, _⟩ := h; subst e; rfl) | (obtain ⟨_, _, _, e, _⟩ := h; subst e; rfl) | (obtain ⟨_, _, _, _, e, _⟩ := h; subst e; rfl) | (obtain ⟨_, _, _, _, _, e, _⟩ := h; subst e; rfl) | (obtain ⟨_, _, _, _, _, _, e, _⟩ := h; subst e; rfl) | (obtain ⟨_, _, _, _, _, _, _, e, _⟩ := h; subst e; rfl) | (obtain ⟨_, _, _, _, _, _, _, _, e, _⟩ := h; subst e; rfl) | (obtain ⟨_, _, _, _, _, _, _, _, _, e, _⟩ := h; subst e; rfl) | (obtain ⟨_, _, _, _, _, _, _, _, _, _, e, _⟩ := h; subst e; rfl) | (obtain ⟨_, _, _, _, _, _, _, _, _, _, _, e, _⟩ := h; subst e; rfl)
  obtain ⟨p, ns, rfl, ⟨dx, t, hp, ht⟩, hN, q⟩ := h
  try simp only [cxK, r_var, r_c, r_seq, r_next, r_break, r_cont, r_drop, r_ret, r_retN, r_if, r_ife, r_asg, r_name, r_op, r_un, r_nil, r_cons, r_lst2, r_tup2, r_lc, r_for, r_ilist, r_itup, r_istr, r_irng1, r_irng2, r_ienum, r_ienumS, wipe, r_cb, r_test, r_b, r_not, r_notV, r_andV, r_orV, r_isN, r_notN, r_m1, r_m0, r_fld, sFld, putF, r_par, r_sub, r_gtup, r_gnil, r_gcons, r_sl, r_nopart, r_part, r_bm, r_bm0, r_chain, r_call, r_callK, r_meth, r_prop, r_make, r_and, r_or, andT_t, andT_f, orT_t, orT_f, ifK_t, ifK_f, ifE_t, ifE_f, andK_t, andK_f, orK_t, orK_f, L2.start, List.map_cons, List.map_nil, List.length_cons, List.length_nil, List.replicate_succ, List.replicate_zero, List.cons_append, List.nil_append, List.getElem?_cons_succ, List.getElem?_cons_zero, List.set_cons_succ, List.set_cons_zero, Nat.reduceAdd, Nat.reduceSub, Nat.zero_add, decide_true, decide_false, Bool.not_true, Bool.not_false, if_true, if_false, rEq, rNe, scal_ii, scal_ss, scal_bb, scal_is, scal_si, scal_ns, scal_ni, scal_in, scal_sn, scal_nn, rI, rI0, rU, rIxLH, rIxTH, rLenH, rLenTH, rSetL, rCatN, rTupOfN, rLstOfN, rSlLN, rSlTN, CDiv, CPow, CMul, CDivW, upd_same, at0, at1, at2, at3, at4, at5, at6, at7, at8, at9, at10, at11, at12, at13, ix3_0, ix3_1, ix3_2, V.int.injEq, V.bl.injEq, V.str.injEq, V.ref.injEq, Option.some.injEq, HO.lst.injEq, HO.tup.injEq, HO.ins.injEq, List.cons.injEq, and_true, true_and, exists_eq_left, exists_eq_left', exists_and_left, exists_eq', exists_eq, and_assoc, N_Path_text, hp]
  refine ⟨(cls_ok (T.c.fact 7 (f := fCls "Path") rfl)), (noat_ok (T.c.fact 8 (f := fNo "Path" "names") rfl)), _, rfl, t, ns, rfl, ht, hN, q⟩
theorem ok_Path_name (T : Tx fa fn K mg) : Fn P w K mg base 1 (aP "Path" "name" K) [] (spStr lastOf K) := by
  obtain ⟨fd, F⟩ := F_Path_name T
  refine fn_all F sc_Path_name (fun vs H Q E h => ?_) (b_Path_name F) (fun cdv A outer s H vs Q E hr h => ⟨_, (pss_one (ps_ret (pe_ifExp (pt_cmpR (op_neD hr.r.units) (pe_fld (pv 0) rfl) (pe_tup pa_nil) (nomark _)) (pe_ix ix_th (pe_fld (pv 0) rfl) (pe_un un_neg pe_int) (fun _ _ => rfl)) pe_str))), ?_⟩)
  · first | (obtain ⟨_, e, _⟩ := h; subst e; rfl) | (obtain ⟨_, _, e, _⟩ := h; subst e; rfl) | (obtain ⟨_, _, _, e, _⟩ := h; subst e; rfl) | (obtain ⟨_, _, _, _, e, _⟩ := h; subst e; rfl) | (obtain ⟨_, _, _, _, _, e, _⟩ := h; subst e; rfl) | (obtain ⟨_, _, _, _, _, _, e, _⟩ := h; subst e; rfl) | (obtain ⟨_, _, _, _, _, _, _, e, _⟩ := h; subst e; rfl) | (obtain ⟨_, _, _, _, _, _, _, _, e, _⟩ := h; subst e; rfl) | (obtain ⟨_, _, _, _, _, _, _, _, _, e, _⟩ := h; subst e; rfl) | (obtain ⟨_, _, _, _, _, _, _, _, _, _, e, _⟩ := h; subst e; rfl) | (obtain ⟨_, _, _, _, _, _, _, _, _, _, _, e, _⟩ := h; subst e; rfl)
  obtain ⟨p, ns, rfl, ⟨dx, t, hp, ht⟩, hN, q⟩ := h
  try simp only [cxK, r_var, r_c, r_seq, r_next, r_break, r_cont, r_drop, r_ret, r_retN, r_if, r_ife, r_asg, r_name, r_op, r_un, r_nil, r_cons, r_lst2, r_tup2, r_lc, r_for, r_ilist, r_itup, r_istr, r_irng1, r_irng2, r_ienum, r_ienumS, wipe, r_cb, r_test, r_b, r_not, r_notV, r_andV, r_orV, r_isN, r_notN, r_m1, r_m0, r_fld, sFld, putF, r_par, r_sub, r_gtup, r_gnil, r_gcons, r_sl, r_nopart, r_part, r_bm, r_bm0, r_chain, r_call, r_callK, r_meth, r_prop, r_make, r_and, r_or, andT_t, andT_f, orT_t, orT_f, ifK_t, ifK_f, ifE_t, ifE_f, andK_t, andK_f, orK_t, orK_f, L2.start, List.map_cons, List.map_nil, List.length_cons, List.length_nil, List.replicate_succ, List.replicate_zero, List.cons_append, List.nil_append, List.getElem?_cons_succ, List.getElem?_cons_zero, List.set_cons_succ, List.set_cons_zero, Nat.reduceAdd, Nat.reduceSub, Nat.zero_add, decide_true, decide_false, Bool.not_true, Bool.not_false, if_true, if_false, rEq, rNe, scal_ii, scal_ss, scal_bb, scal_is, scal_si, scal_ns, scal_ni, scal_in, scal_sn, scal_nn, rI, rI0, rU, rIxLH, rIxTH, rLenH, rLenTH, rSetL, rCatN, rTupOfN, rLstOfN, rSlLN, rSlTN, CDiv, CPow, CMul, CDivW, upd_same, at0, at1, at2, at3, at4, at5, at6, at7, at8, at9, at10, at11, at12, at13, ix3_0, ix3_1, ix3_2, V.int.injEq, V.bl.injEq, V.str.injEq, V.ref.injEq, Option.some.injEq, HO.lst.injEq, HO.tup.injEq, HO.ins.injEq, List.cons.injEq, and_true, true_and, exists_eq_left, exists_eq_left', exists_and_left, exists_eq', exists_eq, and_assoc, N_Path_name, hp]
  refine ⟨(cls_ok (T.c.fact 7 (f := fCls "Path") rfl)), (noat_ok (T.c.fact 8 (f := fNo "Path" "names") rfl)), _, rfl, fits (by decide), fun l H1 n1 => ?_⟩
  have hp1 := n1.old hp
  have ht1 := n1.old ht
  have he : ([] : List V) = ([] : List Str).map V.str := rfl
  have hl1 := n1.at_
  rw [he] at hl1
  refine neD_strT ht1 hl1 hN.ok (fun _ h => nomatch h) ?_
  try simp only [cxK, r_var, r_c, r_seq, r_next, r_break, r_cont, r_drop, r_ret, r_retN, r_if, r_ife, r_asg, r_name, r_op, r_un, r_nil, r_cons, r_lst2, r_tup2, r_lc, r_for, r_ilist, r_itup, r_istr, r_irng1, r_irng2, r_ienum, r_ienumS, wipe, r_cb, r_test, r_b, r_not, r_notV, r_andV, r_orV, r_isN, r_notN, r_m1, r_m0, r_fld, sFld, putF, r_par, r_sub, r_gtup, r_gnil, r_gcons, r_sl, r_nopart, r_part, r_bm, r_bm0, r_chain, r_call, r_callK, r_meth, r_prop, r_make, r_and, r_or, andT_t, andT_f, orT_t, orT_f, ifK_t, ifK_f, ifE_t, ifE_f, andK_t, andK_f, orK_t, orK_f, L2.start, List.map_cons, List.map_nil, List.length_cons, List.length_nil, List.replicate_succ, List.replicate_zero, List.cons_append, List.nil_append, List.getElem?_cons_succ, List.getElem?_cons_zero, List.set_cons_succ, List.set_cons_zero, Nat.reduceAdd, Nat.reduceSub, Nat.zero_add, decide_true, decide_false, Bool.not_true, Bool.not_false, if_true, if_false, rEq, rNe, scal_ii, scal_ss, scal_bb, scal_is, scal_si, scal_ns, scal_ni, scal_in, scal_sn, scal_nn, rI, rI0, rU, rIxLH, rIxTH, rLenH, rLenTH, rSetL, rCatN, rTupOfN, rLstOfN, rSlLN, rSlTN, CDiv, CPow, CMul, CDivW, upd_same, at0, at1, at2, at3, at4, at5, at6, at7, at8, at9, at10, at11, at12, at13, ix3_0, ix3_1, ix3_2, V.int.injEq, V.bl.injEq, V.str.injEq, V.ref.injEq, Option.some.injEq, HO.lst.injEq, HO.tup.injEq, HO.ins.injEq, List.cons.injEq, and_true, true_and, exists_eq_left, exists_eq_left', exists_and_left, exists_eq', exists_eq, and_assoc, N_Path_name]
  by_cases hn : ns = []
  · subst hn
    try simp only [cxK, r_var, r_c, r_seq, r_next, r_break, r_cont, r_drop, r_ret, r_retN, r_if, r_ife, r_asg, r_name, r_op, r_un, r_nil, r_cons, r_lst2, r_tup2, r_lc, r_for, r_ilist, r_itup, r_istr, r_irng1, r_irng2, r_ienum, r_ienumS, wipe, r_cb, r_test, r_b, r_not, r_notV, r_andV, r_orV, r_isN, r_notN, r_m1, r_m0, r_fld, sFld, putF, r_par, r_sub, r_gtup, r_gnil, r_gcons, r_sl, r_nopart, r_part, r_bm, r_bm0, r_chain, r_call, r_callK, r_meth, r_prop, r_make, r_and, r_or, andT_t, andT_f, orT_t, orT_f, ifK_t, ifK_f, ifE_t, ifE_f, andK_t, andK_f, orK_t, orK_f, L2.start, List.map_cons, List.map_nil, List.length_cons, List.length_nil, List.replicate_succ, List.replicate_zero, List.cons_append, List.nil_append, List.getElem?_cons_succ, List.getElem?_cons_zero, List.set_cons_succ, List.set_cons_zero, Nat.reduceAdd, Nat.reduceSub, Nat.zero_add, decide_true, decide_false, Bool.not_true, Bool.not_false, if_true, if_false, rEq, rNe, scal_ii, scal_ss, scal_bb, scal_is, scal_si, scal_ns, scal_ni, scal_in, scal_sn, scal_nn, rI, rI0, rU, rIxLH, rIxTH, rLenH, rLenTH, rSetL, rCatN, rTupOfN, rLstOfN, rSlLN, rSlTN, CDiv, CPow, CMul, CDivW, upd_same, at0, at1, at2, at3, at4, at5, at6, at7, at8, at9, at10, at11, at12, at13, ix3_0, ix3_1, ix3_2, V.int.injEq, V.bl.injEq, V.str.injEq, V.ref.injEq, Option.some.injEq, HO.lst.injEq, HO.tup.injEq, HO.ins.injEq, List.cons.injEq, and_true, true_and, exists_eq_left, exists_eq_left', exists_and_left, exists_eq', exists_eq, and_assoc, N_Path_name]
    exact q H1 n1.same
  · try simp only [cxK, r_var, r_c, r_seq, r_next, r_break, r_cont, r_drop, r_ret, r_retN, r_if, r_ife, r_asg, r_name, r_op, r_un, r_nil, r_cons, r_lst2, r_tup2, r_lc, r_for, r_ilist, r_itup, r_istr, r_irng1, r_irng2, r_ienum, r_ienumS, wipe, r_cb, r_test, r_b, r_not, r_notV, r_andV, r_orV, r_isN, r_notN, r_m1, r_m0, r_fld, sFld, putF, r_par, r_sub, r_gtup, r_gnil, r_gcons, r_sl, r_nopart, r_part, r_bm, r_bm0, r_chain, r_call, r_callK, r_meth, r_prop, r_make, r_and, r_or, andT_t, andT_f, orT_t, orT_f, ifK_t, ifK_f, ifE_t, ifE_f, andK_t, andK_f, orK_t, orK_f, L2.start, List.map_cons, List.map_nil, List.length_cons, List.length_nil, List.replicate_succ, List.replicate_zero, List.cons_append, List.nil_append, List.getElem?_cons_succ, List.getElem?_cons_zero, List.set_cons_succ, List.set_cons_zero, Nat.reduceAdd, Nat.reduceSub, Nat.zero_add, decide_true, decide_false, Bool.not_true, Bool.not_false, if_true, if_false, rEq, rNe, scal_ii, scal_ss, scal_bb, scal_is, scal_si, scal_ns, scal_ni, scal_in, scal_sn, scal_nn, rI, rI0, rU, rIxLH, rIxTH, rLenH, rLenTH, rSetL, rCatN, rTupOfN, rLstOfN, rSlLN, rSlTN, CDiv, CPow, CMul, CDivW, upd_same, at0, at1, at2, at3, at4, at5, at6, at7, at8, at9, at10, at11, at12, at13, ix3_0, ix3_1, ix3_2, V.int.injEq, V.bl.injEq, V.str.injEq, V.ref.injEq, Option.some.injEq, HO.lst.injEq, HO.tup.injEq, HO.ins.injEq, List.cons.injEq, and_true, true_and, exists_eq_left, exists_eq_left', exists_and_left, exists_eq', exists_eq, and_assoc, N_Path_name, hn, hp1]
    have hl : ns.length - 1 < ns.length := by have := List.length_pos_iff.mpr hn; omega
    have e : ns[ns.length - 1]? = some (lastOf ns) := by
      unfold lastOf
      rw [List.getElem?_eq_getElem hl]
      rfl
    refine ⟨(cls_ok (T.c.fact 7 (f := fCls "Path") rfl)), (noat_ok (T.c.fact 8 (f := fNo "Path" "names") rfl)), V.ref t, rfl, ?_⟩
    try simp only [cxK, r_var, r_c, r_seq, r_next, r_break, r_cont, r_drop, r_ret, r_retN, r_if, r_ife, r_asg, r_name, r_op, r_un, r_nil, r_cons, r_lst2, r_tup2, r_lc, r_for, r_ilist, r_itup, r_istr, r_irng1, r_irng2, r_ienum, r_ienumS, wipe, r_cb, r_test, r_b, r_not, r_notV, r_andV, r_orV, r_isN, r_notN, r_m1, r_m0, r_fld, sFld, putF, r_par, r_sub, r_gtup, r_gnil, r_gcons, r_sl, r_nopart, r_part, r_bm, r_bm0, r_chain, r_call, r_callK, r_meth, r_prop, r_make, r_and, r_or, andT_t, andT_f, orT_t, orT_f, ifK_t, ifK_f, ifE_t, ifE_f, andK_t, andK_f, orK_t, orK_f, L2.start, List.map_cons, List.map_nil, List.length_cons, List.length_nil, List.replicate_succ, List.replicate_zero, List.cons_append, List.nil_append, List.getElem?_cons_succ, List.getElem?_cons_zero, List.set_cons_succ, List.set_cons_zero, Nat.reduceAdd, Nat.reduceSub, Nat.zero_add, decide_true, decide_false, Bool.not_true, Bool.not_false, if_true, if_false, rEq, rNe, scal_ii, scal_ss, scal_bb, scal_is, scal_si, scal_ns, scal_ni, scal_in, scal_sn, scal_nn, rI, rI0, rU, rIxLH, rIxTH, rLenH, rLenTH, rSetL, rCatN, rTupOfN, rLstOfN, rSlLN, rSlTN, CDiv, CPow, CMul, CDivW, upd_same, at0, at1, at2, at3, at4, at5, at6, at7, at8, at9, at10, at11, at12, at13, ix3_0, ix3_1, ix3_2, V.int.injEq, V.bl.injEq, V.str.injEq, V.ref.injEq, Option.some.injEq, HO.lst.injEq, HO.tup.injEq, HO.ins.injEq, List.cons.injEq, and_true, true_and, exists_eq_left, exists_eq_left', exists_and_left, exists_eq', exists_eq, and_assoc, N_Path_name, ht1]
    refine ⟨.str (lastOf ns), atI_last ?_, q H1 n1.same⟩
    rw [List.length_map, List.getElem?_map, e]
    rfl
theorem ok_Path_stem (T : Tx fa fn K mg) : Fn P w K mg base 3 (aP "Path" "stem" K) [] (spStr (fun ns => (partsOf (lastOf ns)).1) K) := by
  obtain ⟨fd, F⟩ := F_Path_stem T
  refine fn_all F sc_Path_stem (fun vs H Q E h => ?_) (b_Path_stem F) (fun cdv A outer s H vs Q E hr h => ⟨_, (pss_one (ps_ret (pe_ix ix_th (pe_fn (ok_name_parts T) (hr.mono (by decide)) rfl (g_name_parts T) (k_name_parts T) passD (pa_cons (pe_pr (pv 0) (cls_ok (T.c.fact 7 (f := fCls "Path") rfl)) (prop_ok (T.c.fact 9 (f := fProp "Path" "name") rfl)) (ok_Path_name T) (hr.mono (by decide)) passL) pa_nil)) pe_int (fun _ _ => rfl)))), ?_⟩)
  · first | (obtain ⟨_, e, _⟩ := h; subst e; rfl) | (obtain ⟨_, _, e, _⟩ := h; subst e; rfl) | (obtain ⟨_, _, _, e, _⟩ := h; subst e; rfl) | (obtain ⟨_, _, _, _, e, _⟩ := h; subst e; rfl) | (obtain ⟨_, _, _, _, _, e, _⟩ := h; subst e; rfl) | (obtain ⟨_, _, _, _, _, _, e, _⟩ := h; subst e; rfl) | (obtain ⟨_, _, _, _, _, _, _, e, _⟩ := h; subst e; rfl) | (obtain ⟨_, _, _, _, _, _, _, _, e, _⟩ := h; subst e; rfl) | (obtain ⟨_, _, _, _, _, _, _, _, _, e, _⟩ := h; subst e; rfl) | (obtain ⟨_, _, _, _, _, _, _, _, _, _, e, _⟩ := h; subst e; rfl) | (obtain ⟨_, _, _, _, _, _, _, _, _, _, _, e, _⟩ := h; subst e; rfl)
  obtain ⟨p, ns, rfl, ⟨dx, t, hp, ht⟩, hN, q⟩ := h
  try simp only [cxK, r_var, r_c, r_seq, r_next, r_break, r_cont, r_drop, r_ret, r_retN, r_if, r_ife, r_asg, r_name, r_op, r_un, r_nil, r_cons, r_lst2, r_tup2, r_lc, r_for, r_ilist, r_itup, r_istr, r_irng1, r_irng2, r_ienum, r_ienumS, wipe, r_cb, r_test, r_b, r_not, r_notV, r_andV, r_orV, r_isN, r_notN, r_m1, r_m0, r_fld, sFld, putF, r_par, r_sub, r_gtup, r_gnil, r_gcons, r_sl, r_nopart, r_part, r_bm, r_bm0, r_chain, r_call, r_callK, r_meth, r_prop, r_make, r_and, r_or, andT_t, andT_f, orT_t, orT_f, ifK_t, ifK_f, ifE_t, ifE_f, andK_t, andK_f, orK_t, orK_f, L2.start, List.map_cons, List.map_nil, List.length_cons, List.length_nil, List.replicate_succ, List.replicate_zero, List.cons_append, List.nil_append, List.getElem?_cons_succ, List.getElem?_cons_zero, List.set_cons_succ, List.set_cons_zero, Nat.reduceAdd, Nat.reduceSub, Nat.zero_add, decide_true, decide_false, Bool.not_true, Bool.not_false, if_true, if_false, rEq, rNe, scal_ii, scal_ss, scal_bb, scal_is, scal_si, scal_ns, scal_ni, scal_in, scal_sn, scal_nn, rI, rI0, rU, rIxLH, rIxTH, rLenH, rLenTH, rSetL, rCatN, rTupOfN, rLstOfN, rSlLN, rSlTN, CDiv, CPow, CMul, CDivW, upd_same, at0, at1, at2, at3, at4, at5, at6, at7, at8, at9, at10, at11, at12, at13, ix3_0, ix3_1, ix3_2, V.int.injEq, V.bl.injEq, V.str.injEq, V.ref.injEq, Option.some.injEq, HO.lst.injEq, HO.tup.injEq, HO.ins.injEq, List.cons.injEq, and_true, true_and, exists_eq_left, exists_eq_left', exists_and_left, exists_eq', exists_eq, and_assoc, N_Path_stem, hp]
  refine ⟨p, ns, rfl, ⟨dx, t, hp, ht⟩, hN, fun H1 s1 => ⟨_, rfl, by have := (last_ok hN).2; omega, fun H2 l s2 hl => ?_⟩⟩
  try simp only [cxK, r_var, r_c, r_seq, r_next, r_break, r_cont, r_drop, r_ret, r_retN, r_if, r_ife, r_asg, r_name, r_op, r_un, r_nil, r_cons, r_lst2, r_tup2, r_lc, r_for, r_ilist, r_itup, r_istr, r_irng1, r_irng2, r_ienum, r_ienumS, wipe, r_cb, r_test, r_b, r_not, r_notV, r_andV, r_orV, r_isN, r_notN, r_m1, r_m0, r_fld, sFld, putF, r_par, r_sub, r_gtup, r_gnil, r_gcons, r_sl, r_nopart, r_part, r_bm, r_bm0, r_chain, r_call, r_callK, r_meth, r_prop, r_make, r_and, r_or, andT_t, andT_f, orT_t, orT_f, ifK_t, ifK_f, ifE_t, ifE_f, andK_t, andK_f, orK_t, orK_f, L2.start, List.map_cons, List.map_nil, List.length_cons, List.length_nil, List.replicate_succ, List.replicate_zero, List.cons_append, List.nil_append, List.getElem?_cons_succ, List.getElem?_cons_zero, List.set_cons_succ, List.set_cons_zero, Nat.reduceAdd, Nat.reduceSub, Nat.zero_add, decide_true, decide_false, Bool.not_true, Bool.not_false, if_true, if_false, rEq, rNe, scal_ii, scal_ss, scal_bb, scal_is, scal_si, scal_ns, scal_ni, scal_in, scal_sn, scal_nn, rI, rI0, rU, rIxLH, rIxTH, rLenH, rLenTH, rSetL, rCatN, rTupOfN, rLstOfN, rSlLN, rSlTN, CDiv, CPow, CMul, CDivW, upd_same, at0, at1, at2, at3, at4, at5, at6, at7, at8, at9, at10, at11, at12, at13, ix3_0, ix3_1, ix3_2, V.int.injEq, V.bl.injEq, V.str.injEq, V.ref.injEq, Option.some.injEq, HO.lst.injEq, HO.tup.injEq, HO.ins.injEq, List.cons.injEq, and_true, true_and, exists_eq_left, exists_eq_left', exists_and_left, exists_eq', exists_eq, and_assoc, N_Path_stem, hl]
  exact q H2 (same_trans s1 s2)
theorem ok_Path_suffix (T : Tx fa fn K mg) : Fn P w K mg base 3 (aP "Path" "suffix" K) [] (spStr (fun ns => (partsOf (lastOf ns)).2) K) := by
  obtain ⟨fd, F⟩ := F_Path_suffix T
  refine fn_all F sc_Path_suffix (fun vs H Q E h => ?_) (b_Path_suffix F) (fun cdv A outer s H vs Q E hr h => ⟨_, (pss_one (ps_ret (pe_ix ix_th (pe_fn (ok_name_parts T) (hr.mono (by decide)) rfl (g_name_parts T) (k_name_parts T) passD (pa_cons (pe_pr (pv 0) (cls_ok (T.c.fact 7 (f := fCls "Path") rfl)) (prop_ok (T.c.fact 9 (f := fProp "Path" "name") rfl)) (ok_Path_name T) (hr.mono (by decide)) passL) pa_nil)) pe_int (fun _ _ => rfl)))), ?_⟩)
  · first | (obtain ⟨_, e, _⟩ := h; subst e; rfl) | (obtain ⟨_, _, e, _⟩ := h; subst e; rfl) | (obtain ⟨_, _, _, e, _⟩ := h; subst e; rfl) | (obtain ⟨_, _, _, _, e, _⟩ := h; subst e; rfl) | (obtain ⟨_, _, _, _, _, e, _⟩ := h; subst e; rfl) | (obtain ⟨_, _, _, _, _, _, e, _⟩ := h; subst e; rfl) | (obtain ⟨_, _, _, _, _, _, _, e, _⟩ := h; subst e; rfl) | (obtain ⟨_, _, _, _, _, _, _, _, e, _⟩ := h; subst e; rfl) | (obtain ⟨_, _, _, _, _, _, _, _, _, e, _⟩ := h; subst e; rfl) | (obtain ⟨_, _, _, _, _, _, _, _, _, _, e, _⟩ := h; subst e; rfl) | (obtain ⟨_, _, _, _, _, _, _, _, _, _, _, e, _⟩ := h; subst e; rfl)
  obtain ⟨p, ns, rfl, ⟨dx, t, hp, ht⟩, hN, q⟩ := h
  try simp only [cxK, r_var, r_c, r_seq, r_next, r_break, r_cont, r_drop, r_ret, r_retN, r_if, r_ife, r_asg, r_name, r_op, r_un, r_nil, r_cons, r_lst2, r_tup2, r_lc, r_for, r_ilist, r_itup, r_istr, r_irng1, r_irng2, r_ienum, r_ienumS, wipe, r_cb, r_test, r_b, r_not, r_notV, r_andV, r_orV, r_isN, r_notN, r_m1, r_m0, r_fld, sFld, putF, r_par, r_sub, r_gtup, r_gnil, r_gcons, r_sl, r_nopart, r_part, r_bm, r_bm0, r_chain, r_call, r_callK, r_meth, r_prop, r_make, r_and, r_or, andT_t, andT_f, orT_t, orT_f, ifK_t, ifK_f, ifE_t, ifE_f, andK_t, andK_f, orK_t, orK_f, L2.start, List.map_cons, List.map_nil, List.length_cons, List.length_nil, List.replicate_succ, List.replicate_zero, List.cons_append, List.nil_append, List.getElem?_cons_succ, List.getElem?_cons_zero, List.set_cons_succ, List.set_cons_zero, Nat.reduceAdd, Nat.reduceSub, Nat.zero_add, decide_true, decide_false, Bool.not_true, Bool.not_false, if_true, if_false, rEq, rNe, scal_ii, scal_ss, scal_bb, scal_is, scal_si, scal_ns, scal_ni, scal_in, scal_sn, scal_nn, rI, rI0, rU, rIxLH, rIxTH, rLenH, rLenTH, rSetL, rCatN, rTupOfN, rLstOfN, rSlLN, rSlTN, CDiv, CPow, CMul, CDivW, upd_same, at0, at1, at2, at3, at4, at5, at6, at7, at8, at9, at10, at11, at12, at13, ix3_0, ix3_1, ix3_2, V.int.injEq, V.bl.injEq, V.str.injEq, V.ref.injEq, Option.some.injEq, HO.lst.injEq, HO.tup.injEq, HO.ins.injEq, List.cons.injEq, and_true, true_and, exists_eq_left, exists_eq_left', exists_and_left, exists_eq', exists_eq, and_assoc, N_Path_suffix, hp]
  refine ⟨p, ns, rfl, ⟨dx, t, hp, ht⟩, hN, fun H1 s1 => ⟨_, rfl, by have := (last_ok hN).2; omega, fun H2 l s2 hl => ?_⟩⟩
  try simp only [cxK, r_var, r_c, r_seq, r_next, r_break, r_cont, r_drop, r_ret, r_retN, r_if, r_ife, r_asg, r_name, r_op, r_un, r_nil, r_cons, r_lst2, r_tup2, r_lc, r_for, r_ilist, r_itup, r_istr, r_irng1, r_irng2, r_ienum, r_ienumS, wipe, r_cb, r_test, r_b, r_not, r_notV, r_andV, r_orV, r_isN, r_notN, r_m1, r_m0, r_fld, sFld, putF, r_par, r_sub, r_gtup, r_gnil, r_gcons, r_sl, r_nopart, r_part, r_bm, r_bm0, r_chain, r_call, r_callK, r_meth, r_prop, r_make, r_and, r_or, andT_t, andT_f, orT_t, orT_f, ifK_t, ifK_f, ifE_t, ifE_f, andK_t, andK_f, orK_t, orK_f, L2.start, List.map_cons, List.map_nil, List.length_cons, List.length_nil, List.replicate_succ, List.replicate_zero, List.cons_append, List.nil_append, List.getElem?_cons_succ, List.getElem?_cons_zero, List.set_cons_succ, List.set_cons_zero, Nat.reduceAdd, Nat.reduceSub, Nat.zero_add, decide_true, decide_false, Bool.not_true, Bool.not_false, if_true, if_false, rEq, rNe, scal_ii, scal_ss, scal_bb, scal_is, scal_si, scal_ns, scal_ni, scal_in, scal_sn, scal_nn, rI, rI0, rU, rIxLH, rIxTH, rLenH, rLenTH, rSetL, rCatN, rTupOfN, rLstOfN, rSlLN, rSlTN, CDiv, CPow, CMul, CDivW, upd_same, at0, at1, at2, at3, at4, at5, at6, at7, at8, at9, at10, at11, at12, at13, ix3_0, ix3_1, ix3_2, V.int.injEq, V.bl.injEq, V.str.injEq, V.ref.injEq, Option.some.injEq, HO.lst.injEq, HO.tup.injEq, HO.ins.injEq, List.cons.injEq, and_true, true_and, exists_eq_left, exists_eq_left', exists_and_left, exists_eq', exists_eq, and_assoc, N_Path_suffix, hl]
  exact q H2 (same_trans s1 s2)
def spParent (K : PySem.W.Frag) : Sp := fun vs H Q _ => ∃ (p : Addr) (ns : List Str), vs = [.ref p] ∧ IsPath K H p ns ∧ ns.length ≤ 13 ∧ (∀ x ∈ ns, isNm x = true) ∧ ∀ H' p', Same H H' → IsPath K H' p' (ns.take (ns.length - 1)) → Q (.ref p') H'
theorem ok_Path_parent (T : Tx fa fn K mg) : Fn P w K mg base 4 (aP "Path" "parent" K) [] (spParent K) := by
  obtain ⟨fd, F⟩ := F_Path_parent T
  refine fn_all F sc_Path_parent (fun vs H Q E h => ?_) (b_Path_parent F) (fun cdv A outer s H vs Q E hr h => ⟨_, (pss_cons (ps_set (i := 1) sc_Path_parent.nd rfl (Or.inl rfl) (pe_slice sl_tup_n (pe_fld (pv 0) rfl) po_none (po_some (pe_un un_neg pe_int))))
 (pss_one (ps_ret (pe_mkS (mkr_ok (T.c.fact 10 (f := fMkr "Path") rfl)) (ok_Path_init T) (hr.mono (by decide)) rfl (T.glo (T.c.fact 11 (f := fGlo "Path") rfl)) passD (pv 1))))), ?_⟩)
  · first | (obtain ⟨_, e, _⟩ := h; subst e; rfl) | (obtain ⟨_, _, e, _⟩ := h; subst e; rfl) | (obtain ⟨_, _, _, e, _⟩ := h; subst e; rfl) | (obtain ⟨_, _, _, _, e, _⟩ := h; subst e; rfl) | (obtain ⟨_, _, _, _, _, e, _⟩ := h; subst e; rfl) | (obtain ⟨_, _, _, _, _, _, e, _⟩ := h; subst e; rfl) | (obtain ⟨_, _, _, _, _, _, _, e, _⟩ := h; subst e; rfl) | (obtain ⟨_, _, _, _, _, _, _, _, e, _⟩ := h; subst e; rfl) | (obtain ⟨_, _, _, _, _, _, _, _, _, e, _⟩ := h; subst e; rfl) | (obtain ⟨_, _, _, _, _, _, _, _, _, _, e, _⟩ := h; subst e; rfl) | (obtain ⟨_, _, _, _, _, _, _, _, _, _, _, e, _⟩ := h; subst e; rfl)
  obtain ⟨p, ns, rfl, ⟨dx, t, hp, ht⟩, hl, hN, q⟩ := h
  try simp only [cxK, r_var, r_c, r_seq, r_next, r_break, r_cont, r_drop, r_ret, r_retN, r_if, r_ife, r_asg, r_name, r_op, r_un, r_nil, r_cons, r_lst2, r_tup2, r_lc, r_for, r_ilist, r_itup, r_istr, r_irng1, r_irng2, r_ienum, r_ienumS, wipe, r_cb, r_test, r_b, r_not, r_notV, r_andV, r_orV, r_isN, r_notN, r_m1, r_m0, r_fld, sFld, putF, r_par, r_sub, r_gtup, r_gnil, r_gcons, r_sl, r_nopart, r_part, r_bm, r_bm0, r_chain, r_call, r_callK, r_meth, r_prop, r_make, r_and, r_or, andT_t, andT_f, orT_t, orT_f, ifK_t, ifK_f, ifE_t, ifE_f, andK_t, andK_f, orK_t, orK_f, L2.start, List.map_cons, List.map_nil, List.length_cons, List.length_nil, List.replicate_succ, List.replicate_zero, List.cons_append, List.nil_append, List.getElem?_cons_succ, List.getElem?_cons_zero, List.set_cons_succ, List.set_cons_zero, Nat.reduceAdd, Nat.reduceSub, Nat.zero_add, decide_true, decide_false, Bool.not_true, Bool.not_false, if_true, if_false, rEq, rNe, scal_ii, scal_ss, scal_bb, scal_is, scal_si, scal_ns, scal_ni, scal_in, scal_sn, scal_nn, rI, rI0, rU, rIxLH, rIxTH, rLenH, rLenTH, rSetL, rCatN, rTupOfN, rLstOfN, rSlLN, rSlTN, CDiv, CPow, CMul, CDivW, upd_same, at0, at1, at2, at3, at4, at5, at6, at7, at8, at9, at10, at11, at12, at13, ix3_0, ix3_1, ix3_2, V.int.injEq, V.bl.injEq, V.str.injEq, V.ref.injEq, Option.some.injEq, HO.lst.injEq, HO.tup.injEq, HO.ins.injEq, List.cons.injEq, and_true, true_and, exists_eq_left, exists_eq_left', exists_and_left, exists_eq', exists_eq, and_assoc, N_Path_parent, hp]
  refine ⟨(cls_ok (T.c.fact 7 (f := fCls "Path") rfl)), (noat_ok (T.c.fact 8 (f := fNo "Path" "names") rfl)), _, rfl, ?_⟩
  try simp only [cxK, r_var, r_c, r_seq, r_next, r_break, r_cont, r_drop, r_ret, r_retN, r_if, r_ife, r_asg, r_name, r_op, r_un, r_nil, r_cons, r_lst2, r_tup2, r_lc, r_for, r_ilist, r_itup, r_istr, r_irng1, r_irng2, r_ienum, r_ienumS, wipe, r_cb, r_test, r_b, r_not, r_notV, r_andV, r_orV, r_isN, r_notN, r_m1, r_m0, r_fld, sFld, putF, r_par, r_sub, r_gtup, r_gnil, r_gcons, r_sl, r_nopart, r_part, r_bm, r_bm0, r_chain, r_call, r_callK, r_meth, r_prop, r_make, r_and, r_or, andT_t, andT_f, orT_t, orT_f, ifK_t, ifK_f, ifE_t, ifE_f, andK_t, andK_f, orK_t, orK_f, L2.start, List.map_cons, List.map_nil, List.length_cons, List.length_nil, List.replicate_succ, List.replicate_zero, List.cons_append, List.nil_append, List.getElem?_cons_succ, List.getElem?_cons_zero, List.set_cons_succ, List.set_cons_zero, Nat.reduceAdd, Nat.reduceSub, Nat.zero_add, decide_true, decide_false, Bool.not_true, Bool.not_false, if_true, if_false, rEq, rNe, scal_ii, scal_ss, scal_bb, scal_is, scal_si, scal_ns, scal_ni, scal_in, scal_sn, scal_nn, rI, rI0, rU, rIxLH, rIxTH, rLenH, rLenTH, rSetL, rCatN, rTupOfN, rLstOfN, rSlLN, rSlTN, CDiv, CPow, CMul, CDivW, upd_same, at0, at1, at2, at3, at4, at5, at6, at7, at8, at9, at10, at11, at12, at13, ix3_0, ix3_1, ix3_2, V.int.injEq, V.bl.injEq, V.str.injEq, V.ref.injEq, Option.some.injEq, HO.lst.injEq, HO.tup.injEq, HO.ins.injEq, List.cons.injEq, and_true, true_and, exists_eq_left, exists_eq_left', exists_and_left, exists_eq', exists_eq, and_assoc, N_Path_parent, ht]
  intro l H1 s1 h1
  rw [cut_front, List.length_map, ← List.map_take] at h1
  exact ⟨_, Or.inl (SqT.of h1), path_made (by rw [List.length_take]; omega) (fun x hx => hN x (List.mem_of_mem_take hx)) fun p' H3 s3 hp3 => q H3 p' (same_trans s1 s3) hp3⟩

end

section
variable {P : Program} {w : World} {K : PySem.W.Frag} {mg : Str → Option Value} {base : Heap}
theorem Src.upd {H : Hp} {a D : Addr} {j : Int} {o : HO} (h : Src H a j) (n : H D = none ∨ a ≠ D) : Src (upd H D o) a j := by
  obtain ⟨c, d, e, z⟩ := h
  refine ⟨c, d, ?_, z⟩
  rw [upd_ne (fun q => ?_)]
  · exact e
  · rcases n with n | n
    · subst q
      rw [n] at e
      cases e
    · exact n q
theorem Src.ne {H : Hp} {a p : Addr} {j : Int} (h : Src H a j) (n : H p = none) : a ≠ p := fun e => by
  obtain ⟨c, d, q, z⟩ := h
  subst e
  rw [n] at q
  cases q
theorem Src.same {H H' : Hp} {a : Addr} {j : Int} (h : Src H a j) (s : Same H H') : Src H' a j := let ⟨c, d, e, z⟩ := h; ⟨c, d, s _ _ e, z⟩
def spGood : Sp := fun vs H Q _ => ∃ (a : Addr) (j : Int), vs = [.ref a] ∧ Src H a j ∧ j < 1099511627776 ∧ ∀ (z : Str) (j' : Int) (H' : Hp), isNm z = true → j ≤ j' → j' ≤ j + 1 → Oth a H H' → Src H' a j' → Q (.str z) H'
def goods : List Str := ["a", "b", "ab", "x.y", ".a", "a.", "a.b.c", "-", "_", "0", "abcdefghijkl", "a..b", "...", "..a", "a_1"]
def goodsN : List Str := ([[97], [98], [97, 98], [120, 46, 121], [46, 97], [97, 46], [97, 46, 98, 46, 99], [45], [95], [48], [97, 98, 99, 100, 101, 102, 103, 104, 105, 106, 107, 108], [97, 46, 46, 98], [46, 46, 46], [46, 46, 97], [97, 95, 49]] : List (List Nat)).map fun l => ⟨l.toArray⟩
theorem goods_eq : goods = goodsN := by decide +kernel
theorem goods_nm : ∀ x ∈ goods, isNm x = true := by
  rw [goods_eq]
  decide +kernel
theorem goods_len : (goods.map V.str).length = 15 := rfl
theorem ok_law_good_name (T : Tx fa fn K mg) : Fn P w K mg base 3 (aG "_law_good_name" K) [] spGood := by
  obtain ⟨fd, F⟩ := F_law_good_name T
  refine fn_all F sc_law_good_name (fun vs H Q E h => ?_) (b_law_good_name F) (fun cdv A outer s H vs Q E hr h => ⟨_, (pss_cons (ps_set (i := 1) sc_law_good_name.nd rfl (Or.inl rfl) (pe_lst (pa_cons pe_str (pa_cons pe_str (pa_cons pe_str (pa_cons pe_str (pa_cons pe_str (pa_cons pe_str (pa_cons pe_str (pa_cons pe_str (pa_cons pe_str (pa_cons pe_str (pa_cons pe_str (pa_cons pe_str (pa_cons pe_str (pa_cons pe_str (pa_cons pe_str pa_nil)))))))))))))))))
 (pss_one (ps_ret (pe_fn (ok_law_pick T) (hr.mono (by decide)) rfl (g_law_pick T) (k_law_pick T) passD (pa_cons (pv 0) (pa_cons (pv 1) pa_nil)))))), ?_⟩)
  · first | (obtain ⟨_, e, _⟩ := h; subst e; rfl) | (obtain ⟨_, _, e, _⟩ := h; subst e; rfl) | (obtain ⟨_, _, _, e, _⟩ := h; subst e; rfl) | (obtain ⟨_, _, _, _, e, _⟩ := h; subst e; rfl) | (obtain ⟨_, _, _, _, _, e, _⟩ := h; subst e; rfl) | (obtain ⟨_, _, _, _, _, _, e, _⟩ := h; subst e; rfl) | (obtain ⟨_, _, _, _, _, _, _, e, _⟩ := h; subst e; rfl) | (obtain ⟨_, _, _, _, _, _, _, _, e, _⟩ := h; subst e; rfl) | (obtain ⟨_, _, _, _, _, _, _, _, _, e, _⟩ := h; subst e; rfl) | (obtain ⟨_, _, _, _, _, _, _, _, _, _, e, _⟩ := h; subst e; rfl) | (obtain ⟨_, _, _, _, _, _, _, _, _, _, _, e, _⟩ := h; subst e; rfl)
  obtain ⟨a, j, rfl, hs, j1, q⟩ := h
  try simp only [cxK, r_var, r_c, r_seq, r_next, r_break, r_cont, r_drop, r_ret, r_retN, r_if, r_ife, r_asg, r_name, r_op, r_un, r_nil, r_cons, r_lst2, r_tup2, r_lc, r_for, r_ilist, r_itup, r_istr, r_irng1, r_irng2, r_ienum, r_ienumS, wipe, r_cb, r_test, r_b, r_not, r_notV, r_andV, r_orV, r_isN, r_notN, r_m1, r_m0, r_fld, sFld, putF, r_par, r_sub, r_gtup, r_gnil, r_gcons, r_sl, r_nopart, r_part, r_bm, r_bm0, r_chain, r_call, r_callK, r_meth, r_prop, r_make, r_and, r_or, andT_t, andT_f, orT_t, orT_f, ifK_t, ifK_f, ifE_t, ifE_f, andK_t, andK_f, orK_t, orK_f, L2.start, List.map_cons, List.map_nil, List.length_cons, List.length_nil, List.replicate_succ, List.replicate_zero, List.cons_append, List.nil_append, List.getElem?_cons_succ, List.getElem?_cons_zero, List.set_cons_succ, List.set_cons_zero, Nat.reduceAdd, Nat.reduceSub, Nat.zero_add, decide_true, decide_false, Bool.not_true, Bool.not_false, if_true, if_false, rEq, rNe, scal_ii, scal_ss, scal_bb, scal_is, scal_si, scal_ns, scal_ni, scal_in, scal_sn, scal_nn, rI, rI0, rU, rIxLH, rIxTH, rLenH, rLenTH, rSetL, rCatN, rTupOfN, rLstOfN, rSlLN, rSlTN, CDiv, CPow, CMul, CDivW, upd_same, at0, at1, at2, at3, at4, at5, at6, at7, at8, at9, at10, at11, at12, at13, ix3_0, ix3_1, ix3_2, V.int.injEq, V.bl.injEq, V.str.injEq, V.ref.injEq, Option.some.injEq, HO.lst.injEq, HO.tup.injEq, HO.ins.injEq, List.cons.injEq, and_true, true_and, exists_eq_left, exists_eq_left', exists_and_left, exists_eq', exists_eq, and_assoc, N_law_good_name]
  refine ⟨fits (by decide), fun l H1 n1 => ?_⟩
  try simp only [cxK, r_var, r_c, r_seq, r_next, r_break, r_cont, r_drop, r_ret, r_retN, r_if, r_ife, r_asg, r_name, r_op, r_un, r_nil, r_cons, r_lst2, r_tup2, r_lc, r_for, r_ilist, r_itup, r_istr, r_irng1, r_irng2, r_ienum, r_ienumS, wipe, r_cb, r_test, r_b, r_not, r_notV, r_andV, r_orV, r_isN, r_notN, r_m1, r_m0, r_fld, sFld, putF, r_par, r_sub, r_gtup, r_gnil, r_gcons, r_sl, r_nopart, r_part, r_bm, r_bm0, r_chain, r_call, r_callK, r_meth, r_prop, r_make, r_and, r_or, andT_t, andT_f, orT_t, orT_f, ifK_t, ifK_f, ifE_t, ifE_f, andK_t, andK_f, orK_t, orK_f, L2.start, List.map_cons, List.map_nil, List.length_cons, List.length_nil, List.replicate_succ, List.replicate_zero, List.cons_append, List.nil_append, List.getElem?_cons_succ, List.getElem?_cons_zero, List.set_cons_succ, List.set_cons_zero, Nat.reduceAdd, Nat.reduceSub, Nat.zero_add, decide_true, decide_false, Bool.not_true, Bool.not_false, if_true, if_false, rEq, rNe, scal_ii, scal_ss, scal_bb, scal_is, scal_si, scal_ns, scal_ni, scal_in, scal_sn, scal_nn, rI, rI0, rU, rIxLH, rIxTH, rLenH, rLenTH, rSetL, rCatN, rTupOfN, rLstOfN, rSlLN, rSlTN, CDiv, CPow, CMul, CDivW, upd_same, at0, at1, at2, at3, at4, at5, at6, at7, at8, at9, at10, at11, at12, at13, ix3_0, ix3_1, ix3_2, V.int.injEq, V.bl.injEq, V.str.injEq, V.ref.injEq, Option.some.injEq, HO.lst.injEq, HO.tup.injEq, HO.ins.injEq, List.cons.injEq, and_true, true_and, exists_eq_left, exists_eq_left', exists_and_left, exists_eq', exists_eq, and_assoc, N_law_good_name]
  have hat : H1 l = some (.lst (goods.map V.str)) := n1.at_
  refine ⟨a, l, j, goods.map V.str, rfl, fun e => hs.ne n1.1 e.symm, hat, by rw [goods_len]; omega, by rw [goods_len]; omega, hs.same n1.same, j1, fun i v j' H' hi j2 j3 ho hs' => ?_⟩
  rw [List.getElem?_map] at hi
  obtain ⟨z, hz, rfl⟩ := Option.map_eq_some_iff.mp hi
  exact q z j' H' (goods_nm z (List.mem_of_getElem? hz)) j2 j3 (Oth.trans (Oth.of n1.same) ho) hs'
def spRow : Sp := fun vs H Q _ => ∃ (a : Addr) (m j : Int), vs = [.ref a, .int m] ∧ 0 ≤ m ∧ m ≤ 1000 ∧ Src H a j ∧ j < 1000000000000 ∧
  ∀ (ns : List Str) (p : Addr) (j' : Int) (H' : Hp), (ns.length : Int) ≤ m → (∀ x ∈ ns, isNm x = true) → H p = none → j ≤ j' → j' ≤ j + 1 + m → Oth a H H' → Src H' a j' → H' p = some (.lst (ns.map V.str)) → Q (.ref p) H'
def RowPv (H : Hp) (a : Addr) (j : Int) (D : Addr) (i : Nat) (acc : List V) (H2 : Hp) : Prop := ∃ (ns : List Str) (j2 : Int), acc = ns.map V.str ∧ (∀ x ∈ ns, isNm x = true) ∧ j ≤ j2 ∧ j2 ≤ j + 1 + i ∧ Oth a H H2 ∧ Src H2 a j2 ∧ H D = none
theorem ok_law_row (T : Tx fa fn K mg) : Fn P w K mg base 4 (aG "_law_row" K) [] spRow := by
  obtain ⟨fd, F⟩ := F_law_row T
  refine fn_all F sc_law_row (fun vs H Q E h => ?_) (b_law_row F) (fun cdv A outer s H vs Q E hr h => ⟨_, (pss_one (ps_ret (pe_lc (own := [("_law_turn", 2)]) (g := gName 2) (tt := tYes) rfl sc_law_row.nd (pi_range1 (by rfl) (T.free (T.c.fact 12 (f := fFree "range") rfl)) (pa_cons (pe_fn (ok_law_next T) (hr.mono (by decide)) rfl (g_law_next T) (k_law_next T) passD (pa_cons (pv 0) (pa_cons (pe_op op_add (pv 1) pe_int) pa_nil))) pa_nil)) (blkOk_by (own := [("_law_turn", 2)]) (N := N_law_row) (sc := defScope s_law_row) (by decide +kernel)) (fun _ _ _ _ _ => (pg_name (i := 2) sc_law_row.nd rfl (Or.inl rfl))) (fun _ _ _ _ _ => pts_nil) (fun _ _ _ _ _ => (pe_fn (ok_law_good_name T) (hr.mono (by decide)) rfl (g_law_good_name T) (k_law_good_name T) passL (pa_cons (pv 0) pa_nil)))))), ?_⟩)
  · first | (obtain ⟨_, e, _⟩ := h; subst e; rfl) | (obtain ⟨_, _, e, _⟩ := h; subst e; rfl) | (obtain ⟨_, _, _, e, _⟩ := h; subst e; rfl) | (obtain ⟨_, _, _, _, e, _⟩ := h; subst e; rfl) | (obtain ⟨_, _, _, _, _, e, _⟩ := h; subst e; rfl) | (obtain ⟨_, _, _, _, _, _, e, _⟩ := h; subst e; rfl) | (obtain ⟨_, _, _, _, _, _, _, e, _⟩ := h; subst e; rfl) | (obtain ⟨_, _, _, _, _, _, _, _, e, _⟩ := h; subst e; rfl) | (obtain ⟨_, _, _, _, _, _, _, _, _, e, _⟩ := h; subst e; rfl) | (obtain ⟨_, _, _, _, _, _, _, _, _, _, e, _⟩ := h; subst e; rfl) | (obtain ⟨_, _, _, _, _, _, _, _, _, _, _, e, _⟩ := h; subst e; rfl)
  obtain ⟨a, m, j, rfl, m0, m1, hs, j1, q⟩ := h
  try simp only [cxK, r_var, r_c, r_seq, r_next, r_break, r_cont, r_drop, r_ret, r_retN, r_if, r_ife, r_asg, r_name, r_op, r_un, r_nil, r_cons, r_lst2, r_tup2, r_lc, r_for, r_ilist, r_itup, r_istr, r_irng1, r_irng2, r_ienum, r_ienumS, wipe, r_cb, r_test, r_b, r_not, r_notV, r_andV, r_orV, r_isN, r_notN, r_m1, r_m0, r_fld, sFld, putF, r_par, r_sub, r_gtup, r_gnil, r_gcons, r_sl, r_nopart, r_part, r_bm, r_bm0, r_chain, r_call, r_callK, r_meth, r_prop, r_make, r_and, r_or, andT_t, andT_f, orT_t, orT_f, ifK_t, ifK_f, ifE_t, ifE_f, andK_t, andK_f, orK_t, orK_f, L2.start, List.map_cons, List.map_nil, List.length_cons, List.length_nil, List.replicate_succ, List.replicate_zero, List.cons_append, List.nil_append, List.getElem?_cons_succ, List.getElem?_cons_zero, List.set_cons_succ, List.set_cons_zero, Nat.reduceAdd, Nat.reduceSub, Nat.zero_add, decide_true, decide_false, Bool.not_true, Bool.not_false, if_true, if_false, rEq, rNe, scal_ii, scal_ss, scal_bb, scal_is, scal_si, scal_ns, scal_ni, scal_in, scal_sn, scal_nn, rI, rI0, rU, rIxLH, rIxTH, rLenH, rLenTH, rSetL, rCatN, rTupOfN, rLstOfN, rSlLN, rSlTN, CDiv, CPow, CMul, CDivW, upd_same, at0, at1, at2, at3, at4, at5, at6, at7, at8, at9, at10, at11, at12, at13, ix3_0, ix3_1, ix3_2, V.int.injEq, V.bl.injEq, V.str.injEq, V.ref.injEq, Option.some.injEq, HO.lst.injEq, HO.tup.injEq, HO.ins.injEq, List.cons.injEq, and_true, true_and, exists_eq_left, exists_eq_left', exists_and_left, exists_eq', exists_eq, and_assoc, N_law_row]
  refine ⟨a, m + 1, j, rfl, by omega, by omega, hs, by omega, fun r j' H' r0 r1 j2 j3 ho hs' => ?_⟩
  try simp only [cxK, r_var, r_c, r_seq, r_next, r_break, r_cont, r_drop, r_ret, r_retN, r_if, r_ife, r_asg, r_name, r_op, r_un, r_nil, r_cons, r_lst2, r_tup2, r_lc, r_for, r_ilist, r_itup, r_istr, r_irng1, r_irng2, r_ienum, r_ienumS, wipe, r_cb, r_test, r_b, r_not, r_notV, r_andV, r_orV, r_isN, r_notN, r_m1, r_m0, r_fld, sFld, putF, r_par, r_sub, r_gtup, r_gnil, r_gcons, r_sl, r_nopart, r_part, r_bm, r_bm0, r_chain, r_call, r_callK, r_meth, r_prop, r_make, r_and, r_or, andT_t, andT_f, orT_t, orT_f, ifK_t, ifK_f, ifE_t, ifE_f, andK_t, andK_f, orK_t, orK_f, L2.start, List.map_cons, List.map_nil, List.length_cons, List.length_nil, List.replicate_succ, List.replicate_zero, List.cons_append, List.nil_append, List.getElem?_cons_succ, List.getElem?_cons_zero, List.set_cons_succ, List.set_cons_zero, Nat.reduceAdd, Nat.reduceSub, Nat.zero_add, decide_true, decide_false, Bool.not_true, Bool.not_false, if_true, if_false, rEq, rNe, scal_ii, scal_ss, scal_bb, scal_is, scal_si, scal_ns, scal_ni, scal_in, scal_sn, scal_nn, rI, rI0, rU, rIxLH, rIxTH, rLenH, rLenTH, rSetL, rCatN, rTupOfN, rLstOfN, rSlLN, rSlTN, CDiv, CPow, CMul, CDivW, upd_same, at0, at1, at2, at3, at4, at5, at6, at7, at8, at9, at10, at11, at12, at13, ix3_0, ix3_1, ix3_2, V.int.injEq, V.bl.injEq, V.str.injEq, V.ref.injEq, Option.some.injEq, HO.lst.injEq, HO.tup.injEq, HO.ins.injEq, List.cons.injEq, and_true, true_and, exists_eq_left, exists_eq_left', exists_and_left, exists_eq', exists_eq, and_assoc, N_law_row]
  refine ⟨by omega, by omega, ?_⟩
  refine lcK_rng (RowPv H a j) ?_ ?_ ?_
  · intro D H0 n0
    refine ⟨[], j', rfl, (fun _ h => nomatch h), j2, by simpa using j3, Oth.new ho n0, hs'.same n0.same, ?_⟩
    cases e : H D with
    | none => rfl
    | some o =>
      have hD := ho D o (fun z => hs'.ne n0.1 z.symm) e
      rw [n0.1] at hD
      cases hD
  · rintro D i acc H2 nD hi hD hl ⟨ns, j4, rfl, hN, j5, j6, ho2, hs2, nD0⟩
    try simp only [cxK, r_var, r_c, r_seq, r_next, r_break, r_cont, r_drop, r_ret, r_retN, r_if, r_ife, r_asg, r_name, r_op, r_un, r_nil, r_cons, r_lst2, r_tup2, r_lc, r_for, r_ilist, r_itup, r_istr, r_irng1, r_irng2, r_ienum, r_ienumS, wipe, r_cb, r_test, r_b, r_not, r_notV, r_andV, r_orV, r_isN, r_notN, r_m1, r_m0, r_fld, sFld, putF, r_par, r_sub, r_gtup, r_gnil, r_gcons, r_sl, r_nopart, r_part, r_bm, r_bm0, r_chain, r_call, r_callK, r_meth, r_prop, r_make, r_and, r_or, andT_t, andT_f, orT_t, orT_f, ifK_t, ifK_f, ifE_t, ifE_f, andK_t, andK_f, orK_t, orK_f, L2.start, List.map_cons, List.map_nil, List.length_cons, List.length_nil, List.replicate_succ, List.replicate_zero, List.cons_append, List.nil_append, List.getElem?_cons_succ, List.getElem?_cons_zero, List.set_cons_succ, List.set_cons_zero, Nat.reduceAdd, Nat.reduceSub, Nat.zero_add, decide_true, decide_false, Bool.not_true, Bool.not_false, if_true, if_false, rEq, rNe, scal_ii, scal_ss, scal_bb, scal_is, scal_si, scal_ns, scal_ni, scal_in, scal_sn, scal_nn, rI, rI0, rU, rIxLH, rIxTH, rLenH, rLenTH, rSetL, rCatN, rTupOfN, rLstOfN, rSlLN, rSlTN, CDiv, CPow, CMul, CDivW, upd_same, at0, at1, at2, at3, at4, at5, at6, at7, at8, at9, at10, at11, at12, at13, ix3_0, ix3_1, ix3_2, V.int.injEq, V.bl.injEq, V.str.injEq, V.ref.injEq, Option.some.injEq, HO.lst.injEq, HO.tup.injEq, HO.ins.injEq, List.cons.injEq, and_true, true_and, exists_eq_left, exists_eq_left', exists_and_left, exists_eq', exists_eq, and_assoc, N_law_row]
    have aD : D ≠ a := fun e => by
      obtain ⟨c, d, e2, _⟩ := hs2
      rw [e, e2] at hD
      cases ns with
      | nil => cases hD
      | cons x r => cases hD
    refine ⟨a, j4, rfl, hs2, by omega, fun z j7 H3 hz j8 j9 ho3 hs3 => ?_⟩
    have hD3 := ho3 D _ aD hD
    refine addK_mk hD3 hl (by omega) ⟨ns ++ [z], j7, by simp, fun x hx => ?_, by omega, by omega, Oth.fresh (Oth.trans ho2 ho3) nD0, hs3.upd (.inr (Ne.symm aD)), nD0⟩
    rcases List.mem_append.mp hx with h | h
    · exact hN x h
    · simp at h
      subst h
      exact hz
  · rintro D acc H2 nD hD hl ⟨ns, j4, rfl, hN, j5, j6, ho2, hs2, nD0⟩
    have hl2 : ns.length = r.toNat := by simpa using hl
    exact q ns D j4 H2 (by omega) hN nD0 (by omega) (by omega) ho2 hs2 hD
def spOfRow (K : PySem.W.Frag) : Sp := fun vs H Q _ => ∃ (l : Addr) (ns : List Str), vs = [.ref l] ∧ H l = some (.lst (ns.map V.str)) ∧ ns.length ≤ 12 ∧ (∀ x ∈ ns, isNm x = true) ∧ ∀ p H', Same H H' → IsPath K H' p ns → Q (.ref p) H'
theorem ok_law_path_of_row (T : Tx fa fn K mg) : Fn P w K mg base 4 (aG "_law_path_of_row" K) [] (spOfRow K) := by
  obtain ⟨fd, F⟩ := F_law_path_of_row T
  refine fn_all F sc_law_path_of_row (fun vs H Q E h => ?_) (b_law_path_of_row F) (fun cdv A outer s H vs Q E hr h => ⟨_, (pss_cons (ps_if (pt_cmpR op_lt (pe_callB call_len_lh (by rfl) (T.free (T.c.fact 0 (f := fFree "len") rfl)) (by decide +kernel) (pa_cons (pv 0) pa_nil)) pe_int (nomark _))
 (pss_one (ps_ret (pe_ifExp (pt_cmpR op_eq (pe_callB call_len_lh (by rfl) (T.free (T.c.fact 0 (f := fFree "len") rfl)) (by decide +kernel) (pa_cons (pv 0) pa_nil)) pe_int (nomark _)) (pe_mk0 (mkr_ok (T.c.fact 10 (f := fMkr "Path") rfl)) (ok_Path_init T) (hr.mono (by decide)) rfl (T.glo (T.c.fact 11 (f := fGlo "Path") rfl)) passD) (pe_ifExp (pt_cmpR op_eq (pe_callB call_len_lh (by rfl) (T.free (T.c.fact 0 (f := fFree "len") rfl)) (by decide +kernel) (pa_cons (pv 0) pa_nil)) pe_int (nomark _)) (pe_mk (mkr_ok (T.c.fact 10 (f := fMkr "Path") rfl)) (ok_Path_init T) (hr.mono (by decide)) rfl (T.glo (T.c.fact 11 (f := fGlo "Path") rfl)) passD (pa_cons (pe_ix ix_lh (pv 0) pe_int (fun _ _ => rfl)) pa_nil)) (pe_mk (mkr_ok (T.c.fact 10 (f := fMkr "Path") rfl)) (ok_Path_init T) (hr.mono (by decide)) rfl (T.glo (T.c.fact 11 (f := fGlo "Path") rfl)) passD (pa_cons (pe_ix ix_lh (pv 0) pe_int (fun _ _ => rfl)) (pa_cons (pe_ix ix_lh (pv 0) pe_int (fun _ _ => rfl)) pa_nil)))))))
 pss_nil)
 (pss_cons (ps_if (pt_cmpR op_lt (pe_callB call_len_lh (by rfl) (T.free (T.c.fact 0 (f := fFree "len") rfl)) (by decide +kernel) (pa_cons (pv 0) pa_nil)) pe_int (nomark _))
 (pss_one (ps_ret (pe_ifExp (pt_cmpR op_eq (pe_callB call_len_lh (by rfl) (T.free (T.c.fact 0 (f := fFree "len") rfl)) (by decide +kernel) (pa_cons (pv 0) pa_nil)) pe_int (nomark _)) (pe_mk (mkr_ok (T.c.fact 10 (f := fMkr "Path") rfl)) (ok_Path_init T) (hr.mono (by decide)) rfl (T.glo (T.c.fact 11 (f := fGlo "Path") rfl)) passD (pa_cons (pe_ix ix_lh (pv 0) pe_int (fun _ _ => rfl)) (pa_cons (pe_ix ix_lh (pv 0) pe_int (fun _ _ => rfl)) (pa_cons (pe_ix ix_lh (pv 0) pe_int (fun _ _ => rfl)) pa_nil)))) (pe_mk (mkr_ok (T.c.fact 10 (f := fMkr "Path") rfl)) (ok_Path_init T) (hr.mono (by decide)) rfl (T.glo (T.c.fact 11 (f := fGlo "Path") rfl)) passD (pa_cons (pe_ix ix_lh (pv 0) pe_int (fun _ _ => rfl)) (pa_cons (pe_ix ix_lh (pv 0) pe_int (fun _ _ => rfl)) (pa_cons (pe_ix ix_lh (pv 0) pe_int (fun _ _ => rfl)) (pa_cons (pe_ix ix_lh (pv 0) pe_int (fun _ _ => rfl)) pa_nil))))))))
 pss_nil)
 (pss_cons (ps_if (pt_cmpR op_eq (pe_callB call_len_lh (by rfl) (T.free (T.c.fact 0 (f := fFree "len") rfl)) (by decide +kernel) (pa_cons (pv 0) pa_nil)) pe_int (nomark _))
 (pss_one (ps_ret (pe_mk (mkr_ok (T.c.fact 10 (f := fMkr "Path") rfl)) (ok_Path_init T) (hr.mono (by decide)) rfl (T.glo (T.c.fact 11 (f := fGlo "Path") rfl)) passD (pa_cons (pe_ix ix_lh (pv 0) pe_int (fun _ _ => rfl)) (pa_cons (pe_ix ix_lh (pv 0) pe_int (fun _ _ => rfl)) (pa_cons (pe_ix ix_lh (pv 0) pe_int (fun _ _ => rfl)) (pa_cons (pe_ix ix_lh (pv 0) pe_int (fun _ _ => rfl)) (pa_cons (pe_ix ix_lh (pv 0) pe_int (fun _ _ => rfl)) pa_nil))))))))
 pss_nil)
 (pss_cons (ps_if (pt_cmpR op_lt (pe_callB call_len_lh (by rfl) (T.free (T.c.fact 0 (f := fFree "len") rfl)) (by decide +kernel) (pa_cons (pv 0) pa_nil)) pe_int (nomark _))
 (pss_cons (ps_if (pt_cmpR op_eq (pe_callB call_len_lh (by rfl) (T.free (T.c.fact 0 (f := fFree "len") rfl)) (by decide +kernel) (pa_cons (pv 0) pa_nil)) pe_int (nomark _))
 (pss_one (ps_ret (pe_mk (mkr_ok (T.c.fact 10 (f := fMkr "Path") rfl)) (ok_Path_init T) (hr.mono (by decide)) rfl (T.glo (T.c.fact 11 (f := fGlo "Path") rfl)) passD (pa_cons (pe_ix ix_lh (pv 0) pe_int (fun _ _ => rfl)) (pa_cons (pe_ix ix_lh (pv 0) pe_int (fun _ _ => rfl)) (pa_cons (pe_ix ix_lh (pv 0) pe_int (fun _ _ => rfl)) (pa_cons (pe_ix ix_lh (pv 0) pe_int (fun _ _ => rfl)) (pa_cons (pe_ix ix_lh (pv 0) pe_int (fun _ _ => rfl)) (pa_cons (pe_ix ix_lh (pv 0) pe_int (fun _ _ => rfl)) pa_nil)))))))))
 pss_nil)
 (pss_one (ps_ret (pe_mk (mkr_ok (T.c.fact 10 (f := fMkr "Path") rfl)) (ok_Path_init T) (hr.mono (by decide)) rfl (T.glo (T.c.fact 11 (f := fGlo "Path") rfl)) passD (pa_cons (pe_ix ix_lh (pv 0) pe_int (fun _ _ => rfl)) (pa_cons (pe_ix ix_lh (pv 0) pe_int (fun _ _ => rfl)) (pa_cons (pe_ix ix_lh (pv 0) pe_int (fun _ _ => rfl)) (pa_cons (pe_ix ix_lh (pv 0) pe_int (fun _ _ => rfl)) (pa_cons (pe_ix ix_lh (pv 0) pe_int (fun _ _ => rfl)) (pa_cons (pe_ix ix_lh (pv 0) pe_int (fun _ _ => rfl)) (pa_cons (pe_ix ix_lh (pv 0) pe_int (fun _ _ => rfl)) pa_nil)))))))))))
 pss_nil)
 (pss_cons (ps_if (pt_cmpR op_lt (pe_callB call_len_lh (by rfl) (T.free (T.c.fact 0 (f := fFree "len") rfl)) (by decide +kernel) (pa_cons (pv 0) pa_nil)) pe_int (nomark _))
 (pss_cons (ps_if (pt_cmpR op_eq (pe_callB call_len_lh (by rfl) (T.free (T.c.fact 0 (f := fFree "len") rfl)) (by decide +kernel) (pa_cons (pv 0) pa_nil)) pe_int (nomark _))
 (pss_one (ps_ret (pe_mk (mkr_ok (T.c.fact 10 (f := fMkr "Path") rfl)) (ok_Path_init T) (hr.mono (by decide)) rfl (T.glo (T.c.fact 11 (f := fGlo "Path") rfl)) passD (pa_cons (pe_ix ix_lh (pv 0) pe_int (fun _ _ => rfl)) (pa_cons (pe_ix ix_lh (pv 0) pe_int (fun _ _ => rfl)) (pa_cons (pe_ix ix_lh (pv 0) pe_int (fun _ _ => rfl)) (pa_cons (pe_ix ix_lh (pv 0) pe_int (fun _ _ => rfl)) (pa_cons (pe_ix ix_lh (pv 0) pe_int (fun _ _ => rfl)) (pa_cons (pe_ix ix_lh (pv 0) pe_int (fun _ _ => rfl)) (pa_cons (pe_ix ix_lh (pv 0) pe_int (fun _ _ => rfl)) (pa_cons (pe_ix ix_lh (pv 0) pe_int (fun _ _ => rfl)) pa_nil)))))))))))
 pss_nil)
 (pss_one (ps_ret (pe_mk (mkr_ok (T.c.fact 10 (f := fMkr "Path") rfl)) (ok_Path_init T) (hr.mono (by decide)) rfl (T.glo (T.c.fact 11 (f := fGlo "Path") rfl)) passD (pa_cons (pe_ix ix_lh (pv 0) pe_int (fun _ _ => rfl)) (pa_cons (pe_ix ix_lh (pv 0) pe_int (fun _ _ => rfl)) (pa_cons (pe_ix ix_lh (pv 0) pe_int (fun _ _ => rfl)) (pa_cons (pe_ix ix_lh (pv 0) pe_int (fun _ _ => rfl)) (pa_cons (pe_ix ix_lh (pv 0) pe_int (fun _ _ => rfl)) (pa_cons (pe_ix ix_lh (pv 0) pe_int (fun _ _ => rfl)) (pa_cons (pe_ix ix_lh (pv 0) pe_int (fun _ _ => rfl)) (pa_cons (pe_ix ix_lh (pv 0) pe_int (fun _ _ => rfl)) (pa_cons (pe_ix ix_lh (pv 0) pe_int (fun _ _ => rfl)) pa_nil)))))))))))))
 pss_nil)
 (pss_cons (ps_if (pt_cmpR op_lt (pe_callB call_len_lh (by rfl) (T.free (T.c.fact 0 (f := fFree "len") rfl)) (by decide +kernel) (pa_cons (pv 0) pa_nil)) pe_int (nomark _))
 (pss_cons (ps_if (pt_cmpR op_eq (pe_callB call_len_lh (by rfl) (T.free (T.c.fact 0 (f := fFree "len") rfl)) (by decide +kernel) (pa_cons (pv 0) pa_nil)) pe_int (nomark _))
 (pss_one (ps_ret (pe_mk (mkr_ok (T.c.fact 10 (f := fMkr "Path") rfl)) (ok_Path_init T) (hr.mono (by decide)) rfl (T.glo (T.c.fact 11 (f := fGlo "Path") rfl)) passD (pa_cons (pe_ix ix_lh (pv 0) pe_int (fun _ _ => rfl)) (pa_cons (pe_ix ix_lh (pv 0) pe_int (fun _ _ => rfl)) (pa_cons (pe_ix ix_lh (pv 0) pe_int (fun _ _ => rfl)) (pa_cons (pe_ix ix_lh (pv 0) pe_int (fun _ _ => rfl)) (pa_cons (pe_ix ix_lh (pv 0) pe_int (fun _ _ => rfl)) (pa_cons (pe_ix ix_lh (pv 0) pe_int (fun _ _ => rfl)) (pa_cons (pe_ix ix_lh (pv 0) pe_int (fun _ _ => rfl)) (pa_cons (pe_ix ix_lh (pv 0) pe_int (fun _ _ => rfl)) (pa_cons (pe_ix ix_lh (pv 0) pe_int (fun _ _ => rfl)) (pa_cons (pe_ix ix_lh (pv 0) pe_int (fun _ _ => rfl)) pa_nil)))))))))))))
 pss_nil)
 (pss_one (ps_ret (pe_mk (mkr_ok (T.c.fact 10 (f := fMkr "Path") rfl)) (ok_Path_init T) (hr.mono (by decide)) rfl (T.glo (T.c.fact 11 (f := fGlo "Path") rfl)) passD (pa_cons (pe_ix ix_lh (pv 0) pe_int (fun _ _ => rfl)) (pa_cons (pe_ix ix_lh (pv 0) pe_int (fun _ _ => rfl)) (pa_cons (pe_ix ix_lh (pv 0) pe_int (fun _ _ => rfl)) (pa_cons (pe_ix ix_lh (pv 0) pe_int (fun _ _ => rfl)) (pa_cons (pe_ix ix_lh (pv 0) pe_int (fun _ _ => rfl)) (pa_cons (pe_ix ix_lh (pv 0) pe_int (fun _ _ => rfl)) (pa_cons (pe_ix ix_lh (pv 0) pe_int (fun _ _ => rfl)) (pa_cons (pe_ix ix_lh (pv 0) pe_int (fun _ _ => rfl)) (pa_cons (pe_ix ix_lh (pv 0) pe_int (fun _ _ => rfl)) (pa_cons (pe_ix ix_lh (pv 0) pe_int (fun _ _ => rfl)) (pa_cons (pe_ix ix_lh (pv 0) pe_int (fun _ _ => rfl)) pa_nil)))))))))))))))
 pss_nil)
 (pss_cons (ps_if (pt_cmpR op_eq (pe_callB call_len_lh (by rfl) (T.free (T.c.fact 0 (f := fFree "len") rfl)) (by decide +kernel) (pa_cons (pv 0) pa_nil)) pe_int (nomark _))
 (pss_one (ps_ret (pe_mk (mkr_ok (T.c.fact 10 (f := fMkr "Path") rfl)) (ok_Path_init T) (hr.mono (by decide)) rfl (T.glo (T.c.fact 11 (f := fGlo "Path") rfl)) passD (pa_cons (pe_ix ix_lh (pv 0) pe_int (fun _ _ => rfl)) (pa_cons (pe_ix ix_lh (pv 0) pe_int (fun _ _ => rfl)) (pa_cons (pe_ix ix_lh (pv 0) pe_int (fun _ _ => rfl)) (pa_cons (pe_ix ix_lh (pv 0) pe_int (fun _ _ => rfl)) (pa_cons (pe_ix ix_lh (pv 0) pe_int (fun _ _ => rfl)) (pa_cons (pe_ix ix_lh (pv 0) pe_int (fun _ _ => rfl)) (pa_cons (pe_ix ix_lh (pv 0) pe_int (fun _ _ => rfl)) (pa_cons (pe_ix ix_lh (pv 0) pe_int (fun _ _ => rfl)) (pa_cons (pe_ix ix_lh (pv 0) pe_int (fun _ _ => rfl)) (pa_cons (pe_ix ix_lh (pv 0) pe_int (fun _ _ => rfl)) (pa_cons (pe_ix ix_lh (pv 0) pe_int (fun _ _ => rfl)) (pa_cons (pe_ix ix_lh (pv 0) pe_int (fun _ _ => rfl)) pa_nil)))))))))))))))
 pss_nil)
 (pss_one (ps_ret (pe_mk (mkr_ok (T.c.fact 10 (f := fMkr "Path") rfl)) (ok_Path_init T) (hr.mono (by decide)) rfl (T.glo (T.c.fact 11 (f := fGlo "Path") rfl)) passD (pa_cons (pe_ix ix_lh (pv 0) pe_int (fun _ _ => rfl)) (pa_cons (pe_ix ix_lh (pv 0) pe_int (fun _ _ => rfl)) (pa_cons (pe_ix ix_lh (pv 0) pe_int (fun _ _ => rfl)) (pa_cons (pe_ix ix_lh (pv 0) pe_int (fun _ _ => rfl)) (pa_cons (pe_ix ix_lh (pv 0) pe_int (fun _ _ => rfl)) (pa_cons (pe_ix ix_lh (pv 0) pe_int (fun _ _ => rfl)) (pa_cons (pe_ix ix_lh (pv 0) pe_int (fun _ _ => rfl)) (pa_cons (pe_ix ix_lh (pv 0) pe_int (fun _ _ => rfl)) (pa_cons (pe_ix ix_lh (pv 0) pe_int (fun _ _ => rfl)) (pa_cons (pe_ix ix_lh (pv 0) pe_int (fun _ _ => rfl)) (pa_cons (pe_ix ix_lh (pv 0) pe_int (fun _ _ => rfl)) (pa_cons (pe_ix ix_lh (pv 0) pe_int (fun _ _ => rfl)) (pa_cons (pe_ix ix_lh (pv 0) pe_int (fun _ _ => rfl)) pa_nil))))))))))))))))))))))), ?_⟩)
  · first | (obtain ⟨_, e, _⟩ := h; subst e; rfl) | (obtain ⟨_, _, e, _⟩ := h; subst e; rfl) | (obtain ⟨_, _, _, e, _⟩ := h; subst e; rfl) | (obtain ⟨_, _, _, _, e, _⟩ := h; subst e; rfl) | (obtain ⟨_, _, _, _, _, e, _⟩ := h; subst e; rfl) | (obtain ⟨_, _, _, _, _, _, e, _⟩ := h; subst e; rfl) | (obtain ⟨_, _, _, _, _, _, _, e, _⟩ := h; subst e; rfl) | (obtain ⟨_, _, _, _, _, _, _, _, e, _⟩ := h; subst e; rfl) | (obtain ⟨_, _, _, _, _, _, _, _, _, e, _⟩ := h; subst e; rfl) | (obtain ⟨_, _, _, _, _, _, _, _, _, _, e, _⟩ := h; subst e; rfl) | (obtain ⟨_, _, _, _, _, _, _, _, _, _, _, e, _⟩ := h; subst e; rfl)
  obtain ⟨l, ns, rfl, hl, hn, hN, q⟩ := h
  have fin : ∀ (H1 : Hp), H1 = H → ∀ x dx, H1 x = none → H1 dx = none → dx ≠ x → ∃ ws rest, (V.ref x :: ns.map V.str) = ws ++ rest ∧ ws.length = 1 ∧ rest.length ≤ sizeLine ∧ ∀ t, (upd (upd H1 dx (.own x)) x (.ins (ga K "Path") dx [])) t = Option.none →
      spInit K (ws ++ [V.ref t]) (upd (upd (upd H1 dx (.own x)) x (.ins (ga K "Path") dx [])) t (.tup rest)) (fun v H2 => v = .non ∧ Q (.ref x) H2) E := fun H1 e => by
    subst e
    exact path_made hn hN q
  have fin := fin H rfl
  match ns, hl, fin, hn with
  | [], hl, fin, _ =>
    try simp only [cxK, r_var, r_c, r_seq, r_next, r_break, r_cont, r_drop, r_ret, r_retN, r_if, r_ife, r_asg, r_name, r_op, r_un, r_nil, r_cons, r_lst2, r_tup2, r_lc, r_for, r_ilist, r_itup, r_istr, r_irng1, r_irng2, r_ienum, r_ienumS, wipe, r_cb, r_test, r_b, r_not, r_notV, r_andV, r_orV, r_isN, r_notN, r_m1, r_m0, r_fld, sFld, putF, r_par, r_sub, r_gtup, r_gnil, r_gcons, r_sl, r_nopart, r_part, r_bm, r_bm0, r_chain, r_call, r_callK, r_meth, r_prop, r_make, r_and, r_or, andT_t, andT_f, orT_t, orT_f, ifK_t, ifK_f, ifE_t, ifE_f, andK_t, andK_f, orK_t, orK_f, L2.start, List.map_cons, List.map_nil, List.length_cons, List.length_nil, List.replicate_succ, List.replicate_zero, List.cons_append, List.nil_append, List.getElem?_cons_succ, List.getElem?_cons_zero, List.set_cons_succ, List.set_cons_zero, Nat.reduceAdd, Nat.reduceSub, Nat.zero_add, decide_true, decide_false, Bool.not_true, Bool.not_false, if_true, if_false, rEq, rNe, scal_ii, scal_ss, scal_bb, scal_is, scal_si, scal_ns, scal_ni, scal_in, scal_sn, scal_nn, rI, rI0, rU, rIxLH, rIxTH, rLenH, rLenTH, rSetL, rCatN, rTupOfN, rLstOfN, rSlLN, rSlTN, CDiv, CPow, CMul, CDivW, upd_same, at0, at1, at2, at3, at4, at5, at6, at7, at8, at9, at10, at11, at12, at13, ix3_0, ix3_1, ix3_2, V.int.injEq, V.bl.injEq, V.str.injEq, V.ref.injEq, Option.some.injEq, HO.lst.injEq, HO.tup.injEq, HO.ins.injEq, List.cons.injEq, and_true, true_and, exists_eq_left, exists_eq_left', exists_and_left, exists_eq', exists_eq, and_assoc, Int.cast_ofNat_Int, Int.reduceLT, Int.reduceLE, Int.reduceEq, Int.reduceAdd, Int.reduceSub, Int.reduceMul, Int.reduceNeg, N_law_path_of_row, hl]
    exact fin
  | [x0], hl, fin, _ =>
    try simp only [cxK, r_var, r_c, r_seq, r_next, r_break, r_cont, r_drop, r_ret, r_retN, r_if, r_ife, r_asg, r_name, r_op, r_un, r_nil, r_cons, r_lst2, r_tup2, r_lc, r_for, r_ilist, r_itup, r_istr, r_irng1, r_irng2, r_ienum, r_ienumS, wipe, r_cb, r_test, r_b, r_not, r_notV, r_andV, r_orV, r_isN, r_notN, r_m1, r_m0, r_fld, sFld, putF, r_par, r_sub, r_gtup, r_gnil, r_gcons, r_sl, r_nopart, r_part, r_bm, r_bm0, r_chain, r_call, r_callK, r_meth, r_prop, r_make, r_and, r_or, andT_t, andT_f, orT_t, orT_f, ifK_t, ifK_f, ifE_t, ifE_f, andK_t, andK_f, orK_t, orK_f, L2.start, List.map_cons, List.map_nil, List.length_cons, List.length_nil, List.replicate_succ, List.replicate_zero, List.cons_append, List.nil_append, List.getElem?_cons_succ, List.getElem?_cons_zero, List.set_cons_succ, List.set_cons_zero, Nat.reduceAdd, Nat.reduceSub, Nat.zero_add, decide_true, decide_false, Bool.not_true, Bool.not_false, if_true, if_false, rEq, rNe, scal_ii, scal_ss, scal_bb, scal_is, scal_si, scal_ns, scal_ni, scal_in, scal_sn, scal_nn, rI, rI0, rU, rIxLH, rIxTH, rLenH, rLenTH, rSetL, rCatN, rTupOfN, rLstOfN, rSlLN, rSlTN, CDiv, CPow, CMul, CDivW, upd_same, at0, at1, at2, at3, at4, at5, at6, at7, at8, at9, at10, at11, at12, at13, ix3_0, ix3_1, ix3_2, V.int.injEq, V.bl.injEq, V.str.injEq, V.ref.injEq, Option.some.injEq, HO.lst.injEq, HO.tup.injEq, HO.ins.injEq, List.cons.injEq, and_true, true_and, exists_eq_left, exists_eq_left', exists_and_left, exists_eq', exists_eq, and_assoc, Int.cast_ofNat_Int, Int.reduceLT, Int.reduceLE, Int.reduceEq, Int.reduceAdd, Int.reduceSub, Int.reduceMul, Int.reduceNeg, N_law_path_of_row, hl]
    exact fin
  | [x0, x1], hl, fin, _ =>
    try simp only [cxK, r_var, r_c, r_seq, r_next, r_break, r_cont, r_drop, r_ret, r_retN, r_if, r_ife, r_asg, r_name, r_op, r_un, r_nil, r_cons, r_lst2, r_tup2, r_lc, r_for, r_ilist, r_itup, r_istr, r_irng1, r_irng2, r_ienum, r_ienumS, wipe, r_cb, r_test, r_b, r_not, r_notV, r_andV, r_orV, r_isN, r_notN, r_m1, r_m0, r_fld, sFld, putF, r_par, r_sub, r_gtup, r_gnil, r_gcons, r_sl, r_nopart, r_part, r_bm, r_bm0, r_chain, r_call, r_callK, r_meth, r_prop, r_make, r_and, r_or, andT_t, andT_f, orT_t, orT_f, ifK_t, ifK_f, ifE_t, ifE_f, andK_t, andK_f, orK_t, orK_f, L2.start, List.map_cons, List.map_nil, List.length_cons, List.length_nil, List.replicate_succ, List.replicate_zero, List.cons_append, List.nil_append, List.getElem?_cons_succ, List.getElem?_cons_zero, List.set_cons_succ, List.set_cons_zero, Nat.reduceAdd, Nat.reduceSub, Nat.zero_add, decide_true, decide_false, Bool.not_true, Bool.not_false, if_true, if_false, rEq, rNe, scal_ii, scal_ss, scal_bb, scal_is, scal_si, scal_ns, scal_ni, scal_in, scal_sn, scal_nn, rI, rI0, rU, rIxLH, rIxTH, rLenH, rLenTH, rSetL, rCatN, rTupOfN, rLstOfN, rSlLN, rSlTN, CDiv, CPow, CMul, CDivW, upd_same, at0, at1, at2, at3, at4, at5, at6, at7, at8, at9, at10, at11, at12, at13, ix3_0, ix3_1, ix3_2, V.int.injEq, V.bl.injEq, V.str.injEq, V.ref.injEq, Option.some.injEq, HO.lst.injEq, HO.tup.injEq, HO.ins.injEq, List.cons.injEq, and_true, true_and, exists_eq_left, exists_eq_left', exists_and_left, exists_eq', exists_eq, and_assoc, Int.cast_ofNat_Int, Int.reduceLT, Int.reduceLE, Int.reduceEq, Int.reduceAdd, Int.reduceSub, Int.reduceMul, Int.reduceNeg, N_law_path_of_row, hl]
    exact fin
  | [x0, x1, x2], hl, fin, _ =>
    try simp only [cxK, r_var, r_c, r_seq, r_next, r_break, r_cont, r_drop, r_ret, r_retN, r_if, r_ife, r_asg, r_name, r_op, r_un, r_nil, r_cons, r_lst2, r_tup2, r_lc, r_for, r_ilist, r_itup, r_istr, r_irng1, r_irng2, r_ienum, r_ienumS, wipe, r_cb, r_test, r_b, r_not, r_notV, r_andV, r_orV, r_isN, r_notN, r_m1, r_m0, r_fld, sFld, putF, r_par, r_sub, r_gtup, r_gnil, r_gcons, r_sl, r_nopart, r_part, r_bm, r_bm0, r_chain, r_call, r_callK, r_meth, r_prop, r_make, r_and, r_or, andT_t, andT_f, orT_t, orT_f, ifK_t, ifK_f, ifE_t, ifE_f, andK_t, andK_f, orK_t, orK_f, L2.start, List.map_cons, List.map_nil, List.length_cons, List.length_nil, List.replicate_succ, List.replicate_zero, List.cons_append, List.nil_append, List.getElem?_cons_succ, List.getElem?_cons_zero, List.set_cons_succ, List.set_cons_zero, Nat.reduceAdd, Nat.reduceSub, Nat.zero_add, decide_true, decide_false, Bool.not_true, Bool.not_false, if_true, if_false, rEq, rNe, scal_ii, scal_ss, scal_bb, scal_is, scal_si, scal_ns, scal_ni, scal_in, scal_sn, scal_nn, rI, rI0, rU, rIxLH, rIxTH, rLenH, rLenTH, rSetL, rCatN, rTupOfN, rLstOfN, rSlLN, rSlTN, CDiv, CPow, CMul, CDivW, upd_same, at0, at1, at2, at3, at4, at5, at6, at7, at8, at9, at10, at11, at12, at13, ix3_0, ix3_1, ix3_2, V.int.injEq, V.bl.injEq, V.str.injEq, V.ref.injEq, Option.some.injEq, HO.lst.injEq, HO.tup.injEq, HO.ins.injEq, List.cons.injEq, and_true, true_and, exists_eq_left, exists_eq_left', exists_and_left, exists_eq', exists_eq, and_assoc, Int.cast_ofNat_Int, Int.reduceLT, Int.reduceLE, Int.reduceEq, Int.reduceAdd, Int.reduceSub, Int.reduceMul, Int.reduceNeg, N_law_path_of_row, hl]
    exact fin
  | [x0, x1, x2, x3], hl, fin, _ =>
    try simp only [cxK, r_var, r_c, r_seq, r_next, r_break, r_cont, r_drop, r_ret, r_retN, r_if, r_ife, r_asg, r_name, r_op, r_un, r_nil, r_cons, r_lst2, r_tup2, r_lc, r_for, r_ilist, r_itup, r_istr, r_irng1, r_irng2, r_ienum, r_ienumS, wipe, r_cb, r_test, r_b, r_not, r_notV, r_andV, r_orV, r_isN, r_notN, r_m1, r_m0, r_fld, sFld, putF, r_par, r_sub, r_gtup, r_gnil, r_gcons, r_sl, r_nopart, r_part, r_bm, r_bm0, r_chain, r_call, r_callK, r_meth, r_prop, r_make, r_and, r_or, andT_t, andT_f, orT_t, orT_f, ifK_t, ifK_f, ifE_t, ifE_f, andK_t, andK_f, orK_t, orK_f, L2.start, List.map_cons, List.map_nil, List.length_cons, List.length_nil, List.replicate_succ, List.replicate_zero, List.cons_append, List.nil_append, List.getElem?_cons_succ, List.getElem?_cons_zero, List.set_cons_succ, List.set_cons_zero, Nat.reduceAdd, Nat.reduceSub, Nat.zero_add, decide_true, decide_false, Bool.not_true, Bool.not_false, if_true, if_false, rEq, rNe, scal_ii, scal_ss, scal_bb, scal_is, scal_si, scal_ns, scal_ni, scal_in, scal_sn, scal_nn, rI, rI0, rU, rIxLH, rIxTH, rLenH, rLenTH, rSetL, rCatN, rTupOfN, rLstOfN, rSlLN, rSlTN, CDiv, CPow, CMul, CDivW, upd_same, at0, at1, at2, at3, at4, at5, at6, at7, at8, at9, at10, at11, at12, at13, ix3_0, ix3_1, ix3_2, V.int.injEq, V.bl.injEq, V.str.injEq, V.ref.injEq, Option.some.injEq, HO.lst.injEq, HO.tup.injEq, HO.ins.injEq, List.cons.injEq, and_true, true_and, exists_eq_left, exists_eq_left', exists_and_left, exists_eq', exists_eq, and_assoc, Int.cast_ofNat_Int, Int.reduceLT, Int.reduceLE, Int.reduceEq, Int.reduceAdd, Int.reduceSub, Int.reduceMul, Int.reduceNeg, N_law_path_of_row, hl]
    exact fin
  | [x0, x1, x2, x3, x4], hl, fin, _ =>
    try simp only [cxK, r_var, r_c, r_seq, r_next, r_break, r_cont, r_drop, r_ret, r_retN, r_if, r_ife, r_asg, r_name, r_op, r_un, r_nil, r_cons, r_lst2, r_tup2, r_lc, r_for, r_ilist, r_itup, r_istr, r_irng1, r_irng2, r_ienum, r_ienumS, wipe, r_cb, r_test, r_b, r_not, r_notV, r_andV, r_orV, r_isN, r_notN, r_m1, r_m0, r_fld, sFld, putF, r_par, r_sub, r_gtup, r_gnil, r_gcons, r_sl, r_nopart, r_part, r_bm, r_bm0, r_chain, r_call, r_callK, r_meth, r_prop, r_make, r_and, r_or, andT_t, andT_f, orT_t, orT_f, ifK_t, ifK_f, ifE_t, ifE_f, andK_t, andK_f, orK_t, orK_f, L2.start, List.map_cons, List.map_nil, List.length_cons, List.length_nil, List.replicate_succ, List.replicate_zero, List.cons_append, List.nil_append, List.getElem?_cons_succ, List.getElem?_cons_zero, List.set_cons_succ, List.set_cons_zero, Nat.reduceAdd, Nat.reduceSub, Nat.zero_add, decide_true, decide_false, Bool.not_true, Bool.not_false, if_true, if_false, rEq, rNe, scal_ii, scal_ss, scal_bb, scal_is, scal_si, scal_ns, scal_ni, scal_in, scal_sn, scal_nn, rI, rI0, rU, rIxLH, rIxTH, rLenH, rLenTH, rSetL, rCatN, rTupOfN, rLstOfN, rSlLN, rSlTN, CDiv, CPow, CMul, CDivW, upd_same, at0, at1, at2, at3, at4, at5, at6, at7, at8, at9, at10, at11, at12, at13, ix3_0, ix3_1, ix3_2, V.int.injEq, V.bl.injEq, V.str.injEq, V.ref.injEq, Option.some.injEq, HO.lst.injEq, HO.tup.injEq, HO.ins.injEq, List.cons.injEq, and_true, true_and, exists_eq_left, exists_eq_left', exists_and_left, exists_eq', exists_eq, and_assoc, Int.cast_ofNat_Int, Int.reduceLT, Int.reduceLE, Int.reduceEq, Int.reduceAdd, Int.reduceSub, Int.reduceMul, Int.reduceNeg, N_law_path_of_row, hl]
    exact fin
  | [x0, x1, x2, x3, x4, x5], hl, fin, _ =>
    try simp only [cxK, r_var, r_c, r_seq, r_next, r_break, r_cont, r_drop, r_ret, r_retN, r_if, r_ife, r_asg, r_name, r_op, r_un, r_nil, r_cons, r_lst2, r_tup2, r_lc, r_for, r_ilist, r_itup, r_istr, r_irng1, r_irng2, r_ienum, r_ienumS, wipe, r_cb, r_test, r_b, r_not, r_notV, r_andV, r_orV, r_isN, r_notN, r_m1, r_m0, r_fld, sFld, putF, r_par, r_sub, r_gtup, r_gnil, r_gcons, r_sl, r_nopart, r_part, r_bm, r_bm0, r_chain, r_call, r_callK, r_meth, r_prop, r_make, r_and, r_or, andT_t, andT_f, orT_t, orT_f, ifK_t, ifK_f, ifE_t, ifE_f, andK_t, andK_f, orK_t, orK_f, L2.start, List.map_cons, List.map_nil, List.length_cons, List.length_nil, List.replicate_succ, List.replicate_zero, List.cons_append, List.nil_append, List.getElem?_cons_succ, List.getElem?_cons_zero, List.set_cons_succ, List.set_cons_zero, Nat.reduceAdd, Nat.reduceSub, Nat.zero_add, decide_true, decide_false, Bool.not_true, Bool.not_false, if_true, if_false, rEq, rNe, scal_ii, scal_ss, scal_bb, scal_is, scal_si, scal_ns, scal_ni, scal_in, scal_sn, scal_nn, rI, rI0, rU, rIxLH, rIxTH, rLenH, rLenTH, rSetL, rCatN, rTupOfN, rLstOfN, rSlLN, rSlTN, CDiv, CPow, CMul, CDivW, upd_same, at0, at1, at2, at3, at4, at5, at6, at7, at8, at9, at10, at11, at12, at13, ix3_0, ix3_1, ix3_2, V.int.injEq, V.bl.injEq, V.str.injEq, V.ref.injEq, Option.some.injEq, HO.lst.injEq, HO.tup.injEq, HO.ins.injEq, List.cons.injEq, and_true, true_and, exists_eq_left, exists_eq_left', exists_and_left, exists_eq', exists_eq, and_assoc, Int.cast_ofNat_Int, Int.reduceLT, Int.reduceLE, Int.reduceEq, Int.reduceAdd, Int.reduceSub, Int.reduceMul, Int.reduceNeg, N_law_path_of_row, hl]
    exact fin
  | [x0, x1, x2, x3, x4, x5, x6], hl, fin, _ =>
    try simp only [cxK, r_var, r_c, r_seq, r_next, r_break, r_cont, r_drop, r_ret, r_retN, r_if, r_ife, r_asg, r_name, r_op, r_un, r_nil, r_cons, r_lst2, r_tup2, r_lc, r_for, r_ilist, r_itup, r_istr, r_irng1, r_irng2, r_ienum, r_ienumS, wipe, r_cb, r_test, r_b, r_not, r_notV, r_andV, r_orV, r_isN, r_notN, r_m1, r_m0, r_fld, sFld, putF, r_par, r_sub, r_gtup, r_gnil, r_gcons, r_sl, r_nopart, r_part, r_bm, r_bm0, r_chain, r_call, r_callK, r_meth, r_prop, r_make, r_and, r_or, andT_t, andT_f, orT_t, orT_f, ifK_t, ifK_f, ifE_t, ifE_f, andK_t, andK_f, orK_t, orK_f, L2.start, List.map_cons, List.map_nil, List.length_cons, List.length_nil, List.replicate_succ, List.replicate_zero, List.cons_append, List.nil_append, List.getElem?_cons_succ, List.getElem?_cons_zero, List.set_cons_succ, List.set_cons_zero, Nat.reduceAdd, Nat.reduceSub, Nat.zero_add, decide_true, decide_false, Bool.not_true, Bool.not_false, if_true, if_false, rEq, rNe, scal_ii, scal_ss, scal_bb, scal_is, scal_si, scal_ns, scal_ni, scal_in, scal_sn, scal_nn, rI, rI0, rU, rIxLH, rIxTH, rLenH, rLenTH, rSetL, rCatN, rTupOfN, rLstOfN, rSlLN, rSlTN, CDiv, CPow, CMul, CDivW, upd_same, at0, at1, at2, at3, at4, at5, at6, at7, at8, at9, at10, at11, at12, at13, ix3_0, ix3_1, ix3_2, V.int.injEq, V.bl.injEq, V.str.injEq, V.ref.injEq, Option.some.injEq, HO.lst.injEq, HO.tup.injEq, HO.ins.injEq, List.cons.injEq, and_true, true_and, exists_eq_left, exists_eq_left', exists_and_left, exists_eq', exists_eq, and_assoc, Int.cast_ofNat_Int, Int.reduceLT, Int.reduceLE, Int.reduceEq, Int.reduceAdd, Int.reduceSub, Int.reduceMul, Int.reduceNeg, N_law_path_of_row, hl]
    exact fin
  | [x0, x1, x2, x3, x4, x5, x6, x7], hl, fin, _ =>
    try simp only [cxK, r_var, r_c, r_seq, r_next, r_break, r_cont, r_drop, r_ret, r_retN, r_if, r_ife, r_asg, r_name, r_op, r_un, r_nil, r_cons, r_lst2, r_tup2, r_lc, r_for, r_ilist, r_itup, r_istr, r_irng1, r_irng2, r_ienum, r_ienumS, wipe, r_cb, r_test, r_b, r_not, r_notV, r_andV, r_orV, r_isN, r_notN, r_m1, r_m0, r_fld, sFld, putF, r_par, r_sub, r_gtup, r_gnil, r_gcons, r_sl, r_nopart, r_part, r_bm, r_bm0, r_chain, r_call, r_callK, r_meth, r_prop, r_make, r_and, r_or, andT_t, andT_f, orT_t, orT_f, ifK_t, ifK_f, ifE_t, ifE_f, andK_t, andK_f, orK_t, orK_f, L2.start, List.map_cons, List.map_nil, List.length_cons, List.length_nil, List.replicate_succ, List.replicate_zero, List.cons_append, List.nil_append, List.getElem?_cons_succ, List.getElem?_cons_zero, List.set_cons_succ, List.set_cons_zero, Nat.reduceAdd, Nat.reduceSub, Nat.zero_add, decide_true, decide_false, Bool.not_true, Bool.not_false, if_true, if_false, rEq, rNe, scal_ii, scal_ss, scal_bb, scal_is, scal_si, scal_ns, scal_ni, scal_in, scal_sn, scal_nn, rI, rI0, rU, rIxLH, rIxTH, rLenH, rLenTH, rSetL, rCatN, rTupOfN, rLstOfN, rSlLN, rSlTN, CDiv, CPow, CMul, CDivW, upd_same, at0, at1, at2, at3, at4, at5, at6, at7, at8, at9, at10, at11, at12, at13, ix3_0, ix3_1, ix3_2, V.int.injEq, V.bl.injEq, V.str.injEq, V.ref.injEq, Option.some.injEq, HO.lst.injEq, HO.tup.injEq, HO.ins.injEq, List.cons.injEq, and_true, true_and, exists_eq_left, exists_eq_left', exists_and_left, exists_eq', exists_eq, and_assoc, Int.cast_ofNat_Int, Int.reduceLT, Int.reduceLE, Int.reduceEq, Int.reduceAdd, Int.reduceSub, Int.reduceMul, Int.reduceNeg, N_law_path_of_row, hl]
    exact fin
  | [x0, x1, x2, x3, x4, x5, x6, x7, x8], hl, fin, _ =>
    try simp only [cxK, r_var, r_c, r_seq, r_next, r_break, r_cont, r_drop, r_ret, r_retN, r_if, r_ife, r_asg, r_name, r_op, r_un, r_nil, r_cons, r_lst2, r_tup2, r_lc, r_for, r_ilist, r_itup, r_istr, r_irng1, r_irng2, r_ienum, r_ienumS, wipe, r_cb, r_test, r_b, r_not, r_notV, r_andV, r_orV, r_isN, r_notN, r_m1, r_m0, r_fld, sFld, putF, r_par, r_sub, r_gtup, r_gnil, r_gcons, r_sl, r_nopart, r_part, r_bm, r_bm0, r_chain, r_call, r_callK, r_meth, r_prop, r_make, r_and, r_or, andT_t, andT_f, orT_t, orT_f, ifK_t, ifK_f, ifE_t, ifE_f, andK_t, andK_f, orK_t, orK_f, L2.start, List.map_cons, List.map_nil, List.length_cons, List.length_nil, List.replicate_succ, List.replicate_zero, List.cons_append, List.nil_append, List.getElem?_cons_succ, List.getElem?_cons_zero, List.set_cons_succ, List.set_cons_zero, Nat.reduceAdd, Nat.reduceSub, Nat.zero_add, decide_true, decide_false, Bool.not_true, Bool.not_false, if_true, if_false, rEq, rNe, scal_ii, scal_ss, scal_bb, scal_is, scal_si, scal_ns, scal_ni, scal_in, scal_sn, scal_nn, rI, rI0, rU, rIxLH, rIxTH, rLenH, rLenTH, rSetL, rCatN, rTupOfN, rLstOfN, rSlLN, rSlTN, CDiv, CPow, CMul, CDivW, upd_same, at0, at1, at2, at3, at4, at5, at6, at7, at8, at9, at10, at11, at12, at13, ix3_0, ix3_1, ix3_2, V.int.injEq, V.bl.injEq, V.str.injEq, V.ref.injEq, Option.some.injEq, HO.lst.injEq, HO.tup.injEq, HO.ins.injEq, List.cons.injEq, and_true, true_and, exists_eq_left, exists_eq_left', exists_and_left, exists_eq', exists_eq, and_assoc, Int.cast_ofNat_Int, Int.reduceLT, Int.reduceLE, Int.reduceEq, Int.reduceAdd, Int.reduceSub, Int.reduceMul, Int.reduceNeg, N_law_path_of_row, hl]
    exact fin
  | [x0, x1, x2, x3, x4, x5, x6, x7, x8, x9], hl, fin, _ =>
    try simp only [cxK, r_var, r_c, r_seq, r_next, r_break, r_cont, r_drop, r_ret, r_retN, r_if, r_ife, r_asg, r_name, r_op, r_un, r_nil, r_cons, r_lst2, r_tup2, r_lc, r_for, r_ilist, r_itup, r_istr, r_irng1, r_irng2, r_ienum, r_ienumS, wipe, r_cb, r_test, r_b, r_not, r_notV, r_andV, r_orV, r_isN, r_notN, r_m1, r_m0, r_fld, sFld, putF, r_par, r_sub, r_gtup, r_gnil, r_gcons, r_sl, r_nopart, r_part, r_bm, r_bm0, r_chain, r_call, r_callK, r_meth, r_prop, r_make, r_and, r_or, andT_t, andT_f, orT_t, orT_f, ifK_t, ifK_f, ifE_t, ifE_f, andK_t, andK_f, orK_t, orK_f, L2.start, List.map_cons, List.map_nil, List.length_cons, List.length_nil, List.replicate_succ, List.replicate_zero, List.cons_append, List.nil_append, List.getElem?_cons_succ, List.getElem?_cons_zero, List.set_cons_succ, List.set_cons_zero, Nat.reduceAdd, Nat.reduceSub, Nat.zero_add, decide_true, decide_false, Bool.not_true, Bool.not_false, if_true, if_false, rEq, rNe, scal_ii, scal_ss, scal_bb, scal_is, scal_si, scal_ns, scal_ni, scal_in, scal_sn, scal_nn, rI, rI0, rU, rIxLH, rIxTH, rLenH, rLenTH, rSetL, rCatN, rTupOfN, rLstOfN, rSlLN, rSlTN, CDiv, CPow, CMul, CDivW, upd_same, at0, at1, at2, at3, at4, at5, at6, at7, at8, at9, at10, at11, at12, at13, ix3_0, ix3_1, ix3_2, V.int.injEq, V.bl.injEq, V.str.injEq, V.ref.injEq, Option.some.injEq, HO.lst.injEq, HO.tup.injEq, HO.ins.injEq, List.cons.injEq, and_true, true_and, exists_eq_left, exists_eq_left', exists_and_left, exists_eq', exists_eq, and_assoc, Int.cast_ofNat_Int, Int.reduceLT, Int.reduceLE, Int.reduceEq, Int.reduceAdd, Int.reduceSub, Int.reduceMul, Int.reduceNeg, N_law_path_of_row, hl]
    exact fin
  | [x0, x1, x2, x3, x4, x5, x6, x7, x8, x9, x10], hl, fin, _ =>
    try simp only [cxK, r_var, r_c, r_seq, r_next, r_break, r_cont, r_drop, r_ret, r_retN, r_if, r_ife, r_asg, r_name, r_op, r_un, r_nil, r_cons, r_lst2, r_tup2, r_lc, r_for, r_ilist, r_itup, r_istr, r_irng1, r_irng2, r_ienum, r_ienumS, wipe, r_cb, r_test, r_b, r_not, r_notV, r_andV, r_orV, r_isN, r_notN, r_m1, r_m0, r_fld, sFld, putF, r_par, r_sub, r_gtup, r_gnil, r_gcons, r_sl, r_nopart, r_part, r_bm, r_bm0, r_chain, r_call, r_callK, r_meth, r_prop, r_make, r_and, r_or, andT_t, andT_f, orT_t, orT_f, ifK_t, ifK_f, ifE_t, ifE_f, andK_t, andK_f, orK_t, orK_f, L2.start, List.map_cons, List.map_nil, List.length_cons, List.length_nil, List.replicate_succ, List.replicate_zero, List.cons_append, List.nil_append, List.getElem?_cons_succ, List.getElem?_cons_zero, List.set_cons_succ, List.set_cons_zero, Nat.reduceAdd, Nat.reduceSub, Nat.zero_add, decide_true, decide_false, Bool.not_true, Bool.not_false, if_true, if_false, rEq, rNe, scal_ii, scal_ss, scal_bb, scal_is, scal_si, scal_ns, scal_ni, scal_in, scal_sn, scal_nn, rI, rI0, rU, rIxLH, rIxTH, rLenH, rLenTH, rSetL, rCatN, rTupOfN, rLstOfN, rSlLN, rSlTN, CDiv, CPow, CMul, CDivW, upd_same, at0, at1, at2, at3, at4, at5, at6, at7, at8, at9, at10, at11, at12, at13, ix3_0, ix3_1, ix3_2, V.int.injEq, V.bl.injEq, V.str.injEq, V.ref.injEq, Option.some.injEq, HO.lst.injEq, HO.tup.injEq, HO.ins.injEq, List.cons.injEq, and_true, true_and, exists_eq_left, exists_eq_left', exists_and_left, exists_eq', exists_eq, and_assoc, Int.cast_ofNat_Int, Int.reduceLT, Int.reduceLE, Int.reduceEq, Int.reduceAdd, Int.reduceSub, Int.reduceMul, Int.reduceNeg, N_law_path_of_row, hl]
    exact fin
  | [x0, x1, x2, x3, x4, x5, x6, x7, x8, x9, x10, x11], hl, fin, _ =>
    try simp only [cxK, r_var, r_c, r_seq, r_next, r_break, r_cont, r_drop, r_ret, r_retN, r_if, r_ife, r_asg, r_name, r_op, r_un, r_nil, r_cons, r_lst2, r_tup2, r_lc, r_for, r_ilist, r_itup, r_istr, r_irng1, r_irng2, r_ienum, r_ienumS, wipe, r_cb, r_test, r_b, r_not, r_notV, r_andV, r_orV, r_isN, r_notN, r_m1, r_m0, r_fld, sFld, putF, r_par, r_sub, r_gtup, r_gnil, r_gcons, r_sl, r_nopart, r_part, r_bm, r_bm0, r_chain, r_call, r_callK, r_meth, r_prop, r_make, r_and, r_or, andT_t, andT_f, orT_t, orT_f, ifK_t, ifK_f, ifE_t, ifE_f, andK_t, andK_f, orK_t, orK_f, L2.start, List.map_cons, List.map_nil, List.length_cons, List.length_nil, List.replicate_succ, List.replicate_zero, List.cons_append, List.nil_append, List.getElem?_cons_succ, List.getElem?_cons_zero, List.set_cons_succ, List.set_cons_zero, Nat.reduceAdd, Nat.reduceSub, Nat.zero_add, decide_true, decide_false, Bool.not_true, Bool.not_false, if_true, if_false, rEq, rNe, scal_ii, scal_ss, scal_bb, scal_is, scal_si, scal_ns, scal_ni, scal_in, scal_sn, scal_nn, rI, rI0, rU, rIxLH, rIxTH, rLenH, rLenTH, rSetL, rCatN, rTupOfN, rLstOfN, rSlLN, rSlTN, CDiv, CPow, CMul, CDivW, upd_same, at0, at1, at2, at3, at4, at5, at6, at7, at8, at9, at10, at11, at12, at13, ix3_0, ix3_1, ix3_2, V.int.injEq, V.bl.injEq, V.str.injEq, V.ref.injEq, Option.some.injEq, HO.lst.injEq, HO.tup.injEq, HO.ins.injEq, List.cons.injEq, and_true, true_and, exists_eq_left, exists_eq_left', exists_and_left, exists_eq', exists_eq, and_assoc, Int.cast_ofNat_Int, Int.reduceLT, Int.reduceLE, Int.reduceEq, Int.reduceAdd, Int.reduceSub, Int.reduceMul, Int.reduceNeg, N_law_path_of_row, hl]
    exact fin
  | (_ :: _ :: _ :: _ :: _ :: _ :: _ :: _ :: _ :: _ :: _ :: _ :: _ :: _), _, _, hn => exact absurd hn (by simp only [List.length_cons]; omega)
def spSpelled : Sp := fun vs H Q _ => ∃ (l : Addr) (ns : List Str), vs = [.ref l] ∧ H l = some (.lst (ns.map V.str)) ∧ Nms ns ∧ ∀ H', Same H H' → Q (.str (textOf ns)) H'
theorem ok_law_spelled (T : Tx fa fn K mg) : Fn P w K mg base 1 (aG "_law_spelled" K) [] spSpelled := by
  obtain ⟨fd, F⟩ := F_law_spelled T
  refine fn_all F sc_law_spelled (fun vs H Q E h => ?_) (b_law_spelled F) (fun cdv A outer s H vs Q E hr h => ⟨_, (pss_one (ps_ret (pe_ifExp (pt_cmpR (op_neD hr.r.units) (pv 0) (pe_lst pa_nil) (nomark _)) (pe_join pe_str (pe_lc (own := [("_law_name", 1)]) (g := gName 1) (tt := tYes) rfl sc_law_spelled.nd (pi_list (pv 0)) (blkOk_by (own := [("_law_name", 1)]) (N := N_law_spelled) (sc := defScope s_law_spelled) (by decide +kernel)) (fun _ _ _ _ _ => (pg_name (i := 1) sc_law_spelled.nd rfl (Or.inl rfl))) (fun _ _ _ _ _ => pts_nil) (fun _ _ _ _ _ => (pe_op op_add_str pe_str (pv 1))))) pe_str))), ?_⟩)
  · first | (obtain ⟨_, e, _⟩ := h; subst e; rfl) | (obtain ⟨_, _, e, _⟩ := h; subst e; rfl) | (obtain ⟨_, _, _, e, _⟩ := h; subst e; rfl) | (obtain ⟨_, _, _, _, e, _⟩ := h; subst e; rfl) | (obtain ⟨_, _, _, _, _, e, _⟩ := h; subst e; rfl) | (obtain ⟨_, _, _, _, _, _, e, _⟩ := h; subst e; rfl) | (obtain ⟨_, _, _, _, _, _, _, e, _⟩ := h; subst e; rfl) | (obtain ⟨_, _, _, _, _, _, _, _, e, _⟩ := h; subst e; rfl) | (obtain ⟨_, _, _, _, _, _, _, _, _, e, _⟩ := h; subst e; rfl) | (obtain ⟨_, _, _, _, _, _, _, _, _, _, e, _⟩ := h; subst e; rfl) | (obtain ⟨_, _, _, _, _, _, _, _, _, _, _, e, _⟩ := h; subst e; rfl)
  obtain ⟨t, ns, rfl, ht, hN, q⟩ := h
  try simp only [cxK, r_var, r_c, r_seq, r_next, r_break, r_cont, r_drop, r_ret, r_retN, r_if, r_ife, r_asg, r_name, r_op, r_un, r_nil, r_cons, r_lst2, r_tup2, r_lc, r_for, r_ilist, r_itup, r_istr, r_irng1, r_irng2, r_ienum, r_ienumS, wipe, r_cb, r_test, r_b, r_not, r_notV, r_andV, r_orV, r_isN, r_notN, r_m1, r_m0, r_fld, sFld, putF, r_par, r_sub, r_gtup, r_gnil, r_gcons, r_sl, r_nopart, r_part, r_bm, r_bm0, r_chain, r_call, r_callK, r_meth, r_prop, r_make, r_and, r_or, andT_t, andT_f, orT_t, orT_f, ifK_t, ifK_f, ifE_t, ifE_f, andK_t, andK_f, orK_t, orK_f, L2.start, List.map_cons, List.map_nil, List.length_cons, List.length_nil, List.replicate_succ, List.replicate_zero, List.cons_append, List.nil_append, List.getElem?_cons_succ, List.getElem?_cons_zero, List.set_cons_succ, List.set_cons_zero, Nat.reduceAdd, Nat.reduceSub, Nat.zero_add, decide_true, decide_false, Bool.not_true, Bool.not_false, if_true, if_false, rEq, rNe, scal_ii, scal_ss, scal_bb, scal_is, scal_si, scal_ns, scal_ni, scal_in, scal_sn, scal_nn, rI, rI0, rU, rIxLH, rIxTH, rLenH, rLenTH, rSetL, rCatN, rTupOfN, rLstOfN, rSlLN, rSlTN, CDiv, CPow, CMul, CDivW, upd_same, at0, at1, at2, at3, at4, at5, at6, at7, at8, at9, at10, at11, at12, at13, ix3_0, ix3_1, ix3_2, V.int.injEq, V.bl.injEq, V.str.injEq, V.ref.injEq, Option.some.injEq, HO.lst.injEq, HO.tup.injEq, HO.ins.injEq, List.cons.injEq, and_true, true_and, exists_eq_left, exists_eq_left', exists_and_left, exists_eq', exists_eq, and_assoc, N_law_spelled]
  refine ⟨fits (by decide), fun p H1 n1 => ?_⟩
  have ht1 := n1.old ht
  have he : ([] : List V) = ([] : List Str).map V.str := rfl
  have hp1 := n1.at_
  rw [he] at hp1
  refine neD_strL ht1 hp1 hN.ok (fun _ h => nomatch h) ?_
  try simp only [cxK, r_var, r_c, r_seq, r_next, r_break, r_cont, r_drop, r_ret, r_retN, r_if, r_ife, r_asg, r_name, r_op, r_un, r_nil, r_cons, r_lst2, r_tup2, r_lc, r_for, r_ilist, r_itup, r_istr, r_irng1, r_irng2, r_ienum, r_ienumS, wipe, r_cb, r_test, r_b, r_not, r_notV, r_andV, r_orV, r_isN, r_notN, r_m1, r_m0, r_fld, sFld, putF, r_par, r_sub, r_gtup, r_gnil, r_gcons, r_sl, r_nopart, r_part, r_bm, r_bm0, r_chain, r_call, r_callK, r_meth, r_prop, r_make, r_and, r_or, andT_t, andT_f, orT_t, orT_f, ifK_t, ifK_f, ifE_t, ifE_f, andK_t, andK_f, orK_t, orK_f, L2.start, List.map_cons, List.map_nil, List.length_cons, List.length_nil, List.replicate_succ, List.replicate_zero, List.cons_append, List.nil_append, List.getElem?_cons_succ, List.getElem?_cons_zero, List.set_cons_succ, List.set_cons_zero, Nat.reduceAdd, Nat.reduceSub, Nat.zero_add, decide_true, decide_false, Bool.not_true, Bool.not_false, if_true, if_false, rEq, rNe, scal_ii, scal_ss, scal_bb, scal_is, scal_si, scal_ns, scal_ni, scal_in, scal_sn, scal_nn, rI, rI0, rU, rIxLH, rIxTH, rLenH, rLenTH, rSetL, rCatN, rTupOfN, rLstOfN, rSlLN, rSlTN, CDiv, CPow, CMul, CDivW, upd_same, at0, at1, at2, at3, at4, at5, at6, at7, at8, at9, at10, at11, at12, at13, ix3_0, ix3_1, ix3_2, V.int.injEq, V.bl.injEq, V.str.injEq, V.ref.injEq, Option.some.injEq, HO.lst.injEq, HO.tup.injEq, HO.ins.injEq, List.cons.injEq, and_true, true_and, exists_eq_left, exists_eq_left', exists_and_left, exists_eq', exists_eq, and_assoc, N_law_spelled]
  by_cases hn : ns = []
  · subst hn
    try simp only [cxK, r_var, r_c, r_seq, r_next, r_break, r_cont, r_drop, r_ret, r_retN, r_if, r_ife, r_asg, r_name, r_op, r_un, r_nil, r_cons, r_lst2, r_tup2, r_lc, r_for, r_ilist, r_itup, r_istr, r_irng1, r_irng2, r_ienum, r_ienumS, wipe, r_cb, r_test, r_b, r_not, r_notV, r_andV, r_orV, r_isN, r_notN, r_m1, r_m0, r_fld, sFld, putF, r_par, r_sub, r_gtup, r_gnil, r_gcons, r_sl, r_nopart, r_part, r_bm, r_bm0, r_chain, r_call, r_callK, r_meth, r_prop, r_make, r_and, r_or, andT_t, andT_f, orT_t, orT_f, ifK_t, ifK_f, ifE_t, ifE_f, andK_t, andK_f, orK_t, orK_f, L2.start, List.map_cons, List.map_nil, List.length_cons, List.length_nil, List.replicate_succ, List.replicate_zero, List.cons_append, List.nil_append, List.getElem?_cons_succ, List.getElem?_cons_zero, List.set_cons_succ, List.set_cons_zero, Nat.reduceAdd, Nat.reduceSub, Nat.zero_add, decide_true, decide_false, Bool.not_true, Bool.not_false, if_true, if_false, rEq, rNe, scal_ii, scal_ss, scal_bb, scal_is, scal_si, scal_ns, scal_ni, scal_in, scal_sn, scal_nn, rI, rI0, rU, rIxLH, rIxTH, rLenH, rLenTH, rSetL, rCatN, rTupOfN, rLstOfN, rSlLN, rSlTN, CDiv, CPow, CMul, CDivW, upd_same, at0, at1, at2, at3, at4, at5, at6, at7, at8, at9, at10, at11, at12, at13, ix3_0, ix3_1, ix3_2, V.int.injEq, V.bl.injEq, V.str.injEq, V.ref.injEq, Option.some.injEq, HO.lst.injEq, HO.tup.injEq, HO.ins.injEq, List.cons.injEq, and_true, true_and, exists_eq_left, exists_eq_left', exists_and_left, exists_eq', exists_eq, and_assoc, N_law_spelled]
    exact q H1 n1.same
  · try simp only [cxK, r_var, r_c, r_seq, r_next, r_break, r_cont, r_drop, r_ret, r_retN, r_if, r_ife, r_asg, r_name, r_op, r_un, r_nil, r_cons, r_lst2, r_tup2, r_lc, r_for, r_ilist, r_itup, r_istr, r_irng1, r_irng2, r_ienum, r_ienumS, wipe, r_cb, r_test, r_b, r_not, r_notV, r_andV, r_orV, r_isN, r_notN, r_m1, r_m0, r_fld, sFld, putF, r_par, r_sub, r_gtup, r_gnil, r_gcons, r_sl, r_nopart, r_part, r_bm, r_bm0, r_chain, r_call, r_callK, r_meth, r_prop, r_make, r_and, r_or, andT_t, andT_f, orT_t, orT_f, ifK_t, ifK_f, ifE_t, ifE_f, andK_t, andK_f, orK_t, orK_f, L2.start, List.map_cons, List.map_nil, List.length_cons, List.length_nil, List.replicate_succ, List.replicate_zero, List.cons_append, List.nil_append, List.getElem?_cons_succ, List.getElem?_cons_zero, List.set_cons_succ, List.set_cons_zero, Nat.reduceAdd, Nat.reduceSub, Nat.zero_add, decide_true, decide_false, Bool.not_true, Bool.not_false, if_true, if_false, rEq, rNe, scal_ii, scal_ss, scal_bb, scal_is, scal_si, scal_ns, scal_ni, scal_in, scal_sn, scal_nn, rI, rI0, rU, rIxLH, rIxTH, rLenH, rLenTH, rSetL, rCatN, rTupOfN, rLstOfN, rSlLN, rSlTN, CDiv, CPow, CMul, CDivW, upd_same, at0, at1, at2, at3, at4, at5, at6, at7, at8, at9, at10, at11, at12, at13, ix3_0, ix3_1, ix3_2, V.int.injEq, V.bl.injEq, V.str.injEq, V.ref.injEq, Option.some.injEq, HO.lst.injEq, HO.tup.injEq, HO.ins.injEq, List.cons.injEq, and_true, true_and, exists_eq_left, exists_eq_left', exists_and_left, exists_eq', exists_eq, and_assoc, N_law_spelled, hn]
    refine ⟨⟨_, SqL.of ht1⟩, ?_⟩
    refine lcK_mapL ht1 (by have := hN.1; simp; omega) (fun v => match v with | .str n => .str ("/" ++ n) | v => v) ?_ ?_
    · intro i x H2 k hx sm hk
      rw [List.getElem?_map] at hx
      obtain ⟨z, hz, rfl⟩ := Option.map_eq_some_iff.mp hx
      have := (hN.2 z (List.mem_of_getElem? hz)).2
      try simp only [cxK, r_var, r_c, r_seq, r_next, r_break, r_cont, r_drop, r_ret, r_retN, r_if, r_ife, r_asg, r_name, r_op, r_un, r_nil, r_cons, r_lst2, r_tup2, r_lc, r_for, r_ilist, r_itup, r_istr, r_irng1, r_irng2, r_ienum, r_ienumS, wipe, r_cb, r_test, r_b, r_not, r_notV, r_andV, r_orV, r_isN, r_notN, r_m1, r_m0, r_fld, sFld, putF, r_par, r_sub, r_gtup, r_gnil, r_gcons, r_sl, r_nopart, r_part, r_bm, r_bm0, r_chain, r_call, r_callK, r_meth, r_prop, r_make, r_and, r_or, andT_t, andT_f, orT_t, orT_f, ifK_t, ifK_f, ifE_t, ifE_f, andK_t, andK_f, orK_t, orK_f, L2.start, List.map_cons, List.map_nil, List.length_cons, List.length_nil, List.replicate_succ, List.replicate_zero, List.cons_append, List.nil_append, List.getElem?_cons_succ, List.getElem?_cons_zero, List.set_cons_succ, List.set_cons_zero, Nat.reduceAdd, Nat.reduceSub, Nat.zero_add, decide_true, decide_false, Bool.not_true, Bool.not_false, if_true, if_false, rEq, rNe, scal_ii, scal_ss, scal_bb, scal_is, scal_si, scal_ns, scal_ni, scal_in, scal_sn, scal_nn, rI, rI0, rU, rIxLH, rIxTH, rLenH, rLenTH, rSetL, rCatN, rTupOfN, rLstOfN, rSlLN, rSlTN, CDiv, CPow, CMul, CDivW, upd_same, at0, at1, at2, at3, at4, at5, at6, at7, at8, at9, at10, at11, at12, at13, ix3_0, ix3_1, ix3_2, V.int.injEq, V.bl.injEq, V.str.injEq, V.ref.injEq, Option.some.injEq, HO.lst.injEq, HO.tup.injEq, HO.ins.injEq, List.cons.injEq, and_true, true_and, exists_eq_left, exists_eq_left', exists_and_left, exists_eq', exists_eq, and_assoc, N_law_spelled]
      refine ⟨fits ?_, hk H2 same_refl⟩
      have e : (PySem.Str.ofString "/").length = 1 := by decide
      omega
    · intro D H2 sm nD hD
      refine ⟨D, rfl, ns.map fun n => (PySem.Str.ofString "/") ++ n, Or.inl (SqL.of (by rw [hD, List.map_map, List.map_map] <;> rfl)), glue_fits hN, ?_⟩
      have z := q H2 (same_trans n1.same sm)
      unfold textOf at z
      rw [if_neg hn] at z
      exact z
def spDotted : Sp := fun vs H Q _ => ∃ (a : Addr) (j : Int), vs = [.ref a] ∧ Src H a j ∧ j < 1000000000000 ∧ ∀ (z : Str) (j' : Int) (H' : Hp), isNm z = true → j ≤ j' → j' ≤ j + 13 → Oth a H H' → Src H' a j' → Q (.str z) H'
def DotPv (H : Hp) (a : Addr) (j : Int) (D : Addr) (i : Nat) (acc : List V) (H2 : Hp) : Prop := ∃ (cs : List Nat) (j2 : Int), acc = cs.map (fun c => V.str ⟨#[c]⟩) ∧ (∀ c ∈ cs, c ∈ ([97, 98, 46, 46] : List Nat)) ∧ j ≤ j2 ∧ j2 ≤ j + 1 + i ∧ Oth a H H2 ∧ Src H2 a j2 ∧ H D = none
theorem abdd : (PySem.Str.ofString "ab..").cps.toList = [97, 98, 46, 46] := by decide +kernel
theorem joinL_one : ∀ cs : List Nat, joinL [] (cs.map fun c => [c]) = cs
  | [] => rfl
  | [c] => rfl
  | c :: d :: r => by
    have ih := joinL_one (d :: r)
    show [c] ++ ([] ++ joinL [] ((d :: r).map fun c => [c])) = _
    rw [ih] <;> rfl
theorem join_one {y : Str} (hy : y.cps.toList = []) (cs : List Nat) : (Txt.join y (cs.map fun c => ⟨#[c]⟩)).cps.toList = cs := by
  rw [join_eq]
  have e := tl_join y (cs.map fun c => ⟨#[c]⟩)
  have e2 : (cs.map fun c => (⟨#[c]⟩ : Str)).map tl = cs.map fun c => [c] := by simp [tl]
  rw [e2] at e
  have e3 : tl y = [] := hy
  rw [e3, joinL_one] at e
  exact e
theorem dot3_nm : isNm (PySem.Str.ofString "...") = true := by
  have e : PySem.Str.ofString "..." = ⟨#[46, 46, 46]⟩ := by decide +kernel
  rw [e]
  decide +kernel
theorem ok_law_dotted (T : Tx fa fn K mg) : Fn P w K mg base 3 (aG "_law_dotted" K) [] spDotted := by
  obtain ⟨fd, F⟩ := F_law_dotted T
  refine fn_all F sc_law_dotted (fun vs H Q E h => ?_) (b_law_dotted F) (fun cdv A outer s H vs Q E hr h => ⟨_, (pss_cons (ps_set (i := 1) sc_law_dotted.nd rfl (Or.inl rfl) (pe_join pe_str (pe_lc (own := [("_law_turn", 2)]) (g := gName 2) (tt := tYes) rfl sc_law_dotted.nd (pi_range1 (by rfl) (T.free (T.c.fact 12 (f := fFree "range") rfl)) (pa_cons (pe_op op_add pe_int (pe_fn (ok_law_next T) (hr.mono (by decide)) rfl (g_law_next T) (k_law_next T) passD (pa_cons (pv 0) (pa_cons pe_int pa_nil)))) pa_nil)) (blkOk_by (own := [("_law_turn", 2)]) (N := N_law_dotted) (sc := defScope s_law_dotted) (by decide +kernel)) (fun _ _ _ _ _ => (pg_name (i := 2) sc_law_dotted.nd rfl (Or.inl rfl))) (fun _ _ _ _ _ => pts_nil) (fun _ _ _ _ _ => (pe_fn (ok_law_pickS T) (hr.mono (by decide)) rfl (g_law_pick T) (k_law_pick T) passL (pa_cons (pv 0) (pa_cons pe_str pa_nil)))))))
 (pss_one (ps_ret (pe_ifExp (pt_cmpR op_notIn_seq (pv 1) (pe_tup (pa_cons pe_str (pa_cons pe_str pa_nil))) rfl) (pv 1) pe_str)))), ?_⟩)
  · first | (obtain ⟨_, e, _⟩ := h; subst e; rfl) | (obtain ⟨_, _, e, _⟩ := h; subst e; rfl) | (obtain ⟨_, _, _, e, _⟩ := h; subst e; rfl) | (obtain ⟨_, _, _, _, e, _⟩ := h; subst e; rfl) | (obtain ⟨_, _, _, _, _, e, _⟩ := h; subst e; rfl) | (obtain ⟨_, _, _, _, _, _, e, _⟩ := h; subst e; rfl) | (obtain ⟨_, _, _, _, _, _, _, e, _⟩ := h; subst e; rfl) | (obtain ⟨_, _, _, _, _, _, _, _, e, _⟩ := h; subst e; rfl) | (obtain ⟨_, _, _, _, _, _, _, _, _, e, _⟩ := h; subst e; rfl) | (obtain ⟨_, _, _, _, _, _, _, _, _, _, e, _⟩ := h; subst e; rfl) | (obtain ⟨_, _, _, _, _, _, _, _, _, _, _, e, _⟩ := h; subst e; rfl)
  obtain ⟨a, j, rfl, hs, j1, q⟩ := h
  try simp only [cxK, r_var, r_c, r_seq, r_next, r_break, r_cont, r_drop, r_ret, r_retN, r_if, r_ife, r_asg, r_name, r_op, r_un, r_nil, r_cons, r_lst2, r_tup2, r_lc, r_for, r_ilist, r_itup, r_istr, r_irng1, r_irng2, r_ienum, r_ienumS, wipe, r_cb, r_test, r_b, r_not, r_notV, r_andV, r_orV, r_isN, r_notN, r_m1, r_m0, r_fld, sFld, putF, r_par, r_sub, r_gtup, r_gnil, r_gcons, r_sl, r_nopart, r_part, r_bm, r_bm0, r_chain, r_call, r_callK, r_meth, r_prop, r_make, r_and, r_or, andT_t, andT_f, orT_t, orT_f, ifK_t, ifK_f, ifE_t, ifE_f, andK_t, andK_f, orK_t, orK_f, L2.start, List.map_cons, List.map_nil, List.length_cons, List.length_nil, List.replicate_succ, List.replicate_zero, List.cons_append, List.nil_append, List.getElem?_cons_succ, List.getElem?_cons_zero, List.set_cons_succ, List.set_cons_zero, Nat.reduceAdd, Nat.reduceSub, Nat.zero_add, decide_true, decide_false, Bool.not_true, Bool.not_false, if_true, if_false, rEq, rNe, scal_ii, scal_ss, scal_bb, scal_is, scal_si, scal_ns, scal_ni, scal_in, scal_sn, scal_nn, rI, rI0, rU, rIxLH, rIxTH, rLenH, rLenTH, rSetL, rCatN, rTupOfN, rLstOfN, rSlLN, rSlTN, CDiv, CPow, CMul, CDivW, upd_same, at0, at1, at2, at3, at4, at5, at6, at7, at8, at9, at10, at11, at12, at13, ix3_0, ix3_1, ix3_2, V.int.injEq, V.bl.injEq, V.str.injEq, V.ref.injEq, Option.some.injEq, HO.lst.injEq, HO.tup.injEq, HO.ins.injEq, List.cons.injEq, and_true, true_and, exists_eq_left, exists_eq_left', exists_and_left, exists_eq', exists_eq, and_assoc, N_law_dotted]
  refine ⟨a, 12, j, rfl, by omega, by omega, hs, by omega, fun r j' H' r0 r1 j2 j3 ho hs' => ?_⟩
  try simp only [cxK, r_var, r_c, r_seq, r_next, r_break, r_cont, r_drop, r_ret, r_retN, r_if, r_ife, r_asg, r_name, r_op, r_un, r_nil, r_cons, r_lst2, r_tup2, r_lc, r_for, r_ilist, r_itup, r_istr, r_irng1, r_irng2, r_ienum, r_ienumS, wipe, r_cb, r_test, r_b, r_not, r_notV, r_andV, r_orV, r_isN, r_notN, r_m1, r_m0, r_fld, sFld, putF, r_par, r_sub, r_gtup, r_gnil, r_gcons, r_sl, r_nopart, r_part, r_bm, r_bm0, r_chain, r_call, r_callK, r_meth, r_prop, r_make, r_and, r_or, andT_t, andT_f, orT_t, orT_f, ifK_t, ifK_f, ifE_t, ifE_f, andK_t, andK_f, orK_t, orK_f, L2.start, List.map_cons, List.map_nil, List.length_cons, List.length_nil, List.replicate_succ, List.replicate_zero, List.cons_append, List.nil_append, List.getElem?_cons_succ, List.getElem?_cons_zero, List.set_cons_succ, List.set_cons_zero, Nat.reduceAdd, Nat.reduceSub, Nat.zero_add, decide_true, decide_false, Bool.not_true, Bool.not_false, if_true, if_false, rEq, rNe, scal_ii, scal_ss, scal_bb, scal_is, scal_si, scal_ns, scal_ni, scal_in, scal_sn, scal_nn, rI, rI0, rU, rIxLH, rIxTH, rLenH, rLenTH, rSetL, rCatN, rTupOfN, rLstOfN, rSlLN, rSlTN, CDiv, CPow, CMul, CDivW, upd_same, at0, at1, at2, at3, at4, at5, at6, at7, at8, at9, at10, at11, at12, at13, ix3_0, ix3_1, ix3_2, V.int.injEq, V.bl.injEq, V.str.injEq, V.ref.injEq, Option.some.injEq, HO.lst.injEq, HO.tup.injEq, HO.ins.injEq, List.cons.injEq, and_true, true_and, exists_eq_left, exists_eq_left', exists_and_left, exists_eq', exists_eq, and_assoc, N_law_dotted]
  refine ⟨by omega, by omega, ?_⟩
  refine lcK_rng (DotPv H a j) ?_ ?_ ?_
  · intro D H0 n0
    refine ⟨[], j', rfl, (fun _ h => nomatch h), j2, by simpa using j3, Oth.new ho n0, hs'.same n0.same, ?_⟩
    cases e : H D with
    | none => rfl
    | some o =>
      have hD := ho D o (fun z => hs'.ne n0.1 z.symm) e
      rw [n0.1] at hD
      cases hD
  · rintro D i acc H2 nD hi hD hl ⟨ns, j4, rfl, hN, j5, j6, ho2, hs2, nD0⟩
    try simp only [cxK, r_var, r_c, r_seq, r_next, r_break, r_cont, r_drop, r_ret, r_retN, r_if, r_ife, r_asg, r_name, r_op, r_un, r_nil, r_cons, r_lst2, r_tup2, r_lc, r_for, r_ilist, r_itup, r_istr, r_irng1, r_irng2, r_ienum, r_ienumS, wipe, r_cb, r_test, r_b, r_not, r_notV, r_andV, r_orV, r_isN, r_notN, r_m1, r_m0, r_fld, sFld, putF, r_par, r_sub, r_gtup, r_gnil, r_gcons, r_sl, r_nopart, r_part, r_bm, r_bm0, r_chain, r_call, r_callK, r_meth, r_prop, r_make, r_and, r_or, andT_t, andT_f, orT_t, orT_f, ifK_t, ifK_f, ifE_t, ifE_f, andK_t, andK_f, orK_t, orK_f, L2.start, List.map_cons, List.map_nil, List.length_cons, List.length_nil, List.replicate_succ, List.replicate_zero, List.cons_append, List.nil_append, List.getElem?_cons_succ, List.getElem?_cons_zero, List.set_cons_succ, List.set_cons_zero, Nat.reduceAdd, Nat.reduceSub, Nat.zero_add, decide_true, decide_false, Bool.not_true, Bool.not_false, if_true, if_false, rEq, rNe, scal_ii, scal_ss, scal_bb, scal_is, scal_si, scal_ns, scal_ni, scal_in, scal_sn, scal_nn, rI, rI0, rU, rIxLH, rIxTH, rLenH, rLenTH, rSetL, rCatN, rTupOfN, rLstOfN, rSlLN, rSlTN, CDiv, CPow, CMul, CDivW, upd_same, at0, at1, at2, at3, at4, at5, at6, at7, at8, at9, at10, at11, at12, at13, ix3_0, ix3_1, ix3_2, V.int.injEq, V.bl.injEq, V.str.injEq, V.ref.injEq, Option.some.injEq, HO.lst.injEq, HO.tup.injEq, HO.ins.injEq, List.cons.injEq, and_true, true_and, exists_eq_left, exists_eq_left', exists_and_left, exists_eq', exists_eq, and_assoc, N_law_dotted]
    have aD : D ≠ a := fun e => by
      obtain ⟨c, d, e2, _⟩ := hs2
      rw [e, e2] at hD
      cases ns with
      | nil => cases hD
      | cons x r => cases hD
    refine ⟨a, _, j4, rfl, by decide +kernel, by decide +kernel, hs2, by omega, fun c j7 H3 hz j8 j9 ho3 hs3 => ?_⟩
    rw [abdd] at hz
    have hD3 := ho3 D _ aD hD
    refine addK_mk hD3 hl (by omega) ⟨ns ++ [c], j7, by simp, fun x hx => ?_, by omega, by omega, Oth.fresh (Oth.trans ho2 ho3) nD0, hs3.upd (.inr (Ne.symm aD)), nD0⟩
    rcases List.mem_append.mp hx with h | h
    · exact hN x h
    · simp at h
      subst h
      exact hz
  · rintro D acc H2 nD hD hl ⟨cs, j4, rfl, hN, j5, j6, ho2, hs2, nD0⟩
    have hl2 : cs.length = (1 + r).toNat := by simpa using hl
    have ln : (PySem.Str.ofString "").cps.toList = [] := by decide +kernel
    have ln2 : (PySem.Str.ofString "").length = 0 := by decide +kernel
    have jo := join_one ln cs
    refine ⟨D, rfl, cs.map fun c => ⟨#[c]⟩, Or.inl (SqL.of (by rw [hD, List.map_map] <;> rfl)), ?_, ?_⟩
    · rw [ln2]
      have := sum_le (cs.map fun c => (⟨#[c]⟩ : Str)) 1 (fun x hx => by
        obtain ⟨y, hy, rfl⟩ := List.mem_map.mp hx
        exact Nat.le_refl 1)
      rw [List.length_map] at this
      omega
    · generalize hz : Txt.join (PySem.Str.ofString "") (cs.map fun c => ⟨#[c]⟩) = z at jo ⊢
      have zl : z.length = cs.length := by rw [len_tl, tl, jo]
      have hall : z.cps.toList.all (fun c => decide (c ∈ sgns)) = true := by
        rw [jo, List.all_eq_true]
        intro c hc
        have k : ([97, 98, 46, 46] : List Nat).all (fun c => decide (c ∈ sgns)) = true := by decide
        exact (List.all_eq_true.mp k) c (hN c hc)
      try simp only [cxK, r_var, r_c, r_seq, r_next, r_break, r_cont, r_drop, r_ret, r_retN, r_if, r_ife, r_asg, r_name, r_op, r_un, r_nil, r_cons, r_lst2, r_tup2, r_lc, r_for, r_ilist, r_itup, r_istr, r_irng1, r_irng2, r_ienum, r_ienumS, wipe, r_cb, r_test, r_b, r_not, r_notV, r_andV, r_orV, r_isN, r_notN, r_m1, r_m0, r_fld, sFld, putF, r_par, r_sub, r_gtup, r_gnil, r_gcons, r_sl, r_nopart, r_part, r_bm, r_bm0, r_chain, r_call, r_callK, r_meth, r_prop, r_make, r_and, r_or, andT_t, andT_f, orT_t, orT_f, ifK_t, ifK_f, ifE_t, ifE_f, andK_t, andK_f, orK_t, orK_f, L2.start, List.map_cons, List.map_nil, List.length_cons, List.length_nil, List.replicate_succ, List.replicate_zero, List.cons_append, List.nil_append, List.getElem?_cons_succ, List.getElem?_cons_zero, List.set_cons_succ, List.set_cons_zero, Nat.reduceAdd, Nat.reduceSub, Nat.zero_add, decide_true, decide_false, Bool.not_true, Bool.not_false, if_true, if_false, rEq, rNe, scal_ii, scal_ss, scal_bb, scal_is, scal_si, scal_ns, scal_ni, scal_in, scal_sn, scal_nn, rI, rI0, rU, rIxLH, rIxTH, rLenH, rLenTH, rSetL, rCatN, rTupOfN, rLstOfN, rSlLN, rSlTN, CDiv, CPow, CMul, CDivW, upd_same, at0, at1, at2, at3, at4, at5, at6, at7, at8, at9, at10, at11, at12, at13, ix3_0, ix3_1, ix3_2, V.int.injEq, V.bl.injEq, V.str.injEq, V.ref.injEq, Option.some.injEq, HO.lst.injEq, HO.tup.injEq, HO.ins.injEq, List.cons.injEq, and_true, true_and, exists_eq_left, exists_eq_left', exists_and_left, exists_eq', exists_eq, and_assoc, N_law_dotted]
      refine ⟨fits (by decide), fun p H3 n3 => ⟨p, _, rfl, Or.inr (SqT.of n3.at_), rfl, rfl, ?_⟩⟩
      have e : inV (V.str z) [V.str (PySem.Str.ofString "."), V.str (PySem.Str.ofString "..")] = (z == pt1 || z == pt2) := by
        rw [pt1_eq, pt2_eq]
        show ((pt1 == z) || ((pt2 == z) || false)) = _
        rw [Bool.or_false, BEq.comm (a := pt1), BEq.comm (a := pt2)]
      have ho3 : Oth a H H3 := Oth.new ho2 n3
      have hs3 : Src H3 a j4 := hs2.same n3.same
      rw [if_pos rfl, e]
      cases h3 : (z == pt1 || z == pt2) with
      | true =>
        try simp only [cxK, r_var, r_c, r_seq, r_next, r_break, r_cont, r_drop, r_ret, r_retN, r_if, r_ife, r_asg, r_name, r_op, r_un, r_nil, r_cons, r_lst2, r_tup2, r_lc, r_for, r_ilist, r_itup, r_istr, r_irng1, r_irng2, r_ienum, r_ienumS, wipe, r_cb, r_test, r_b, r_not, r_notV, r_andV, r_orV, r_isN, r_notN, r_m1, r_m0, r_fld, sFld, putF, r_par, r_sub, r_gtup, r_gnil, r_gcons, r_sl, r_nopart, r_part, r_bm, r_bm0, r_chain, r_call, r_callK, r_meth, r_prop, r_make, r_and, r_or, andT_t, andT_f, orT_t, orT_f, ifK_t, ifK_f, ifE_t, ifE_f, andK_t, andK_f, orK_t, orK_f, L2.start, List.map_cons, List.map_nil, List.length_cons, List.length_nil, List.replicate_succ, List.replicate_zero, List.cons_append, List.nil_append, List.getElem?_cons_succ, List.getElem?_cons_zero, List.set_cons_succ, List.set_cons_zero, Nat.reduceAdd, Nat.reduceSub, Nat.zero_add, decide_true, decide_false, Bool.not_true, Bool.not_false, if_true, if_false, rEq, rNe, scal_ii, scal_ss, scal_bb, scal_is, scal_si, scal_ns, scal_ni, scal_in, scal_sn, scal_nn, rI, rI0, rU, rIxLH, rIxTH, rLenH, rLenTH, rSetL, rCatN, rTupOfN, rLstOfN, rSlLN, rSlTN, CDiv, CPow, CMul, CDivW, upd_same, at0, at1, at2, at3, at4, at5, at6, at7, at8, at9, at10, at11, at12, at13, ix3_0, ix3_1, ix3_2, V.int.injEq, V.bl.injEq, V.str.injEq, V.ref.injEq, Option.some.injEq, HO.lst.injEq, HO.tup.injEq, HO.ins.injEq, List.cons.injEq, and_true, true_and, exists_eq_left, exists_eq_left', exists_and_left, exists_eq', exists_eq, and_assoc, N_law_dotted]
        exact q _ j4 H3 dot3_nm j5 (by omega) ho3 hs3
      | false =>
        try simp only [cxK, r_var, r_c, r_seq, r_next, r_break, r_cont, r_drop, r_ret, r_retN, r_if, r_ife, r_asg, r_name, r_op, r_un, r_nil, r_cons, r_lst2, r_tup2, r_lc, r_for, r_ilist, r_itup, r_istr, r_irng1, r_irng2, r_ienum, r_ienumS, wipe, r_cb, r_test, r_b, r_not, r_notV, r_andV, r_orV, r_isN, r_notN, r_m1, r_m0, r_fld, sFld, putF, r_par, r_sub, r_gtup, r_gnil, r_gcons, r_sl, r_nopart, r_part, r_bm, r_bm0, r_chain, r_call, r_callK, r_meth, r_prop, r_make, r_and, r_or, andT_t, andT_f, orT_t, orT_f, ifK_t, ifK_f, ifE_t, ifE_f, andK_t, andK_f, orK_t, orK_f, L2.start, List.map_cons, List.map_nil, List.length_cons, List.length_nil, List.replicate_succ, List.replicate_zero, List.cons_append, List.nil_append, List.getElem?_cons_succ, List.getElem?_cons_zero, List.set_cons_succ, List.set_cons_zero, Nat.reduceAdd, Nat.reduceSub, Nat.zero_add, decide_true, decide_false, Bool.not_true, Bool.not_false, if_true, if_false, rEq, rNe, scal_ii, scal_ss, scal_bb, scal_is, scal_si, scal_ns, scal_ni, scal_in, scal_sn, scal_nn, rI, rI0, rU, rIxLH, rIxTH, rLenH, rLenTH, rSetL, rCatN, rTupOfN, rLstOfN, rSlLN, rSlTN, CDiv, CPow, CMul, CDivW, upd_same, at0, at1, at2, at3, at4, at5, at6, at7, at8, at9, at10, at11, at12, at13, ix3_0, ix3_1, ix3_2, V.int.injEq, V.bl.injEq, V.str.injEq, V.ref.injEq, Option.some.injEq, HO.lst.injEq, HO.tup.injEq, HO.ins.injEq, List.cons.injEq, and_true, true_and, exists_eq_left, exists_eq_left', exists_and_left, exists_eq', exists_eq, and_assoc, N_law_dotted]
        refine q _ j4 H3 ?_ j5 (by omega) ho3 hs3
        unfold isNm
        rw [h3, hall]
        have a1 : 1 ≤ z.length := by omega
        have a2 : z.length ≤ 12 := by omega
        simp [a1, a2]
def CutPv (H : Hp) (z : Str) (i : Nat) (σ : L2.St) (H' : Hp) : Prop := ∃ (s : Int) (v2 v3 : Option V), σ = [some (.str z), some (.int s), v2, v3] ∧ IsLast 46 (z.cps.toList.take i) s ∧ Same H H'
def spCut : Sp := fun vs H Q _ => ∃ z : Str, vs = [.str z] ∧ z.length ≤ 16000000 ∧ ∀ H' t, Same H H' → H' t = some (.lst [.str (partsOf z).1, .str (partsOf z).2]) → Q (.ref t) H'
theorem ok_law_cut (T : Tx fa fn K mg) : Fn P w K mg base 1 (aG "_law_cut" K) [] spCut := by
  obtain ⟨fd, F⟩ := F_law_cut T
  refine fn_all F sc_law_cut (fun vs H Q E h => ?_) (b_law_cut F) (fun cdv A outer s H vs Q E hr h => ⟨_, (pss_cons (ps_set (i := 1) sc_law_cut.nd rfl (Or.inl rfl) (pe_un un_neg pe_int))
 (pss_cons (ps_for passO rfl (pi_enumS (by rfl) (T.free (T.c.fact 13 (f := fFree "enumerate") rfl)) (pa_cons (pv 0) pa_nil)) (pg_tup (by rfl) (pgs_cons (pg_name (i := 2) sc_law_cut.nd rfl (Or.inl rfl)) (pgs_cons (pg_name (i := 3) sc_law_cut.nd rfl (Or.inl rfl)) pgs_nil)))
 (pss_one (ps_set (i := 1) sc_law_cut.nd rfl (Or.inl rfl) (pe_ifExp (pt_cmpR op_eq (pv 3) pe_str (nomark _)) (pv 2) (pv 1)))))
 (pss_one (ps_ret (pe_ifExp (pt_chain op_lt op_lt pe_int (pv 1) (pe_op op_sub (pe_callB call_len_str (by rfl) (T.free (T.c.fact 0 (f := fFree "len") rfl)) (by decide +kernel) (pa_cons (pv 0) pa_nil)) pe_int)) (pe_lst (pa_cons (pe_slice sl_str (pv 0) po_none (po_some (pv 1))) (pa_cons (pe_slice sl_str (pv 0) (po_some (pv 1)) po_none) pa_nil))) (pe_lst (pa_cons (pv 0) (pa_cons pe_str pa_nil)))))))), ?_⟩)
  · first | (obtain ⟨_, e, _⟩ := h; subst e; rfl) | (obtain ⟨_, _, e, _⟩ := h; subst e; rfl) | (obtain ⟨_, _, _, e, _⟩ := h; subst e; rfl) | (obtain ⟨_, _, _, _, e, _⟩ := h; subst e; rfl) | (obtain ⟨_, _, _, _, _, e, _⟩ := h; subst e; rfl) | (obtain ⟨_, _, _, _, _, _, e, _⟩ := h; subst e; rfl) | (obtain ⟨_, _, _, _, _, _, _, e, _⟩ := h; subst e; rfl) | (obtain ⟨_, _, _, _, _, _, _, _, e, _⟩ := h; subst e; rfl) | (obtain ⟨_, _, _, _, _, _, _, _, _, e, _⟩ := h; subst e; rfl) | (obtain ⟨_, _, _, _, _, _, _, _, _, _, e, _⟩ := h; subst e; rfl) | (obtain ⟨_, _, _, _, _, _, _, _, _, _, _, e, _⟩ := h; subst e; rfl)
  obtain ⟨z, rfl, hz, q⟩ := h
  try simp only [cxK, r_var, r_c, r_seq, r_next, r_break, r_cont, r_drop, r_ret, r_retN, r_if, r_ife, r_asg, r_name, r_op, r_un, r_nil, r_cons, r_lst2, r_tup2, r_lc, r_for, r_ilist, r_itup, r_istr, r_irng1, r_irng2, r_ienum, r_ienumS, wipe, r_cb, r_test, r_b, r_not, r_notV, r_andV, r_orV, r_isN, r_notN, r_m1, r_m0, r_fld, sFld, putF, r_par, r_sub, r_gtup, r_gnil, r_gcons, r_sl, r_nopart, r_part, r_bm, r_bm0, r_chain, r_call, r_callK, r_meth, r_prop, r_make, r_and, r_or, andT_t, andT_f, orT_t, orT_f, ifK_t, ifK_f, ifE_t, ifE_f, andK_t, andK_f, orK_t, orK_f, L2.start, List.map_cons, List.map_nil, List.length_cons, List.length_nil, List.replicate_succ, List.replicate_zero, List.cons_append, List.nil_append, List.getElem?_cons_succ, List.getElem?_cons_zero, List.set_cons_succ, List.set_cons_zero, Nat.reduceAdd, Nat.reduceSub, Nat.zero_add, decide_true, decide_false, Bool.not_true, Bool.not_false, if_true, if_false, rEq, rNe, scal_ii, scal_ss, scal_bb, scal_is, scal_si, scal_ns, scal_ni, scal_in, scal_sn, scal_nn, rI, rI0, rU, rIxLH, rIxTH, rLenH, rLenTH, rSetL, rCatN, rTupOfN, rLstOfN, rSlLN, rSlTN, CDiv, CPow, CMul, CDivW, upd_same, at0, at1, at2, at3, at4, at5, at6, at7, at8, at9, at10, at11, at12, at13, ix3_0, ix3_1, ix3_2, V.int.injEq, V.bl.injEq, V.str.injEq, V.ref.injEq, Option.some.injEq, HO.lst.injEq, HO.tup.injEq, HO.ins.injEq, List.cons.injEq, and_true, true_and, exists_eq_left, exists_eq_left', exists_and_left, exists_eq', exists_eq, and_assoc, N_law_cut]
  refine forK_it walk_Ies (CutPv H z) ⟨-1, none, none, rfl, IsLast.nil, same_refl⟩ (fun _ _ _ _ _ => trivial) ?_ ?_
  · rintro i x σ H1 H2 hi ⟨s, v2, v3, rfl, hl, sm⟩ ⟨t, c, rfl, nt, rfl, hc⟩
    have hc2 : z.cps.toList[i]? = some c := by simpa using hc
    try simp only [cxK, r_var, r_c, r_seq, r_next, r_break, r_cont, r_drop, r_ret, r_retN, r_if, r_ife, r_asg, r_name, r_op, r_un, r_nil, r_cons, r_lst2, r_tup2, r_lc, r_for, r_ilist, r_itup, r_istr, r_irng1, r_irng2, r_ienum, r_ienumS, wipe, r_cb, r_test, r_b, r_not, r_notV, r_andV, r_orV, r_isN, r_notN, r_m1, r_m0, r_fld, sFld, putF, r_par, r_sub, r_gtup, r_gnil, r_gcons, r_sl, r_nopart, r_part, r_bm, r_bm0, r_chain, r_call, r_callK, r_meth, r_prop, r_make, r_and, r_or, andT_t, andT_f, orT_t, orT_f, ifK_t, ifK_f, ifE_t, ifE_f, andK_t, andK_f, orK_t, orK_f, L2.start, List.map_cons, List.map_nil, List.length_cons, List.length_nil, List.replicate_succ, List.replicate_zero, List.cons_append, List.nil_append, List.getElem?_cons_succ, List.getElem?_cons_zero, List.set_cons_succ, List.set_cons_zero, Nat.reduceAdd, Nat.reduceSub, Nat.zero_add, decide_true, decide_false, Bool.not_true, Bool.not_false, if_true, if_false, rEq, rNe, scal_ii, scal_ss, scal_bb, scal_is, scal_si, scal_ns, scal_ni, scal_in, scal_sn, scal_nn, rI, rI0, rU, rIxLH, rIxTH, rLenH, rLenTH, rSetL, rCatN, rTupOfN, rLstOfN, rSlLN, rSlTN, CDiv, CPow, CMul, CDivW, upd_same, at0, at1, at2, at3, at4, at5, at6, at7, at8, at9, at10, at11, at12, at13, ix3_0, ix3_1, ix3_2, V.int.injEq, V.bl.injEq, V.str.injEq, V.ref.injEq, Option.some.injEq, HO.lst.injEq, HO.tup.injEq, HO.ins.injEq, List.cons.injEq, and_true, true_and, exists_eq_left, exists_eq_left', exists_and_left, exists_eq', exists_eq, and_assoc, N_law_cut]
    refine ⟨_, SqT.of upd_same, rfl, ?_⟩
    try simp only [cxK, r_var, r_c, r_seq, r_next, r_break, r_cont, r_drop, r_ret, r_retN, r_if, r_ife, r_asg, r_name, r_op, r_un, r_nil, r_cons, r_lst2, r_tup2, r_lc, r_for, r_ilist, r_itup, r_istr, r_irng1, r_irng2, r_ienum, r_ienumS, wipe, r_cb, r_test, r_b, r_not, r_notV, r_andV, r_orV, r_isN, r_notN, r_m1, r_m0, r_fld, sFld, putF, r_par, r_sub, r_gtup, r_gnil, r_gcons, r_sl, r_nopart, r_part, r_bm, r_bm0, r_chain, r_call, r_callK, r_meth, r_prop, r_make, r_and, r_or, andT_t, andT_f, orT_t, orT_f, ifK_t, ifK_f, ifE_t, ifE_f, andK_t, andK_f, orK_t, orK_f, L2.start, List.map_cons, List.map_nil, List.length_cons, List.length_nil, List.replicate_succ, List.replicate_zero, List.cons_append, List.nil_append, List.getElem?_cons_succ, List.getElem?_cons_zero, List.set_cons_succ, List.set_cons_zero, Nat.reduceAdd, Nat.reduceSub, Nat.zero_add, decide_true, decide_false, Bool.not_true, Bool.not_false, if_true, if_false, rEq, rNe, scal_ii, scal_ss, scal_bb, scal_is, scal_si, scal_ns, scal_ni, scal_in, scal_sn, scal_nn, rI, rI0, rU, rIxLH, rIxTH, rLenH, rLenTH, rSetL, rCatN, rTupOfN, rLstOfN, rSlLN, rSlTN, CDiv, CPow, CMul, CDivW, upd_same, at0, at1, at2, at3, at4, at5, at6, at7, at8, at9, at10, at11, at12, at13, ix3_0, ix3_1, ix3_2, V.int.injEq, V.bl.injEq, V.str.injEq, V.ref.injEq, Option.some.injEq, HO.lst.injEq, HO.tup.injEq, HO.ins.injEq, List.cons.injEq, and_true, true_and, exists_eq_left, exists_eq_left', exists_and_left, exists_eq', exists_eq, and_assoc, N_law_cut]
    have st := hl.step (x := c)
    have e : z.cps.toList.take (i + 1) = z.cps.toList.take i ++ [c] := by rw [List.take_add_one, hc2] <;> rfl
    rw [← e] at st
    have len : (z.cps.toList.take i).length = i := by rw [List.length_take]; have := hi; simp; omega
    rw [len] at st
    rw [pt1_eq]
    have sm2 : Same H (upd H1 t (.tup [.int (i : Nat), .str ⟨#[c]⟩])) := same_trans sm (IsNew.same ⟨nt, rfl⟩)
    by_cases h46 : c = 46
    · subst h46
      have ee : ((⟨#[46]⟩ : Str) = pt1) = True := eq_true rfl
      try simp only [cxK, r_var, r_c, r_seq, r_next, r_break, r_cont, r_drop, r_ret, r_retN, r_if, r_ife, r_asg, r_name, r_op, r_un, r_nil, r_cons, r_lst2, r_tup2, r_lc, r_for, r_ilist, r_itup, r_istr, r_irng1, r_irng2, r_ienum, r_ienumS, wipe, r_cb, r_test, r_b, r_not, r_notV, r_andV, r_orV, r_isN, r_notN, r_m1, r_m0, r_fld, sFld, putF, r_par, r_sub, r_gtup, r_gnil, r_gcons, r_sl, r_nopart, r_part, r_bm, r_bm0, r_chain, r_call, r_callK, r_meth, r_prop, r_make, r_and, r_or, andT_t, andT_f, orT_t, orT_f, ifK_t, ifK_f, ifE_t, ifE_f, andK_t, andK_f, orK_t, orK_f, L2.start, List.map_cons, List.map_nil, List.length_cons, List.length_nil, List.replicate_succ, List.replicate_zero, List.cons_append, List.nil_append, List.getElem?_cons_succ, List.getElem?_cons_zero, List.set_cons_succ, List.set_cons_zero, Nat.reduceAdd, Nat.reduceSub, Nat.zero_add, decide_true, decide_false, Bool.not_true, Bool.not_false, if_true, if_false, rEq, rNe, scal_ii, scal_ss, scal_bb, scal_is, scal_si, scal_ns, scal_ni, scal_in, scal_sn, scal_nn, rI, rI0, rU, rIxLH, rIxTH, rLenH, rLenTH, rSetL, rCatN, rTupOfN, rLstOfN, rSlLN, rSlTN, CDiv, CPow, CMul, CDivW, upd_same, at0, at1, at2, at3, at4, at5, at6, at7, at8, at9, at10, at11, at12, at13, ix3_0, ix3_1, ix3_2, V.int.injEq, V.bl.injEq, V.str.injEq, V.ref.injEq, Option.some.injEq, HO.lst.injEq, HO.tup.injEq, HO.ins.injEq, List.cons.injEq, and_true, true_and, exists_eq_left, exists_eq_left', exists_and_left, exists_eq', exists_eq, and_assoc, N_law_cut, ee]
      rw [if_pos rfl] at st
      exact ⟨i, _, _, rfl, st, sm2⟩
    · have ee : ((⟨#[c]⟩ : Str) = pt1) = False := eq_false fun h => by
        have := congrArg (fun s : Str => s.cps.toList) h
        simp [pt1] at this
        exact h46 this
      try simp only [cxK, r_var, r_c, r_seq, r_next, r_break, r_cont, r_drop, r_ret, r_retN, r_if, r_ife, r_asg, r_name, r_op, r_un, r_nil, r_cons, r_lst2, r_tup2, r_lc, r_for, r_ilist, r_itup, r_istr, r_irng1, r_irng2, r_ienum, r_ienumS, wipe, r_cb, r_test, r_b, r_not, r_notV, r_andV, r_orV, r_isN, r_notN, r_m1, r_m0, r_fld, sFld, putF, r_par, r_sub, r_gtup, r_gnil, r_gcons, r_sl, r_nopart, r_part, r_bm, r_bm0, r_chain, r_call, r_callK, r_meth, r_prop, r_make, r_and, r_or, andT_t, andT_f, orT_t, orT_f, ifK_t, ifK_f, ifE_t, ifE_f, andK_t, andK_f, orK_t, orK_f, L2.start, List.map_cons, List.map_nil, List.length_cons, List.length_nil, List.replicate_succ, List.replicate_zero, List.cons_append, List.nil_append, List.getElem?_cons_succ, List.getElem?_cons_zero, List.set_cons_succ, List.set_cons_zero, Nat.reduceAdd, Nat.reduceSub, Nat.zero_add, decide_true, decide_false, Bool.not_true, Bool.not_false, if_true, if_false, rEq, rNe, scal_ii, scal_ss, scal_bb, scal_is, scal_si, scal_ns, scal_ni, scal_in, scal_sn, scal_nn, rI, rI0, rU, rIxLH, rIxTH, rLenH, rLenTH, rSetL, rCatN, rTupOfN, rLstOfN, rSlLN, rSlTN, CDiv, CPow, CMul, CDivW, upd_same, at0, at1, at2, at3, at4, at5, at6, at7, at8, at9, at10, at11, at12, at13, ix3_0, ix3_1, ix3_2, V.int.injEq, V.bl.injEq, V.str.injEq, V.ref.injEq, Option.some.injEq, HO.lst.injEq, HO.tup.injEq, HO.ins.injEq, List.cons.injEq, and_true, true_and, exists_eq_left, exists_eq_left', exists_and_left, exists_eq', exists_eq, and_assoc, N_law_cut, ee]
      rw [if_neg h46] at st
      exact ⟨s, _, _, rfl, st, sm2⟩
  · rintro σ H1 ⟨s, v2, v3, rfl, hl, sm⟩
    have hl2 : IsLast 46 z.cps.toList s := by
      rw [List.take_of_length_le (by simp)] at hl
      exact hl
    have es : s = Txt.rfind z "." := by
      rw [pt1_eq]
      exact hl2.uniq (rfind_last z 46)
    subst es
    try simp only [cxK, r_var, r_c, r_seq, r_next, r_break, r_cont, r_drop, r_ret, r_retN, r_if, r_ife, r_asg, r_name, r_op, r_un, r_nil, r_cons, r_lst2, r_tup2, r_lc, r_for, r_ilist, r_itup, r_istr, r_irng1, r_irng2, r_ienum, r_ienumS, wipe, r_cb, r_test, r_b, r_not, r_notV, r_andV, r_orV, r_isN, r_notN, r_m1, r_m0, r_fld, sFld, putF, r_par, r_sub, r_gtup, r_gnil, r_gcons, r_sl, r_nopart, r_part, r_bm, r_bm0, r_chain, r_call, r_callK, r_meth, r_prop, r_make, r_and, r_or, andT_t, andT_f, orT_t, orT_f, ifK_t, ifK_f, ifE_t, ifE_f, andK_t, andK_f, orK_t, orK_f, L2.start, List.map_cons, List.map_nil, List.length_cons, List.length_nil, List.replicate_succ, List.replicate_zero, List.cons_append, List.nil_append, List.getElem?_cons_succ, List.getElem?_cons_zero, List.set_cons_succ, List.set_cons_zero, Nat.reduceAdd, Nat.reduceSub, Nat.zero_add, decide_true, decide_false, Bool.not_true, Bool.not_false, if_true, if_false, rEq, rNe, scal_ii, scal_ss, scal_bb, scal_is, scal_si, scal_ns, scal_ni, scal_in, scal_sn, scal_nn, rI, rI0, rU, rIxLH, rIxTH, rLenH, rLenTH, rSetL, rCatN, rTupOfN, rLstOfN, rSlLN, rSlTN, CDiv, CPow, CMul, CDivW, upd_same, at0, at1, at2, at3, at4, at5, at6, at7, at8, at9, at10, at11, at12, at13, ix3_0, ix3_1, ix3_2, V.int.injEq, V.bl.injEq, V.str.injEq, V.ref.injEq, Option.some.injEq, HO.lst.injEq, HO.tup.injEq, HO.ins.injEq, List.cons.injEq, and_true, true_and, exists_eq_left, exists_eq_left', exists_and_left, exists_eq', exists_eq, and_assoc, N_law_cut]
    by_cases h1 : 0 < Txt.rfind z "."
    · try simp only [cxK, r_var, r_c, r_seq, r_next, r_break, r_cont, r_drop, r_ret, r_retN, r_if, r_ife, r_asg, r_name, r_op, r_un, r_nil, r_cons, r_lst2, r_tup2, r_lc, r_for, r_ilist, r_itup, r_istr, r_irng1, r_irng2, r_ienum, r_ienumS, wipe, r_cb, r_test, r_b, r_not, r_notV, r_andV, r_orV, r_isN, r_notN, r_m1, r_m0, r_fld, sFld, putF, r_par, r_sub, r_gtup, r_gnil, r_gcons, r_sl, r_nopart, r_part, r_bm, r_bm0, r_chain, r_call, r_callK, r_meth, r_prop, r_make, r_and, r_or, andT_t, andT_f, orT_t, orT_f, ifK_t, ifK_f, ifE_t, ifE_f, andK_t, andK_f, orK_t, orK_f, L2.start, List.map_cons, List.map_nil, List.length_cons, List.length_nil, List.replicate_succ, List.replicate_zero, List.cons_append, List.nil_append, List.getElem?_cons_succ, List.getElem?_cons_zero, List.set_cons_succ, List.set_cons_zero, Nat.reduceAdd, Nat.reduceSub, Nat.zero_add, decide_true, decide_false, Bool.not_true, Bool.not_false, if_true, if_false, rEq, rNe, scal_ii, scal_ss, scal_bb, scal_is, scal_si, scal_ns, scal_ni, scal_in, scal_sn, scal_nn, rI, rI0, rU, rIxLH, rIxTH, rLenH, rLenTH, rSetL, rCatN, rTupOfN, rLstOfN, rSlLN, rSlTN, CDiv, CPow, CMul, CDivW, upd_same, at0, at1, at2, at3, at4, at5, at6, at7, at8, at9, at10, at11, at12, at13, ix3_0, ix3_1, ix3_2, V.int.injEq, V.bl.injEq, V.str.injEq, V.ref.injEq, Option.some.injEq, HO.lst.injEq, HO.tup.injEq, HO.ins.injEq, List.cons.injEq, and_true, true_and, exists_eq_left, exists_eq_left', exists_and_left, exists_eq', exists_eq, and_assoc, N_law_cut, h1]
      refine ⟨fits (by omega), ?_⟩
      by_cases h2 : Txt.rfind z "." < (z.length : Int) - 1
      · try simp only [cxK, r_var, r_c, r_seq, r_next, r_break, r_cont, r_drop, r_ret, r_retN, r_if, r_ife, r_asg, r_name, r_op, r_un, r_nil, r_cons, r_lst2, r_tup2, r_lc, r_for, r_ilist, r_itup, r_istr, r_irng1, r_irng2, r_ienum, r_ienumS, wipe, r_cb, r_test, r_b, r_not, r_notV, r_andV, r_orV, r_isN, r_notN, r_m1, r_m0, r_fld, sFld, putF, r_par, r_sub, r_gtup, r_gnil, r_gcons, r_sl, r_nopart, r_part, r_bm, r_bm0, r_chain, r_call, r_callK, r_meth, r_prop, r_make, r_and, r_or, andT_t, andT_f, orT_t, orT_f, ifK_t, ifK_f, ifE_t, ifE_f, andK_t, andK_f, orK_t, orK_f, L2.start, List.map_cons, List.map_nil, List.length_cons, List.length_nil, List.replicate_succ, List.replicate_zero, List.cons_append, List.nil_append, List.getElem?_cons_succ, List.getElem?_cons_zero, List.set_cons_succ, List.set_cons_zero, Nat.reduceAdd, Nat.reduceSub, Nat.zero_add, decide_true, decide_false, Bool.not_true, Bool.not_false, if_true, if_false, rEq, rNe, scal_ii, scal_ss, scal_bb, scal_is, scal_si, scal_ns, scal_ni, scal_in, scal_sn, scal_nn, rI, rI0, rU, rIxLH, rIxTH, rLenH, rLenTH, rSetL, rCatN, rTupOfN, rLstOfN, rSlLN, rSlTN, CDiv, CPow, CMul, CDivW, upd_same, at0, at1, at2, at3, at4, at5, at6, at7, at8, at9, at10, at11, at12, at13, ix3_0, ix3_1, ix3_2, V.int.injEq, V.bl.injEq, V.str.injEq, V.ref.injEq, Option.some.injEq, HO.lst.injEq, HO.tup.injEq, HO.ins.injEq, List.cons.injEq, and_true, true_and, exists_eq_left, exists_eq_left', exists_and_left, exists_eq', exists_eq, and_assoc, N_law_cut, h2]
        refine ⟨z, rfl, fits (by omega), z, rfl, fits (by omega), fits (by decide), fun p H1 n1 => q H1 p (same_trans sm n1.same) ?_⟩
        have e : partsOf z = (cutS z none (some (Txt.rfind z ".")), cutS z (some (Txt.rfind z ".")) none) := if_pos ⟨h1, h2⟩
        rw [e]
        exact n1.at_
      · try simp only [cxK, r_var, r_c, r_seq, r_next, r_break, r_cont, r_drop, r_ret, r_retN, r_if, r_ife, r_asg, r_name, r_op, r_un, r_nil, r_cons, r_lst2, r_tup2, r_lc, r_for, r_ilist, r_itup, r_istr, r_irng1, r_irng2, r_ienum, r_ienumS, wipe, r_cb, r_test, r_b, r_not, r_notV, r_andV, r_orV, r_isN, r_notN, r_m1, r_m0, r_fld, sFld, putF, r_par, r_sub, r_gtup, r_gnil, r_gcons, r_sl, r_nopart, r_part, r_bm, r_bm0, r_chain, r_call, r_callK, r_meth, r_prop, r_make, r_and, r_or, andT_t, andT_f, orT_t, orT_f, ifK_t, ifK_f, ifE_t, ifE_f, andK_t, andK_f, orK_t, orK_f, L2.start, List.map_cons, List.map_nil, List.length_cons, List.length_nil, List.replicate_succ, List.replicate_zero, List.cons_append, List.nil_append, List.getElem?_cons_succ, List.getElem?_cons_zero, List.set_cons_succ, List.set_cons_zero, Nat.reduceAdd, Nat.reduceSub, Nat.zero_add, decide_true, decide_false, Bool.not_true, Bool.not_false, if_true, if_false, rEq, rNe, scal_ii, scal_ss, scal_bb, scal_is, scal_si, scal_ns, scal_ni, scal_in, scal_sn, scal_nn, rI, rI0, rU, rIxLH, rIxTH, rLenH, rLenTH, rSetL, rCatN, rTupOfN, rLstOfN, rSlLN, rSlTN, CDiv, CPow, CMul, CDivW, upd_same, at0, at1, at2, at3, at4, at5, at6, at7, at8, at9, at10, at11, at12, at13, ix3_0, ix3_1, ix3_2, V.int.injEq, V.bl.injEq, V.str.injEq, V.ref.injEq, Option.some.injEq, HO.lst.injEq, HO.tup.injEq, HO.ins.injEq, List.cons.injEq, and_true, true_and, exists_eq_left, exists_eq_left', exists_and_left, exists_eq', exists_eq, and_assoc, N_law_cut, h2]
        refine ⟨fits (by decide), fun p H1 n1 => q H1 p (same_trans sm n1.same) ?_⟩
        have e : partsOf z = (z, PySem.Str.ofString "") := if_neg fun h => h2 h.2
        rw [e]
        exact n1.at_
    · try simp only [cxK, r_var, r_c, r_seq, r_next, r_break, r_cont, r_drop, r_ret, r_retN, r_if, r_ife, r_asg, r_name, r_op, r_un, r_nil, r_cons, r_lst2, r_tup2, r_lc, r_for, r_ilist, r_itup, r_istr, r_irng1, r_irng2, r_ienum, r_ienumS, wipe, r_cb, r_test, r_b, r_not, r_notV, r_andV, r_orV, r_isN, r_notN, r_m1, r_m0, r_fld, sFld, putF, r_par, r_sub, r_gtup, r_gnil, r_gcons, r_sl, r_nopart, r_part, r_bm, r_bm0, r_chain, r_call, r_callK, r_meth, r_prop, r_make, r_and, r_or, andT_t, andT_f, orT_t, orT_f, ifK_t, ifK_f, ifE_t, ifE_f, andK_t, andK_f, orK_t, orK_f, L2.start, List.map_cons, List.map_nil, List.length_cons, List.length_nil, List.replicate_succ, List.replicate_zero, List.cons_append, List.nil_append, List.getElem?_cons_succ, List.getElem?_cons_zero, List.set_cons_succ, List.set_cons_zero, Nat.reduceAdd, Nat.reduceSub, Nat.zero_add, decide_true, decide_false, Bool.not_true, Bool.not_false, if_true, if_false, rEq, rNe, scal_ii, scal_ss, scal_bb, scal_is, scal_si, scal_ns, scal_ni, scal_in, scal_sn, scal_nn, rI, rI0, rU, rIxLH, rIxTH, rLenH, rLenTH, rSetL, rCatN, rTupOfN, rLstOfN, rSlLN, rSlTN, CDiv, CPow, CMul, CDivW, upd_same, at0, at1, at2, at3, at4, at5, at6, at7, at8, at9, at10, at11, at12, at13, ix3_0, ix3_1, ix3_2, V.int.injEq, V.bl.injEq, V.str.injEq, V.ref.injEq, Option.some.injEq, HO.lst.injEq, HO.tup.injEq, HO.ins.injEq, List.cons.injEq, and_true, true_and, exists_eq_left, exists_eq_left', exists_and_left, exists_eq', exists_eq, and_assoc, N_law_cut, h1]
      refine ⟨fits (by decide), fun p H1 n1 => q H1 p (same_trans sm n1.same) ?_⟩
      have e : partsOf z = (z, PySem.Str.ofString "") := if_neg fun h => h1 h.1
      rw [e]
      exact n1.at_
theorem last_ife {l : Addr} {ns : List Str} {H2 : Hp} {σ : L2.St} {KK : VK} (hl2 : H2 l = some (.lst (ns.map V.str))) (k : KK (.str (lastOf ns)) H2) :
    ifE (tOp rIxLH (tVar 0) (tUn (rU fun i => V.int (-i)) (tC (V.int 1)))) (tC (V.str (PySem.Str.ofString ""))) (some (.ref l) :: σ) KK (!decide (ns = [])) H2 := by
  by_cases hn : ns = []
  · subst hn
    try simp only [cxK, r_var, r_c, r_seq, r_next, r_break, r_cont, r_drop, r_ret, r_retN, r_if, r_ife, r_asg, r_name, r_op, r_un, r_nil, r_cons, r_lst2, r_tup2, r_lc, r_for, r_ilist, r_itup, r_istr, r_irng1, r_irng2, r_ienum, r_ienumS, wipe, r_cb, r_test, r_b, r_not, r_notV, r_andV, r_orV, r_isN, r_notN, r_m1, r_m0, r_fld, sFld, putF, r_par, r_sub, r_gtup, r_gnil, r_gcons, r_sl, r_nopart, r_part, r_bm, r_bm0, r_chain, r_call, r_callK, r_meth, r_prop, r_make, r_and, r_or, andT_t, andT_f, orT_t, orT_f, ifK_t, ifK_f, ifE_t, ifE_f, andK_t, andK_f, orK_t, orK_f, L2.start, List.map_cons, List.map_nil, List.length_cons, List.length_nil, List.replicate_succ, List.replicate_zero, List.cons_append, List.nil_append, List.getElem?_cons_succ, List.getElem?_cons_zero, List.set_cons_succ, List.set_cons_zero, Nat.reduceAdd, Nat.reduceSub, Nat.zero_add, decide_true, decide_false, Bool.not_true, Bool.not_false, if_true, if_false, rEq, rNe, scal_ii, scal_ss, scal_bb, scal_is, scal_si, scal_ns, scal_ni, scal_in, scal_sn, scal_nn, rI, rI0, rU, rIxLH, rIxTH, rLenH, rLenTH, rSetL, rCatN, rTupOfN, rLstOfN, rSlLN, rSlTN, CDiv, CPow, CMul, CDivW, upd_same, at0, at1, at2, at3, at4, at5, at6, at7, at8, at9, at10, at11, at12, at13, ix3_0, ix3_1, ix3_2, V.int.injEq, V.bl.injEq, V.str.injEq, V.ref.injEq, Option.some.injEq, HO.lst.injEq, HO.tup.injEq, HO.ins.injEq, List.cons.injEq, and_true, true_and, exists_eq_left, exists_eq_left', exists_and_left, exists_eq', exists_eq, and_assoc, N_law_cut]
    exact k
  · try simp only [cxK, r_var, r_c, r_seq, r_next, r_break, r_cont, r_drop, r_ret, r_retN, r_if, r_ife, r_asg, r_name, r_op, r_un, r_nil, r_cons, r_lst2, r_tup2, r_lc, r_for, r_ilist, r_itup, r_istr, r_irng1, r_irng2, r_ienum, r_ienumS, wipe, r_cb, r_test, r_b, r_not, r_notV, r_andV, r_orV, r_isN, r_notN, r_m1, r_m0, r_fld, sFld, putF, r_par, r_sub, r_gtup, r_gnil, r_gcons, r_sl, r_nopart, r_part, r_bm, r_bm0, r_chain, r_call, r_callK, r_meth, r_prop, r_make, r_and, r_or, andT_t, andT_f, orT_t, orT_f, ifK_t, ifK_f, ifE_t, ifE_f, andK_t, andK_f, orK_t, orK_f, L2.start, List.map_cons, List.map_nil, List.length_cons, List.length_nil, List.replicate_succ, List.replicate_zero, List.cons_append, List.nil_append, List.getElem?_cons_succ, List.getElem?_cons_zero, List.set_cons_succ, List.set_cons_zero, Nat.reduceAdd, Nat.reduceSub, Nat.zero_add, decide_true, decide_false, Bool.not_true, Bool.not_false, if_true, if_false, rEq, rNe, scal_ii, scal_ss, scal_bb, scal_is, scal_si, scal_ns, scal_ni, scal_in, scal_sn, scal_nn, rI, rI0, rU, rIxLH, rIxTH, rLenH, rLenTH, rSetL, rCatN, rTupOfN, rLstOfN, rSlLN, rSlTN, CDiv, CPow, CMul, CDivW, upd_same, at0, at1, at2, at3, at4, at5, at6, at7, at8, at9, at10, at11, at12, at13, ix3_0, ix3_1, ix3_2, V.int.injEq, V.bl.injEq, V.str.injEq, V.ref.injEq, Option.some.injEq, HO.lst.injEq, HO.tup.injEq, HO.ins.injEq, List.cons.injEq, and_true, true_and, exists_eq_left, exists_eq_left', exists_and_left, exists_eq', exists_eq, and_assoc, N_law_cut, hn, hl2]
    have hl : ns.length - 1 < ns.length := by have := List.length_pos_iff.mpr hn; omega
    have e : ns[ns.length - 1]? = some (lastOf ns) := by
      unfold lastOf
      rw [List.getElem?_eq_getElem hl]
      rfl
    refine ⟨.str (lastOf ns), atI_last ?_, k⟩
    rw [List.length_map, List.getElem?_map, e]
    rfl
theorem text_ok {ns : List Str} (h : Nms ns) : PyData.strOk (textOf ns) = true := by
  unfold textOf
  split
  · decide +kernel
  · exact ok_join (by decide +kernel) fun x hx => by
      obtain ⟨y, hy, rfl⟩ := List.mem_map.mp hx
      exact ok_app (by decide +kernel) (h.2 y hy).1
theorem parts_ok {z : Str} (h : PyData.strOk z = true) : PyData.strOk (partsOf z).1 = true ∧ PyData.strOk (partsOf z).2 = true := by
  unfold partsOf
  split
  · exact ⟨ok_cut h _ _, ok_cut h _ _⟩
  · exact ⟨h, show PyData.strOk (PySem.Str.ofString "") = true by decide +kernel⟩
def spRight (K : PySem.W.Frag) : Sp := fun vs H Q _ => ∃ (l : Addr) (ns : List Str), vs = [.ref l] ∧ H l = some (.lst (ns.map V.str)) ∧ ns.length ≤ 12 ∧ (∀ x ∈ ns, isNm x = true) ∧ ∀ H', Same H H' → Q (.bl true) H'
theorem ok_law_right (T : Tx fa fn K mg) : Fn P w K mg base 6 (aG "_law_right" K) [] (spRight K) := by
  obtain ⟨fd, F⟩ := F_law_right T
  refine fn_all F sc_law_right (fun vs H Q E h => ?_) (b_law_right F) (fun cdv A outer s H vs Q E hr h => ⟨_, (pss_cons (ps_set (i := 1) sc_law_right.nd rfl (Or.inl rfl) (pe_fn (ok_law_path_of_row T) (hr.mono (by decide)) rfl (g_law_path_of_row T) (k_law_path_of_row T) passD (pa_cons (pv 0) pa_nil)))
 (pss_cons (ps_set (i := 2) sc_law_right.nd rfl (Or.inl rfl) (pe_ifExp (pt_cmpR (op_neD hr.r.units) (pv 0) (pe_lst pa_nil) (nomark _)) (pe_ix ix_lh (pv 0) (pe_un un_neg pe_int) (fun _ _ => rfl)) pe_str))
 (pss_cons (ps_if (pt_cmpR (op_neD hr.r.units) (pe_lst (pa_cons (pe_pr (pv 1) (cls_ok (T.c.fact 7 (f := fCls "Path") rfl)) (prop_ok (T.c.fact 19 (f := fProp "Path" "text") rfl)) (ok_Path_text T) (hr.mono (by decide)) passL) (pa_cons (pe_pr (pv 1) (cls_ok (T.c.fact 7 (f := fCls "Path") rfl)) (prop_ok (T.c.fact 9 (f := fProp "Path" "name") rfl)) (ok_Path_name T) (hr.mono (by decide)) passL) (pa_cons (pe_pr (pv 1) (cls_ok (T.c.fact 7 (f := fCls "Path") rfl)) (prop_ok (T.c.fact 18 (f := fProp "Path" "stem") rfl)) (ok_Path_stem T) (hr.mono (by decide)) passL) (pa_cons (pe_pr (pv 1) (cls_ok (T.c.fact 7 (f := fCls "Path") rfl)) (prop_ok (T.c.fact 17 (f := fProp "Path" "suffix") rfl)) (ok_Path_suffix T) (hr.mono (by decide)) passL) pa_nil))))) (pe_op op_cat_n (pe_lst (pa_cons (pe_fn (ok_law_spelled T) (hr.mono (by decide)) rfl (g_law_spelled T) (k_law_spelled T) passD (pa_cons (pv 0) pa_nil)) (pa_cons (pv 2) pa_nil))) (pe_fn (ok_law_cut T) (hr.mono (by decide)) rfl (g_law_cut T) (k_law_cut T) passD (pa_cons (pv 2) pa_nil))) (nomark _))
 (pss_one (ps_ret pe_bl))
 pss_nil)
 (pss_cons (ps_set (i := 3) sc_law_right.nd rfl (Or.inl rfl) (pe_pr (pv 1) (cls_ok (T.c.fact 7 (f := fCls "Path") rfl)) (prop_ok (T.c.fact 16 (f := fProp "Path" "parent") rfl)) (ok_Path_parent T) (hr.mono (by decide)) passL))
 (pss_one (ps_ret (pe_and (pe_cmpR op_eq (pe_callB (call_repr hr) (by rfl) (T.free (T.c.fact 15 (f := fFree "repr") rfl)) (by decide +kernel) (pa_cons (pe_lst (pa_cons (pe_fld (pv 3) rfl) (pa_cons (pe_callB call_isi (by rfl) (T.free (T.c.fact 4 (f := fFree "isinstance") rfl)) (by decide +kernel) (pa_cons (pv 3) (pa_cons (pe_glob (v := .ref (ga K "Path")) rfl (T.glo (T.c.fact 11 (f := fGlo "Path") rfl)) rfl) pa_nil))) pa_nil))) pa_nil)) (pe_callB (call_repr hr) (by rfl) (T.free (T.c.fact 15 (f := fFree "repr") rfl)) (by decide +kernel) (pa_cons (pe_lst (pa_cons (pe_callTy call_tuple_n (by rfl) (T.free (T.c.fact 14 (f := fFree "tuple") rfl)) (by decide +kernel) (pa_cons (pe_slice sl_list_n (pv 0) po_none (po_some (pe_un un_neg pe_int))) pa_nil)) (pa_cons pe_bl pa_nil))) pa_nil)) (nomark _)) (pe_one (pe_cmpR (op_eqD hr.r.units) (pe_fld (pv 1) rfl) (pe_callTy call_tuple_n (by rfl) (T.free (T.c.fact 14 (f := fFree "tuple") rfl)) (by decide +kernel) (pa_cons (pv 0) pa_nil)) (nomark _)))))))))), ?_⟩)
  · first | (obtain ⟨_, e, _⟩ := h; subst e; rfl) | (obtain ⟨_, _, e, _⟩ := h; subst e; rfl) | (obtain ⟨_, _, _, e, _⟩ := h; subst e; rfl) | (obtain ⟨_, _, _, _, e, _⟩ := h; subst e; rfl) | (obtain ⟨_, _, _, _, _, e, _⟩ := h; subst e; rfl) | (obtain ⟨_, _, _, _, _, _, e, _⟩ := h; subst e; rfl) | (obtain ⟨_, _, _, _, _, _, _, e, _⟩ := h; subst e; rfl) | (obtain ⟨_, _, _, _, _, _, _, _, e, _⟩ := h; subst e; rfl) | (obtain ⟨_, _, _, _, _, _, _, _, _, e, _⟩ := h; subst e; rfl) | (obtain ⟨_, _, _, _, _, _, _, _, _, _, e, _⟩ := h; subst e; rfl) | (obtain ⟨_, _, _, _, _, _, _, _, _, _, _, e, _⟩ := h; subst e; rfl)
  obtain ⟨l, ns, rfl, hl, hn, hN, q⟩ := h
  try simp only [cxK, r_var, r_c, r_seq, r_next, r_break, r_cont, r_drop, r_ret, r_retN, r_if, r_ife, r_asg, r_name, r_op, r_un, r_nil, r_cons, r_lst2, r_tup2, r_lc, r_for, r_ilist, r_itup, r_istr, r_irng1, r_irng2, r_ienum, r_ienumS, wipe, r_cb, r_test, r_b, r_not, r_notV, r_andV, r_orV, r_isN, r_notN, r_m1, r_m0, r_fld, sFld, putF, r_par, r_sub, r_gtup, r_gnil, r_gcons, r_sl, r_nopart, r_part, r_bm, r_bm0, r_chain, r_call, r_callK, r_meth, r_prop, r_make, r_and, r_or, andT_t, andT_f, orT_t, orT_f, ifK_t, ifK_f, ifE_t, ifE_f, andK_t, andK_f, orK_t, orK_f, L2.start, List.map_cons, List.map_nil, List.length_cons, List.length_nil, List.replicate_succ, List.replicate_zero, List.cons_append, List.nil_append, List.getElem?_cons_succ, List.getElem?_cons_zero, List.set_cons_succ, List.set_cons_zero, Nat.reduceAdd, Nat.reduceSub, Nat.zero_add, decide_true, decide_false, Bool.not_true, Bool.not_false, if_true, if_false, rEq, rNe, scal_ii, scal_ss, scal_bb, scal_is, scal_si, scal_ns, scal_ni, scal_in, scal_sn, scal_nn, rI, rI0, rU, rIxLH, rIxTH, rLenH, rLenTH, rSetL, rCatN, rTupOfN, rLstOfN, rSlLN, rSlTN, CDiv, CPow, CMul, CDivW, upd_same, at0, at1, at2, at3, at4, at5, at6, at7, at8, at9, at10, at11, at12, at13, ix3_0, ix3_1, ix3_2, V.int.injEq, V.bl.injEq, V.str.injEq, V.ref.injEq, Option.some.injEq, HO.lst.injEq, HO.tup.injEq, HO.ins.injEq, List.cons.injEq, and_true, true_and, exists_eq_left, exists_eq_left', exists_and_left, exists_eq', exists_eq, and_assoc, N_law_right]
  refine ⟨l, ns, rfl, hl, hn, hN, fun p H1 s1 hp => ?_⟩
  have hl1 := s1 _ _ hl
  try simp only [cxK, r_var, r_c, r_seq, r_next, r_break, r_cont, r_drop, r_ret, r_retN, r_if, r_ife, r_asg, r_name, r_op, r_un, r_nil, r_cons, r_lst2, r_tup2, r_lc, r_for, r_ilist, r_itup, r_istr, r_irng1, r_irng2, r_ienum, r_ienumS, wipe, r_cb, r_test, r_b, r_not, r_notV, r_andV, r_orV, r_isN, r_notN, r_m1, r_m0, r_fld, sFld, putF, r_par, r_sub, r_gtup, r_gnil, r_gcons, r_sl, r_nopart, r_part, r_bm, r_bm0, r_chain, r_call, r_callK, r_meth, r_prop, r_make, r_and, r_or, andT_t, andT_f, orT_t, orT_f, ifK_t, ifK_f, ifE_t, ifE_f, andK_t, andK_f, orK_t, orK_f, L2.start, List.map_cons, List.map_nil, List.length_cons, List.length_nil, List.replicate_succ, List.replicate_zero, List.cons_append, List.nil_append, List.getElem?_cons_succ, List.getElem?_cons_zero, List.set_cons_succ, List.set_cons_zero, Nat.reduceAdd, Nat.reduceSub, Nat.zero_add, decide_true, decide_false, Bool.not_true, Bool.not_false, if_true, if_false, rEq, rNe, scal_ii, scal_ss, scal_bb, scal_is, scal_si, scal_ns, scal_ni, scal_in, scal_sn, scal_nn, rI, rI0, rU, rIxLH, rIxTH, rLenH, rLenTH, rSetL, rCatN, rTupOfN, rLstOfN, rSlLN, rSlTN, CDiv, CPow, CMul, CDivW, upd_same, at0, at1, at2, at3, at4, at5, at6, at7, at8, at9, at10, at11, at12, at13, ix3_0, ix3_1, ix3_2, V.int.injEq, V.bl.injEq, V.str.injEq, V.ref.injEq, Option.some.injEq, HO.lst.injEq, HO.tup.injEq, HO.ins.injEq, List.cons.injEq, and_true, true_and, exists_eq_left, exists_eq_left', exists_and_left, exists_eq', exists_eq, and_assoc, N_law_right]
  have nm := nms_of hn hN
  refine ⟨fits (by decide), fun p2 H2 n2 => ?_⟩
  have hl2 := n2.old hl1
  have hp2 := hp.same n2.same
  have s2 := same_trans s1 n2.same
  have he2 : H2 p2 = some (.lst (([] : List Str).map V.str)) := n2.at_
  refine neD_strL hl2 he2 nm.ok (fun _ h => nomatch h) ?_
  try simp only [cxK, r_var, r_c, r_seq, r_next, r_break, r_cont, r_drop, r_ret, r_retN, r_if, r_ife, r_asg, r_name, r_op, r_un, r_nil, r_cons, r_lst2, r_tup2, r_lc, r_for, r_ilist, r_itup, r_istr, r_irng1, r_irng2, r_ienum, r_ienumS, wipe, r_cb, r_test, r_b, r_not, r_notV, r_andV, r_orV, r_isN, r_notN, r_m1, r_m0, r_fld, sFld, putF, r_par, r_sub, r_gtup, r_gnil, r_gcons, r_sl, r_nopart, r_part, r_bm, r_bm0, r_chain, r_call, r_callK, r_meth, r_prop, r_make, r_and, r_or, andT_t, andT_f, orT_t, orT_f, ifK_t, ifK_f, ifE_t, ifE_f, andK_t, andK_f, orK_t, orK_f, L2.start, List.map_cons, List.map_nil, List.length_cons, List.length_nil, List.replicate_succ, List.replicate_zero, List.cons_append, List.nil_append, List.getElem?_cons_succ, List.getElem?_cons_zero, List.set_cons_succ, List.set_cons_zero, Nat.reduceAdd, Nat.reduceSub, Nat.zero_add, decide_true, decide_false, Bool.not_true, Bool.not_false, if_true, if_false, rEq, rNe, scal_ii, scal_ss, scal_bb, scal_is, scal_si, scal_ns, scal_ni, scal_in, scal_sn, scal_nn, rI, rI0, rU, rIxLH, rIxTH, rLenH, rLenTH, rSetL, rCatN, rTupOfN, rLstOfN, rSlLN, rSlTN, CDiv, CPow, CMul, CDivW, upd_same, at0, at1, at2, at3, at4, at5, at6, at7, at8, at9, at10, at11, at12, at13, ix3_0, ix3_1, ix3_2, V.int.injEq, V.bl.injEq, V.str.injEq, V.ref.injEq, Option.some.injEq, HO.lst.injEq, HO.tup.injEq, HO.ins.injEq, List.cons.injEq, and_true, true_and, exists_eq_left, exists_eq_left', exists_and_left, exists_eq', exists_eq, and_assoc, N_law_right]
  refine last_ife hl2 ?_
  try simp only [cxK, r_var, r_c, r_seq, r_next, r_break, r_cont, r_drop, r_ret, r_retN, r_if, r_ife, r_asg, r_name, r_op, r_un, r_nil, r_cons, r_lst2, r_tup2, r_lc, r_for, r_ilist, r_itup, r_istr, r_irng1, r_irng2, r_ienum, r_ienumS, wipe, r_cb, r_test, r_b, r_not, r_notV, r_andV, r_orV, r_isN, r_notN, r_m1, r_m0, r_fld, sFld, putF, r_par, r_sub, r_gtup, r_gnil, r_gcons, r_sl, r_nopart, r_part, r_bm, r_bm0, r_chain, r_call, r_callK, r_meth, r_prop, r_make, r_and, r_or, andT_t, andT_f, orT_t, orT_f, ifK_t, ifK_f, ifE_t, ifE_f, andK_t, andK_f, orK_t, orK_f, L2.start, List.map_cons, List.map_nil, List.length_cons, List.length_nil, List.replicate_succ, List.replicate_zero, List.cons_append, List.nil_append, List.getElem?_cons_succ, List.getElem?_cons_zero, List.set_cons_succ, List.set_cons_zero, Nat.reduceAdd, Nat.reduceSub, Nat.zero_add, decide_true, decide_false, Bool.not_true, Bool.not_false, if_true, if_false, rEq, rNe, scal_ii, scal_ss, scal_bb, scal_is, scal_si, scal_ns, scal_ni, scal_in, scal_sn, scal_nn, rI, rI0, rU, rIxLH, rIxTH, rLenH, rLenTH, rSetL, rCatN, rTupOfN, rLstOfN, rSlLN, rSlTN, CDiv, CPow, CMul, CDivW, upd_same, at0, at1, at2, at3, at4, at5, at6, at7, at8, at9, at10, at11, at12, at13, ix3_0, ix3_1, ix3_2, V.int.injEq, V.bl.injEq, V.str.injEq, V.ref.injEq, Option.some.injEq, HO.lst.injEq, HO.tup.injEq, HO.ins.injEq, List.cons.injEq, and_true, true_and, exists_eq_left, exists_eq_left', exists_and_left, exists_eq', exists_eq, and_assoc, N_law_right]
  obtain ⟨dx, t, e1, e2⟩ := hp2
  try simp only [cxK, r_var, r_c, r_seq, r_next, r_break, r_cont, r_drop, r_ret, r_retN, r_if, r_ife, r_asg, r_name, r_op, r_un, r_nil, r_cons, r_lst2, r_tup2, r_lc, r_for, r_ilist, r_itup, r_istr, r_irng1, r_irng2, r_ienum, r_ienumS, wipe, r_cb, r_test, r_b, r_not, r_notV, r_andV, r_orV, r_isN, r_notN, r_m1, r_m0, r_fld, sFld, putF, r_par, r_sub, r_gtup, r_gnil, r_gcons, r_sl, r_nopart, r_part, r_bm, r_bm0, r_chain, r_call, r_callK, r_meth, r_prop, r_make, r_and, r_or, andT_t, andT_f, orT_t, orT_f, ifK_t, ifK_f, ifE_t, ifE_f, andK_t, andK_f, orK_t, orK_f, L2.start, List.map_cons, List.map_nil, List.length_cons, List.length_nil, List.replicate_succ, List.replicate_zero, List.cons_append, List.nil_append, List.getElem?_cons_succ, List.getElem?_cons_zero, List.set_cons_succ, List.set_cons_zero, Nat.reduceAdd, Nat.reduceSub, Nat.zero_add, decide_true, decide_false, Bool.not_true, Bool.not_false, if_true, if_false, rEq, rNe, scal_ii, scal_ss, scal_bb, scal_is, scal_si, scal_ns, scal_ni, scal_in, scal_sn, scal_nn, rI, rI0, rU, rIxLH, rIxTH, rLenH, rLenTH, rSetL, rCatN, rTupOfN, rLstOfN, rSlLN, rSlTN, CDiv, CPow, CMul, CDivW, upd_same, at0, at1, at2, at3, at4, at5, at6, at7, at8, at9, at10, at11, at12, at13, ix3_0, ix3_1, ix3_2, V.int.injEq, V.bl.injEq, V.str.injEq, V.ref.injEq, Option.some.injEq, HO.lst.injEq, HO.tup.injEq, HO.ins.injEq, List.cons.injEq, and_true, true_and, exists_eq_left, exists_eq_left', exists_and_left, exists_eq', exists_eq, and_assoc, N_law_right, e1]
  refine ⟨p, ns, rfl, ⟨dx, t, e1, e2⟩, nm, fun H3 s3 => ?_⟩
  have e31 := s3 _ _ e1
  have e32 := s3 _ _ e2
  try simp only [cxK, r_var, r_c, r_seq, r_next, r_break, r_cont, r_drop, r_ret, r_retN, r_if, r_ife, r_asg, r_name, r_op, r_un, r_nil, r_cons, r_lst2, r_tup2, r_lc, r_for, r_ilist, r_itup, r_istr, r_irng1, r_irng2, r_ienum, r_ienumS, wipe, r_cb, r_test, r_b, r_not, r_notV, r_andV, r_orV, r_isN, r_notN, r_m1, r_m0, r_fld, sFld, putF, r_par, r_sub, r_gtup, r_gnil, r_gcons, r_sl, r_nopart, r_part, r_bm, r_bm0, r_chain, r_call, r_callK, r_meth, r_prop, r_make, r_and, r_or, andT_t, andT_f, orT_t, orT_f, ifK_t, ifK_f, ifE_t, ifE_f, andK_t, andK_f, orK_t, orK_f, L2.start, List.map_cons, List.map_nil, List.length_cons, List.length_nil, List.replicate_succ, List.replicate_zero, List.cons_append, List.nil_append, List.getElem?_cons_succ, List.getElem?_cons_zero, List.set_cons_succ, List.set_cons_zero, Nat.reduceAdd, Nat.reduceSub, Nat.zero_add, decide_true, decide_false, Bool.not_true, Bool.not_false, if_true, if_false, rEq, rNe, scal_ii, scal_ss, scal_bb, scal_is, scal_si, scal_ns, scal_ni, scal_in, scal_sn, scal_nn, rI, rI0, rU, rIxLH, rIxTH, rLenH, rLenTH, rSetL, rCatN, rTupOfN, rLstOfN, rSlLN, rSlTN, CDiv, CPow, CMul, CDivW, upd_same, at0, at1, at2, at3, at4, at5, at6, at7, at8, at9, at10, at11, at12, at13, ix3_0, ix3_1, ix3_2, V.int.injEq, V.bl.injEq, V.str.injEq, V.ref.injEq, Option.some.injEq, HO.lst.injEq, HO.tup.injEq, HO.ins.injEq, List.cons.injEq, and_true, true_and, exists_eq_left, exists_eq_left', exists_and_left, exists_eq', exists_eq, and_assoc, N_law_right, e31]
  refine ⟨p, ns, rfl, ⟨dx, t, e31, e32⟩, nm, fun H4 s4 => ?_⟩
  have e41 := s4 _ _ e31
  have e42 := s4 _ _ e32
  try simp only [cxK, r_var, r_c, r_seq, r_next, r_break, r_cont, r_drop, r_ret, r_retN, r_if, r_ife, r_asg, r_name, r_op, r_un, r_nil, r_cons, r_lst2, r_tup2, r_lc, r_for, r_ilist, r_itup, r_istr, r_irng1, r_irng2, r_ienum, r_ienumS, wipe, r_cb, r_test, r_b, r_not, r_notV, r_andV, r_orV, r_isN, r_notN, r_m1, r_m0, r_fld, sFld, putF, r_par, r_sub, r_gtup, r_gnil, r_gcons, r_sl, r_nopart, r_part, r_bm, r_bm0, r_chain, r_call, r_callK, r_meth, r_prop, r_make, r_and, r_or, andT_t, andT_f, orT_t, orT_f, ifK_t, ifK_f, ifE_t, ifE_f, andK_t, andK_f, orK_t, orK_f, L2.start, List.map_cons, List.map_nil, List.length_cons, List.length_nil, List.replicate_succ, List.replicate_zero, List.cons_append, List.nil_append, List.getElem?_cons_succ, List.getElem?_cons_zero, List.set_cons_succ, List.set_cons_zero, Nat.reduceAdd, Nat.reduceSub, Nat.zero_add, decide_true, decide_false, Bool.not_true, Bool.not_false, if_true, if_false, rEq, rNe, scal_ii, scal_ss, scal_bb, scal_is, scal_si, scal_ns, scal_ni, scal_in, scal_sn, scal_nn, rI, rI0, rU, rIxLH, rIxTH, rLenH, rLenTH, rSetL, rCatN, rTupOfN, rLstOfN, rSlLN, rSlTN, CDiv, CPow, CMul, CDivW, upd_same, at0, at1, at2, at3, at4, at5, at6, at7, at8, at9, at10, at11, at12, at13, ix3_0, ix3_1, ix3_2, V.int.injEq, V.bl.injEq, V.str.injEq, V.ref.injEq, Option.some.injEq, HO.lst.injEq, HO.tup.injEq, HO.ins.injEq, List.cons.injEq, and_true, true_and, exists_eq_left, exists_eq_left', exists_and_left, exists_eq', exists_eq, and_assoc, N_law_right, e41]
  refine ⟨p, ns, rfl, ⟨dx, t, e41, e42⟩, nm, fun H5 s5 => ?_⟩
  have e51 := s5 _ _ e41
  have e52 := s5 _ _ e42
  try simp only [cxK, r_var, r_c, r_seq, r_next, r_break, r_cont, r_drop, r_ret, r_retN, r_if, r_ife, r_asg, r_name, r_op, r_un, r_nil, r_cons, r_lst2, r_tup2, r_lc, r_for, r_ilist, r_itup, r_istr, r_irng1, r_irng2, r_ienum, r_ienumS, wipe, r_cb, r_test, r_b, r_not, r_notV, r_andV, r_orV, r_isN, r_notN, r_m1, r_m0, r_fld, sFld, putF, r_par, r_sub, r_gtup, r_gnil, r_gcons, r_sl, r_nopart, r_part, r_bm, r_bm0, r_chain, r_call, r_callK, r_meth, r_prop, r_make, r_and, r_or, andT_t, andT_f, orT_t, orT_f, ifK_t, ifK_f, ifE_t, ifE_f, andK_t, andK_f, orK_t, orK_f, L2.start, List.map_cons, List.map_nil, List.length_cons, List.length_nil, List.replicate_succ, List.replicate_zero, List.cons_append, List.nil_append, List.getElem?_cons_succ, List.getElem?_cons_zero, List.set_cons_succ, List.set_cons_zero, Nat.reduceAdd, Nat.reduceSub, Nat.zero_add, decide_true, decide_false, Bool.not_true, Bool.not_false, if_true, if_false, rEq, rNe, scal_ii, scal_ss, scal_bb, scal_is, scal_si, scal_ns, scal_ni, scal_in, scal_sn, scal_nn, rI, rI0, rU, rIxLH, rIxTH, rLenH, rLenTH, rSetL, rCatN, rTupOfN, rLstOfN, rSlLN, rSlTN, CDiv, CPow, CMul, CDivW, upd_same, at0, at1, at2, at3, at4, at5, at6, at7, at8, at9, at10, at11, at12, at13, ix3_0, ix3_1, ix3_2, V.int.injEq, V.bl.injEq, V.str.injEq, V.ref.injEq, Option.some.injEq, HO.lst.injEq, HO.tup.injEq, HO.ins.injEq, List.cons.injEq, and_true, true_and, exists_eq_left, exists_eq_left', exists_and_left, exists_eq', exists_eq, and_assoc, N_law_right, e51]
  refine ⟨p, ns, rfl, ⟨dx, t, e51, e52⟩, nm, fun H6 s6 => ?_⟩
  have e61 := s6 _ _ e51
  have e62 := s6 _ _ e52
  have hl6 := s6 _ _ (s5 _ _ (s4 _ _ (s3 _ _ hl2)))
  have s06 := same_trans s2 (same_trans s3 (same_trans s4 (same_trans s5 s6)))
  try simp only [cxK, r_var, r_c, r_seq, r_next, r_break, r_cont, r_drop, r_ret, r_retN, r_if, r_ife, r_asg, r_name, r_op, r_un, r_nil, r_cons, r_lst2, r_tup2, r_lc, r_for, r_ilist, r_itup, r_istr, r_irng1, r_irng2, r_ienum, r_ienumS, wipe, r_cb, r_test, r_b, r_not, r_notV, r_andV, r_orV, r_isN, r_notN, r_m1, r_m0, r_fld, sFld, putF, r_par, r_sub, r_gtup, r_gnil, r_gcons, r_sl, r_nopart, r_part, r_bm, r_bm0, r_chain, r_call, r_callK, r_meth, r_prop, r_make, r_and, r_or, andT_t, andT_f, orT_t, orT_f, ifK_t, ifK_f, ifE_t, ifE_f, andK_t, andK_f, orK_t, orK_f, L2.start, List.map_cons, List.map_nil, List.length_cons, List.length_nil, List.replicate_succ, List.replicate_zero, List.cons_append, List.nil_append, List.getElem?_cons_succ, List.getElem?_cons_zero, List.set_cons_succ, List.set_cons_zero, Nat.reduceAdd, Nat.reduceSub, Nat.zero_add, decide_true, decide_false, Bool.not_true, Bool.not_false, if_true, if_false, rEq, rNe, scal_ii, scal_ss, scal_bb, scal_is, scal_si, scal_ns, scal_ni, scal_in, scal_sn, scal_nn, rI, rI0, rU, rIxLH, rIxTH, rLenH, rLenTH, rSetL, rCatN, rTupOfN, rLstOfN, rSlLN, rSlTN, CDiv, CPow, CMul, CDivW, upd_same, at0, at1, at2, at3, at4, at5, at6, at7, at8, at9, at10, at11, at12, at13, ix3_0, ix3_1, ix3_2, V.int.injEq, V.bl.injEq, V.str.injEq, V.ref.injEq, Option.some.injEq, HO.lst.injEq, HO.tup.injEq, HO.ins.injEq, List.cons.injEq, and_true, true_and, exists_eq_left, exists_eq_left', exists_and_left, exists_eq', exists_eq, and_assoc, N_law_right]
  refine ⟨fits (by decide), fun a H7 n7 => ⟨l, ns, rfl, n7.old hl6, nm, fun H8 s8 => ⟨fits (by decide), fun b H9 n9 => ⟨lastOf ns, rfl, by have := (last_ok nm).2; omega, fun H10 c s10 hc => ?_⟩⟩⟩⟩
  have ha10 := s10 _ _ (n9.old (s8 _ _ n7.at_))
  have hb10 := s10 _ _ n9.at_
  try simp only [cxK, r_var, r_c, r_seq, r_next, r_break, r_cont, r_drop, r_ret, r_retN, r_if, r_ife, r_asg, r_name, r_op, r_un, r_nil, r_cons, r_lst2, r_tup2, r_lc, r_for, r_ilist, r_itup, r_istr, r_irng1, r_irng2, r_ienum, r_ienumS, wipe, r_cb, r_test, r_b, r_not, r_notV, r_andV, r_orV, r_isN, r_notN, r_m1, r_m0, r_fld, sFld, putF, r_par, r_sub, r_gtup, r_gnil, r_gcons, r_sl, r_nopart, r_part, r_bm, r_bm0, r_chain, r_call, r_callK, r_meth, r_prop, r_make, r_and, r_or, andT_t, andT_f, orT_t, orT_f, ifK_t, ifK_f, ifE_t, ifE_f, andK_t, andK_f, orK_t, orK_f, L2.start, List.map_cons, List.map_nil, List.length_cons, List.length_nil, List.replicate_succ, List.replicate_zero, List.cons_append, List.nil_append, List.getElem?_cons_succ, List.getElem?_cons_zero, List.set_cons_succ, List.set_cons_zero, Nat.reduceAdd, Nat.reduceSub, Nat.zero_add, decide_true, decide_false, Bool.not_true, Bool.not_false, if_true, if_false, rEq, rNe, scal_ii, scal_ss, scal_bb, scal_is, scal_si, scal_ns, scal_ni, scal_in, scal_sn, scal_nn, rI, rI0, rU, rIxLH, rIxTH, rLenH, rLenTH, rSetL, rCatN, rTupOfN, rLstOfN, rSlLN, rSlTN, CDiv, CPow, CMul, CDivW, upd_same, at0, at1, at2, at3, at4, at5, at6, at7, at8, at9, at10, at11, at12, at13, ix3_0, ix3_1, ix3_2, V.int.injEq, V.bl.injEq, V.str.injEq, V.ref.injEq, Option.some.injEq, HO.lst.injEq, HO.tup.injEq, HO.ins.injEq, List.cons.injEq, and_true, true_and, exists_eq_left, exists_eq_left', exists_and_left, exists_eq', exists_eq, and_assoc, N_law_right, hb10, hc]
  refine ⟨fits (by decide), fun d H11 n11 => ?_⟩
  have ha11 : H11 a = some (.lst ([textOf ns, lastOf ns, (partsOf (lastOf ns)).1, (partsOf (lastOf ns)).2].map V.str)) := n11.old ha10
  have hd11 : H11 d = some (.lst ([textOf ns, lastOf ns, (partsOf (lastOf ns)).1, (partsOf (lastOf ns)).2].map V.str)) := n11.at_
  have oks : ∀ x ∈ [textOf ns, lastOf ns, (partsOf (lastOf ns)).1, (partsOf (lastOf ns)).2], PyData.strOk x = true := by
    intro x hx
    simp only [List.mem_cons, List.not_mem_nil, or_false] at hx
    rcases hx with rfl | rfl | rfl | rfl
    · exact text_ok nm
    · exact (last_ok nm).1
    · exact (parts_ok (last_ok nm).1).1
    · exact (parts_ok (last_ok nm).1).2
  refine neD_strL ha11 hd11 oks oks ?_
  try simp only [cxK, r_var, r_c, r_seq, r_next, r_break, r_cont, r_drop, r_ret, r_retN, r_if, r_ife, r_asg, r_name, r_op, r_un, r_nil, r_cons, r_lst2, r_tup2, r_lc, r_for, r_ilist, r_itup, r_istr, r_irng1, r_irng2, r_ienum, r_ienumS, wipe, r_cb, r_test, r_b, r_not, r_notV, r_andV, r_orV, r_isN, r_notN, r_m1, r_m0, r_fld, sFld, putF, r_par, r_sub, r_gtup, r_gnil, r_gcons, r_sl, r_nopart, r_part, r_bm, r_bm0, r_chain, r_call, r_callK, r_meth, r_prop, r_make, r_and, r_or, andT_t, andT_f, orT_t, orT_f, ifK_t, ifK_f, ifE_t, ifE_f, andK_t, andK_f, orK_t, orK_f, L2.start, List.map_cons, List.map_nil, List.length_cons, List.length_nil, List.replicate_succ, List.replicate_zero, List.cons_append, List.nil_append, List.getElem?_cons_succ, List.getElem?_cons_zero, List.set_cons_succ, List.set_cons_zero, Nat.reduceAdd, Nat.reduceSub, Nat.zero_add, decide_true, decide_false, Bool.not_true, Bool.not_false, if_true, if_false, rEq, rNe, scal_ii, scal_ss, scal_bb, scal_is, scal_si, scal_ns, scal_ni, scal_in, scal_sn, scal_nn, rI, rI0, rU, rIxLH, rIxTH, rLenH, rLenTH, rSetL, rCatN, rTupOfN, rLstOfN, rSlLN, rSlTN, CDiv, CPow, CMul, CDivW, upd_same, at0, at1, at2, at3, at4, at5, at6, at7, at8, at9, at10, at11, at12, at13, ix3_0, ix3_1, ix3_2, V.int.injEq, V.bl.injEq, V.str.injEq, V.ref.injEq, Option.some.injEq, HO.lst.injEq, HO.tup.injEq, HO.ins.injEq, List.cons.injEq, and_true, true_and, exists_eq_left, exists_eq_left', exists_and_left, exists_eq', exists_eq, and_assoc, N_law_right]
  have s6e : Same H6 H11 := same_trans n7.same (same_trans s8 (same_trans n9.same (same_trans s10 n11.same)))
  have e111 := s6e _ _ e61
  have e112 := s6e _ _ e62
  have hl11 := s6e _ _ hl6
  have s011 := same_trans s06 s6e
  clear ha11 hd11 ha10 hb10 hc
  try simp only [cxK, r_var, r_c, r_seq, r_next, r_break, r_cont, r_drop, r_ret, r_retN, r_if, r_ife, r_asg, r_name, r_op, r_un, r_nil, r_cons, r_lst2, r_tup2, r_lc, r_for, r_ilist, r_itup, r_istr, r_irng1, r_irng2, r_ienum, r_ienumS, wipe, r_cb, r_test, r_b, r_not, r_notV, r_andV, r_orV, r_isN, r_notN, r_m1, r_m0, r_fld, sFld, putF, r_par, r_sub, r_gtup, r_gnil, r_gcons, r_sl, r_nopart, r_part, r_bm, r_bm0, r_chain, r_call, r_callK, r_meth, r_prop, r_make, r_and, r_or, andT_t, andT_f, orT_t, orT_f, ifK_t, ifK_f, ifE_t, ifE_f, andK_t, andK_f, orK_t, orK_f, L2.start, List.map_cons, List.map_nil, List.length_cons, List.length_nil, List.replicate_succ, List.replicate_zero, List.cons_append, List.nil_append, List.getElem?_cons_succ, List.getElem?_cons_zero, List.set_cons_succ, List.set_cons_zero, Nat.reduceAdd, Nat.reduceSub, Nat.zero_add, decide_true, decide_false, Bool.not_true, Bool.not_false, if_true, if_false, rEq, rNe, scal_ii, scal_ss, scal_bb, scal_is, scal_si, scal_ns, scal_ni, scal_in, scal_sn, scal_nn, rI, rI0, rU, rIxLH, rIxTH, rLenH, rLenTH, rSetL, rCatN, rTupOfN, rLstOfN, rSlLN, rSlTN, CDiv, CPow, CMul, CDivW, upd_same, at0, at1, at2, at3, at4, at5, at6, at7, at8, at9, at10, at11, at12, at13, ix3_0, ix3_1, ix3_2, V.int.injEq, V.bl.injEq, V.str.injEq, V.ref.injEq, Option.some.injEq, HO.lst.injEq, HO.tup.injEq, HO.ins.injEq, List.cons.injEq, and_true, true_and, exists_eq_left, exists_eq_left', exists_and_left, exists_eq', exists_eq, and_assoc, N_law_right, e111]
  refine ⟨p, ns, rfl, ⟨dx, t, e111, e112⟩, by omega, hN, fun H12 p' s12 hp' => ?_⟩
  obtain ⟨dx', t', f1, f2⟩ := hp'
  have hl12 := s12 _ _ hl11
  try simp only [cxK, r_var, r_c, r_seq, r_next, r_break, r_cont, r_drop, r_ret, r_retN, r_if, r_ife, r_asg, r_name, r_op, r_un, r_nil, r_cons, r_lst2, r_tup2, r_lc, r_for, r_ilist, r_itup, r_istr, r_irng1, r_irng2, r_ienum, r_ienumS, wipe, r_cb, r_test, r_b, r_not, r_notV, r_andV, r_orV, r_isN, r_notN, r_m1, r_m0, r_fld, sFld, putF, r_par, r_sub, r_gtup, r_gnil, r_gcons, r_sl, r_nopart, r_part, r_bm, r_bm0, r_chain, r_call, r_callK, r_meth, r_prop, r_make, r_and, r_or, andT_t, andT_f, orT_t, orT_f, ifK_t, ifK_f, ifE_t, ifE_f, andK_t, andK_f, orK_t, orK_f, L2.start, List.map_cons, List.map_nil, List.length_cons, List.length_nil, List.replicate_succ, List.replicate_zero, List.cons_append, List.nil_append, List.getElem?_cons_succ, List.getElem?_cons_zero, List.set_cons_succ, List.set_cons_zero, Nat.reduceAdd, Nat.reduceSub, Nat.zero_add, decide_true, decide_false, Bool.not_true, Bool.not_false, if_true, if_false, rEq, rNe, scal_ii, scal_ss, scal_bb, scal_is, scal_si, scal_ns, scal_ni, scal_in, scal_sn, scal_nn, rI, rI0, rU, rIxLH, rIxTH, rLenH, rLenTH, rSetL, rCatN, rTupOfN, rLstOfN, rSlLN, rSlTN, CDiv, CPow, CMul, CDivW, upd_same, at0, at1, at2, at3, at4, at5, at6, at7, at8, at9, at10, at11, at12, at13, ix3_0, ix3_1, ix3_2, V.int.injEq, V.bl.injEq, V.str.injEq, V.ref.injEq, Option.some.injEq, HO.lst.injEq, HO.tup.injEq, HO.ins.injEq, List.cons.injEq, and_true, true_and, exists_eq_left, exists_eq_left', exists_and_left, exists_eq', exists_eq, and_assoc, N_law_right, f1]
  refine ⟨(cls_ok (T.c.fact 7 (f := fCls "Path") rfl)), (noat_ok (T.c.fact 8 (f := fNo "Path" "names") rfl)), V.ref t', rfl, isi_own ((ins_ok (cls_ok (T.c.fact 7 (f := fCls "Path") rfl)) (T.c.fact 20 (f := fIns "Path") rfl)) f1) (kit_ok (T.c.fact 21 (f := fKit (fun K => .ref (ga K "Path")) (fun K => .ref (ga K "Path")) true) rfl)) ?_⟩
  try simp only [cxK, r_var, r_c, r_seq, r_next, r_break, r_cont, r_drop, r_ret, r_retN, r_if, r_ife, r_asg, r_name, r_op, r_un, r_nil, r_cons, r_lst2, r_tup2, r_lc, r_for, r_ilist, r_itup, r_istr, r_irng1, r_irng2, r_ienum, r_ienumS, wipe, r_cb, r_test, r_b, r_not, r_notV, r_andV, r_orV, r_isN, r_notN, r_m1, r_m0, r_fld, sFld, putF, r_par, r_sub, r_gtup, r_gnil, r_gcons, r_sl, r_nopart, r_part, r_bm, r_bm0, r_chain, r_call, r_callK, r_meth, r_prop, r_make, r_and, r_or, andT_t, andT_f, orT_t, orT_f, ifK_t, ifK_f, ifE_t, ifE_f, andK_t, andK_f, orK_t, orK_f, L2.start, List.map_cons, List.map_nil, List.length_cons, List.length_nil, List.replicate_succ, List.replicate_zero, List.cons_append, List.nil_append, List.getElem?_cons_succ, List.getElem?_cons_zero, List.set_cons_succ, List.set_cons_zero, Nat.reduceAdd, Nat.reduceSub, Nat.zero_add, decide_true, decide_false, Bool.not_true, Bool.not_false, if_true, if_false, rEq, rNe, scal_ii, scal_ss, scal_bb, scal_is, scal_si, scal_ns, scal_ni, scal_in, scal_sn, scal_nn, rI, rI0, rU, rIxLH, rIxTH, rLenH, rLenTH, rSetL, rCatN, rTupOfN, rLstOfN, rSlLN, rSlTN, CDiv, CPow, CMul, CDivW, upd_same, at0, at1, at2, at3, at4, at5, at6, at7, at8, at9, at10, at11, at12, at13, ix3_0, ix3_1, ix3_2, V.int.injEq, V.bl.injEq, V.str.injEq, V.ref.injEq, Option.some.injEq, HO.lst.injEq, HO.tup.injEq, HO.ins.injEq, List.cons.injEq, and_true, true_and, exists_eq_left, exists_eq_left', exists_and_left, exists_eq', exists_eq, and_assoc, N_law_right]
  have hTk : ∀ x ∈ ns.take (ns.length - 1), PyData.strOk x = true ∧ x.length ≤ 12 := fun x hx => by
    have := isNm_fits (hN x (List.mem_of_mem_take hx))
    exact ⟨this.2.1, this.1⟩
  have rp : Rp ((ns.take (ns.length - 1)).length * (12 + 1) + 1 + (0 + 1 + 0)) (max (0 + 1) (max 0 0) + 1) (.list [.tuple ((ns.take (ns.length - 1)).map PyData.str), .bool true]) := Rp.list (RpA.cons (Rp.tuple (RpA.strs hTk)) (RpA.cons (Rp.bool true) RpA.nil))
  have tl : (ns.take (ns.length - 1)).length ≤ 12 := by rw [List.length_take]; omega
  refine ⟨fits (by decide), fun a3 H13 n13 => ?_⟩
  have f213 := n13.old f2
  have hl13 := n13.old hl12
  refine repr_of (.lst (SqL.of n13.at_) (.cons (.tup (SqT.of f213) (dp_strs _)) (.cons (.bl true) .nil))) rp (by omega) (by decide) (fun _ h => nomatch h) ?_
  try simp only [cxK, r_var, r_c, r_seq, r_next, r_break, r_cont, r_drop, r_ret, r_retN, r_if, r_ife, r_asg, r_name, r_op, r_un, r_nil, r_cons, r_lst2, r_tup2, r_lc, r_for, r_ilist, r_itup, r_istr, r_irng1, r_irng2, r_ienum, r_ienumS, wipe, r_cb, r_test, r_b, r_not, r_notV, r_andV, r_orV, r_isN, r_notN, r_m1, r_m0, r_fld, sFld, putF, r_par, r_sub, r_gtup, r_gnil, r_gcons, r_sl, r_nopart, r_part, r_bm, r_bm0, r_chain, r_call, r_callK, r_meth, r_prop, r_make, r_and, r_or, andT_t, andT_f, orT_t, orT_f, ifK_t, ifK_f, ifE_t, ifE_f, andK_t, andK_f, orK_t, orK_f, L2.start, List.map_cons, List.map_nil, List.length_cons, List.length_nil, List.replicate_succ, List.replicate_zero, List.cons_append, List.nil_append, List.getElem?_cons_succ, List.getElem?_cons_zero, List.set_cons_succ, List.set_cons_zero, Nat.reduceAdd, Nat.reduceSub, Nat.zero_add, decide_true, decide_false, Bool.not_true, Bool.not_false, if_true, if_false, rEq, rNe, scal_ii, scal_ss, scal_bb, scal_is, scal_si, scal_ns, scal_ni, scal_in, scal_sn, scal_nn, rI, rI0, rU, rIxLH, rIxTH, rLenH, rLenTH, rSetL, rCatN, rTupOfN, rLstOfN, rSlLN, rSlTN, CDiv, CPow, CMul, CDivW, upd_same, at0, at1, at2, at3, at4, at5, at6, at7, at8, at9, at10, at11, at12, at13, ix3_0, ix3_1, ix3_2, V.int.injEq, V.bl.injEq, V.str.injEq, V.ref.injEq, Option.some.injEq, HO.lst.injEq, HO.tup.injEq, HO.ins.injEq, List.cons.injEq, and_true, true_and, exists_eq_left, exists_eq_left', exists_and_left, exists_eq', exists_eq, and_assoc, N_law_right, hl13]
  intro a4 H14 n14
  have h14 := n14.at_
  rw [cut_front, List.length_map, ← List.map_take] at h14
  try simp only [cxK, r_var, r_c, r_seq, r_next, r_break, r_cont, r_drop, r_ret, r_retN, r_if, r_ife, r_asg, r_name, r_op, r_un, r_nil, r_cons, r_lst2, r_tup2, r_lc, r_for, r_ilist, r_itup, r_istr, r_irng1, r_irng2, r_ienum, r_ienumS, wipe, r_cb, r_test, r_b, r_not, r_notV, r_andV, r_orV, r_isN, r_notN, r_m1, r_m0, r_fld, sFld, putF, r_par, r_sub, r_gtup, r_gnil, r_gcons, r_sl, r_nopart, r_part, r_bm, r_bm0, r_chain, r_call, r_callK, r_meth, r_prop, r_make, r_and, r_or, andT_t, andT_f, orT_t, orT_f, ifK_t, ifK_f, ifE_t, ifE_f, andK_t, andK_f, orK_t, orK_f, L2.start, List.map_cons, List.map_nil, List.length_cons, List.length_nil, List.replicate_succ, List.replicate_zero, List.cons_append, List.nil_append, List.getElem?_cons_succ, List.getElem?_cons_zero, List.set_cons_succ, List.set_cons_zero, Nat.reduceAdd, Nat.reduceSub, Nat.zero_add, decide_true, decide_false, Bool.not_true, Bool.not_false, if_true, if_false, rEq, rNe, scal_ii, scal_ss, scal_bb, scal_is, scal_si, scal_ns, scal_ni, scal_in, scal_sn, scal_nn, rI, rI0, rU, rIxLH, rIxTH, rLenH, rLenTH, rSetL, rCatN, rTupOfN, rLstOfN, rSlLN, rSlTN, CDiv, CPow, CMul, CDivW, upd_same, at0, at1, at2, at3, at4, at5, at6, at7, at8, at9, at10, at11, at12, at13, ix3_0, ix3_1, ix3_2, V.int.injEq, V.bl.injEq, V.str.injEq, V.ref.injEq, Option.some.injEq, HO.lst.injEq, HO.tup.injEq, HO.ins.injEq, List.cons.injEq, and_true, true_and, exists_eq_left, exists_eq_left', exists_and_left, exists_eq', exists_eq, and_assoc, N_law_right, h14]
  intro a5 H15 n15
  refine ⟨fits (by decide), fun a6 H16 n16 => ?_⟩
  refine repr_of (.lst (SqL.of n16.at_) (.cons (.tup (SqT.of (n16.old n15.at_)) (dp_strs _)) (.cons (.bl true) .nil))) rp (by omega) (by decide) (fun _ h => nomatch h) ?_
  try simp only [cxK, r_var, r_c, r_seq, r_next, r_break, r_cont, r_drop, r_ret, r_retN, r_if, r_ife, r_asg, r_name, r_op, r_un, r_nil, r_cons, r_lst2, r_tup2, r_lc, r_for, r_ilist, r_itup, r_istr, r_irng1, r_irng2, r_ienum, r_ienumS, wipe, r_cb, r_test, r_b, r_not, r_notV, r_andV, r_orV, r_isN, r_notN, r_m1, r_m0, r_fld, sFld, putF, r_par, r_sub, r_gtup, r_gnil, r_gcons, r_sl, r_nopart, r_part, r_bm, r_bm0, r_chain, r_call, r_callK, r_meth, r_prop, r_make, r_and, r_or, andT_t, andT_f, orT_t, orT_f, ifK_t, ifK_f, ifE_t, ifE_f, andK_t, andK_f, orK_t, orK_f, L2.start, List.map_cons, List.map_nil, List.length_cons, List.length_nil, List.replicate_succ, List.replicate_zero, List.cons_append, List.nil_append, List.getElem?_cons_succ, List.getElem?_cons_zero, List.set_cons_succ, List.set_cons_zero, Nat.reduceAdd, Nat.reduceSub, Nat.zero_add, decide_true, decide_false, Bool.not_true, Bool.not_false, if_true, if_false, rEq, rNe, scal_ii, scal_ss, scal_bb, scal_is, scal_si, scal_ns, scal_ni, scal_in, scal_sn, scal_nn, rI, rI0, rU, rIxLH, rIxTH, rLenH, rLenTH, rSetL, rCatN, rTupOfN, rLstOfN, rSlLN, rSlTN, CDiv, CPow, CMul, CDivW, upd_same, at0, at1, at2, at3, at4, at5, at6, at7, at8, at9, at10, at11, at12, at13, ix3_0, ix3_1, ix3_2, V.int.injEq, V.bl.injEq, V.str.injEq, V.ref.injEq, Option.some.injEq, HO.lst.injEq, HO.tup.injEq, HO.ins.injEq, List.cons.injEq, and_true, true_and, exists_eq_left, exists_eq_left', exists_and_left, exists_eq', exists_eq, and_assoc, N_law_right]
  have s1216 : Same H12 H16 := same_trans n13.same (same_trans n14.same (same_trans n15.same n16.same))
  have e161 := s1216 _ _ (s12 _ _ e111)
  have e162 := s1216 _ _ (s12 _ _ e112)
  have hl16 := s1216 _ _ hl12
  have s016 := same_trans s011 (same_trans s12 s1216)
  try simp only [cxK, r_var, r_c, r_seq, r_next, r_break, r_cont, r_drop, r_ret, r_retN, r_if, r_ife, r_asg, r_name, r_op, r_un, r_nil, r_cons, r_lst2, r_tup2, r_lc, r_for, r_ilist, r_itup, r_istr, r_irng1, r_irng2, r_ienum, r_ienumS, wipe, r_cb, r_test, r_b, r_not, r_notV, r_andV, r_orV, r_isN, r_notN, r_m1, r_m0, r_fld, sFld, putF, r_par, r_sub, r_gtup, r_gnil, r_gcons, r_sl, r_nopart, r_part, r_bm, r_bm0, r_chain, r_call, r_callK, r_meth, r_prop, r_make, r_and, r_or, andT_t, andT_f, orT_t, orT_f, ifK_t, ifK_f, ifE_t, ifE_f, andK_t, andK_f, orK_t, orK_f, L2.start, List.map_cons, List.map_nil, List.length_cons, List.length_nil, List.replicate_succ, List.replicate_zero, List.cons_append, List.nil_append, List.getElem?_cons_succ, List.getElem?_cons_zero, List.set_cons_succ, List.set_cons_zero, Nat.reduceAdd, Nat.reduceSub, Nat.zero_add, decide_true, decide_false, Bool.not_true, Bool.not_false, if_true, if_false, rEq, rNe, scal_ii, scal_ss, scal_bb, scal_is, scal_si, scal_ns, scal_ni, scal_in, scal_sn, scal_nn, rI, rI0, rU, rIxLH, rIxTH, rLenH, rLenTH, rSetL, rCatN, rTupOfN, rLstOfN, rSlLN, rSlTN, CDiv, CPow, CMul, CDivW, upd_same, at0, at1, at2, at3, at4, at5, at6, at7, at8, at9, at10, at11, at12, at13, ix3_0, ix3_1, ix3_2, V.int.injEq, V.bl.injEq, V.str.injEq, V.ref.injEq, Option.some.injEq, HO.lst.injEq, HO.tup.injEq, HO.ins.injEq, List.cons.injEq, and_true, true_and, exists_eq_left, exists_eq_left', exists_and_left, exists_eq', exists_eq, and_assoc, N_law_right, e161, hl16]
  refine ⟨(cls_ok (T.c.fact 7 (f := fCls "Path") rfl)), (noat_ok (T.c.fact 8 (f := fNo "Path" "names") rfl)), V.ref t, rfl, ?_⟩
  intro a7 H17 n17
  refine eqD_strT (n17.old e162) n17.at_ nm.ok nm.ok ?_
  try simp only [cxK, r_var, r_c, r_seq, r_next, r_break, r_cont, r_drop, r_ret, r_retN, r_if, r_ife, r_asg, r_name, r_op, r_un, r_nil, r_cons, r_lst2, r_tup2, r_lc, r_for, r_ilist, r_itup, r_istr, r_irng1, r_irng2, r_ienum, r_ienumS, wipe, r_cb, r_test, r_b, r_not, r_notV, r_andV, r_orV, r_isN, r_notN, r_m1, r_m0, r_fld, sFld, putF, r_par, r_sub, r_gtup, r_gnil, r_gcons, r_sl, r_nopart, r_part, r_bm, r_bm0, r_chain, r_call, r_callK, r_meth, r_prop, r_make, r_and, r_or, andT_t, andT_f, orT_t, orT_f, ifK_t, ifK_f, ifE_t, ifE_f, andK_t, andK_f, orK_t, orK_f, L2.start, List.map_cons, List.map_nil, List.length_cons, List.length_nil, List.replicate_succ, List.replicate_zero, List.cons_append, List.nil_append, List.getElem?_cons_succ, List.getElem?_cons_zero, List.set_cons_succ, List.set_cons_zero, Nat.reduceAdd, Nat.reduceSub, Nat.zero_add, decide_true, decide_false, Bool.not_true, Bool.not_false, if_true, if_false, rEq, rNe, scal_ii, scal_ss, scal_bb, scal_is, scal_si, scal_ns, scal_ni, scal_in, scal_sn, scal_nn, rI, rI0, rU, rIxLH, rIxTH, rLenH, rLenTH, rSetL, rCatN, rTupOfN, rLstOfN, rSlLN, rSlTN, CDiv, CPow, CMul, CDivW, upd_same, at0, at1, at2, at3, at4, at5, at6, at7, at8, at9, at10, at11, at12, at13, ix3_0, ix3_1, ix3_2, V.int.injEq, V.bl.injEq, V.str.injEq, V.ref.injEq, Option.some.injEq, HO.lst.injEq, HO.tup.injEq, HO.ins.injEq, List.cons.injEq, and_true, true_and, exists_eq_left, exists_eq_left', exists_and_left, exists_eq', exists_eq, and_assoc, N_law_right]
  exact q H17 (same_trans s016 n17.same)
/-- the law's own function -/
def spLaw (K : PySem.W.Frag) : Sp := fun vs H Q _ => ∃ (a : Addr) (ns : List Int), vs = [.ref a] ∧ ns.length ≤ 63 ∧ SqL K H a (ns.map V.int) ∧ ∀ H', Q (.bl true) H'
theorem same_oth {p : Addr} {H H1 H2 : Hp} (n : H p = none) (s : Same H H1) (o : Oth p H1 H2) : Same H H2 := fun b x e => o b x (fun z => by subst z; rw [n] at e; cases e) (s b x e)
def trips : List (Str × Str × Str) := [("a.b", "a", ".b"), (".a", ".a", ""), ("a.", "a.", ""), (".a.b", ".a", ".b"), ("a.b.", "a.b.", ""), ("a..b", "a.", ".b"), ("...", "...", "")]
def tripsN : List (Str × Str × Str) := ([([97, 46, 98], [97], [46, 98]), ([46, 97], [46, 97], []), ([97, 46], [97, 46], []), ([46, 97, 46, 98], [46, 97], [46, 98]), ([97, 46, 98, 46], [97, 46, 98, 46], []), ([97, 46, 46, 98], [97, 46], [46, 98]), ([46, 46, 46], [46, 46, 46], [])] : List (List Nat × List Nat × List Nat)).map fun t => (⟨t.1.toArray⟩, ⟨t.2.1.toArray⟩, ⟨t.2.2.toArray⟩)
theorem trips_eq : trips = tripsN := by decide +kernel
theorem partsN (z : Str) : partsOf z = if 0 < Txt.rfind z pt1 ∧ Txt.rfind z pt1 < (z.length : Int) - 1 then (cutS z none (some (Txt.rfind z pt1)), cutS z (some (Txt.rfind z pt1)) none) else (z, ⟨#[]⟩) := by
  have e : PySem.Str.ofString "" = ⟨#[]⟩ := by decide +kernel
  unfold partsOf
  rw [pt1_eq, e]
theorem trips_ok : ∀ t ∈ trips, isNm t.1 = true ∧ partsOf t.1 = (t.2.1, t.2.2) := by
  rw [trips_eq]
  have e : ∀ t ∈ tripsN, isNm t.1 = true ∧ (if 0 < Txt.rfind t.1 pt1 ∧ Txt.rfind t.1 pt1 < (t.1.length : Int) - 1 then (cutS t.1 none (some (Txt.rfind t.1 pt1)), cutS t.1 (some (Txt.rfind t.1 pt1)) none) else (t.1, ⟨#[]⟩)) = (t.2.1, t.2.2) := by decide +kernel
  intro t ht
  have z := e t ht
  exact ⟨z.1, by rw [partsN]; exact z.2⟩
theorem rows_at {H : Hp} {a0 a1 a2 a3 a4 a5 a6 : Addr} (h0 : H a0 = some (.tup [.str "a.b", .str "a", .str ".b"])) (h1 : H a1 = some (.tup [.str ".a", .str ".a", .str ""])) (h2 : H a2 = some (.tup [.str "a.", .str "a.", .str ""]))
    (h3 : H a3 = some (.tup [.str ".a.b", .str ".a", .str ".b"])) (h4 : H a4 = some (.tup [.str "a.b.", .str "a.b.", .str ""])) (h5 : H a5 = some (.tup [.str "a..b", .str "a.", .str ".b"])) (h6 : H a6 = some (.tup [.str "...", .str "...", .str ""])) :
    ∀ (i : Nat) (v : V), ([.ref a0, .ref a1, .ref a2, .ref a3, .ref a4, .ref a5, .ref a6] : List V)[i]? = some v → ∃ (a : Addr) (t : Str × Str × Str), v = .ref a ∧ t ∈ trips ∧ H a = some (.tup [.str t.1, .str t.2.1, .str t.2.2]) := by
  intro i v hv
  have hi : i < 7 := idx_lt hv
  match i, hi, hv with
  | 0, _, hv => exact ⟨a0, _, (Option.some.inj hv).symm, List.mem_of_getElem? (i := 0) rfl, h0⟩
  | 1, _, hv => exact ⟨a1, _, (Option.some.inj hv).symm, List.mem_of_getElem? (i := 1) rfl, h1⟩
  | 2, _, hv => exact ⟨a2, _, (Option.some.inj hv).symm, List.mem_of_getElem? (i := 2) rfl, h2⟩
  | 3, _, hv => exact ⟨a3, _, (Option.some.inj hv).symm, List.mem_of_getElem? (i := 3) rfl, h3⟩
  | 4, _, hv => exact ⟨a4, _, (Option.some.inj hv).symm, List.mem_of_getElem? (i := 4) rfl, h4⟩
  | 5, _, hv => exact ⟨a5, _, (Option.some.inj hv).symm, List.mem_of_getElem? (i := 5) rfl, h5⟩
  | 6, _, hv => exact ⟨a6, _, (Option.some.inj hv).symm, List.mem_of_getElem? (i := 6) rfl, h6⟩
def LawPx (H : Hp) (L r : Addr) (v1 v2 v3 v4 : Option V) (_ : Nat) (σ : L2.St) (H' : Hp) : Prop := ∃ v6 v7 v8 : Option V, σ = [some (.ref L), v1, v2, v3, v4, some (.ref r), v6, v7, v8, none] ∧ Same H H'
theorem nm_x : isNm (PySem.Str.ofString "x") = true := by
  have e : PySem.Str.ofString "x" = ⟨#[120]⟩ := by decide +kernel
  rw [e]
  decide +kernel
theorem parts_nil : partsOf (lastOf []) = (PySem.Str.ofString "", PySem.Str.ofString "") := by
  have e : PySem.Str.ofString "" = ⟨#[]⟩ := by decide +kernel
  have e2 : lastOf [] = ⟨#[]⟩ := e
  rw [e2, partsN, e]
  decide +kernel
def LawPv (H : Hp) (L : Addr) (_ : Nat) (σ : L2.St) (H' : Hp) : Prop := ∃ v1 v2 v3 v4 : Option V, σ = [some (.ref L), v1, v2, v3, v4, none, none, none, none, none] ∧ Same H H'
def LawPw (H : Hp) (L : Addr) (k : Int) (s : Addr) (i : Nat) (σ : L2.St) (H' : Hp) : Prop := ∃ (v3 v4 : Option V) (j : Int), σ = [some (.ref L), some (.int k), some (.ref s), v3, v4, none, none, none, none, none] ∧ Same H H' ∧ H s = none ∧ Src H' s j ∧ j ≤ 1000 + 25 * i
theorem ok_law (T : Tx fa fn K mg) : Fn P w K mg base 7 (aG "law" K) [] (spLaw K) := by
  obtain ⟨fd, F⟩ := F_law T
  refine fn_all F sc_law (fun vs H Q E h => ?_) (b_law F) (fun cdv A outer s H vs Q E hr h => ⟨_, (pss_cons (ps_for passO rfl (pi_range1 (by rfl) (T.free (T.c.fact 12 (f := fFree "range") rfl)) (pa_cons (pe_callB (call_max2 rfl) (by rfl) (T.free (T.c.fact 22 (f := fFree "max") rfl)) (by decide +kernel) (pa_cons pe_int (pa_cons (pe_callB (call_min2 rfl) (by rfl) (T.free (T.c.fact 23 (f := fFree "min") rfl)) (by decide +kernel) (pa_cons pe_int (pa_cons (pe_callB call_len_seq (by rfl) (T.free (T.c.fact 0 (f := fFree "len") rfl)) (by decide +kernel) (pa_cons (pv 0) pa_nil)) pa_nil))) pa_nil))) pa_nil)) (pg_name (i := 1) sc_law.nd rfl (Or.inl rfl))
 (pss_cons (ps_set (i := 2) sc_law.nd rfl (Or.inl rfl) (pe_fn (ok_law_source T) (hr.mono (by decide)) rfl (g_law_source T) (k_law_source T) passD (pa_cons (pv 0) (pa_cons (pv 1) pa_nil))))
 (pss_one (ps_for passO rfl (pi_range1 (by rfl) (T.free (T.c.fact 12 (f := fFree "range") rfl)) (pa_cons pe_int pa_nil)) (pg_name (i := 3) sc_law.nd rfl (Or.inl rfl))
 (pss_cons (ps_set (i := 4) sc_law.nd rfl (Or.inl rfl) (pe_fn (ok_law_row T) (hr.mono (by decide)) rfl (g_law_row T) (k_law_row T) passD (pa_cons (pv 2) (pa_cons pe_int pa_nil))))
 (pss_one (ps_if (PW.pt (pw_or (pt_not (pt_val (pe_fn (ok_law_right T) (hr.mono (by decide)) rfl (g_law_right T) (k_law_right T) passD (pa_cons (pv 4) pa_nil)))) (pw_or1 (pt_not (pt_val (pe_fn (ok_law_right T) (hr.mono (by decide)) rfl (g_law_right T) (k_law_right T) passD (pa_cons (pe_op op_cat_n (pv 4) (pe_lst (pa_cons (pe_fn (ok_law_dotted T) (hr.mono (by decide)) rfl (g_law_dotted T) (k_law_dotted T) passD (pa_cons (pv 2) pa_nil)) pa_nil))) pa_nil)))))))
 (pss_one (ps_ret pe_bl))
 pss_nil)))))))
 (pss_cons (ps_set (i := 5) sc_law.nd rfl (Or.inl rfl) (pe_lst (pa_cons (pe_tup (pa_cons pe_str (pa_cons pe_str (pa_cons pe_str pa_nil)))) (pa_cons (pe_tup (pa_cons pe_str (pa_cons pe_str (pa_cons pe_str pa_nil)))) (pa_cons (pe_tup (pa_cons pe_str (pa_cons pe_str (pa_cons pe_str pa_nil)))) (pa_cons (pe_tup (pa_cons pe_str (pa_cons pe_str (pa_cons pe_str pa_nil)))) (pa_cons (pe_tup (pa_cons pe_str (pa_cons pe_str (pa_cons pe_str pa_nil)))) pa_nil)))))))
 (pss_cons (ps_for passO rfl (pi_list (pe_op op_cat_n (pv 5) (pe_lst (pa_cons (pe_tup (pa_cons pe_str (pa_cons pe_str (pa_cons pe_str pa_nil)))) (pa_cons (pe_tup (pa_cons pe_str (pa_cons pe_str (pa_cons pe_str pa_nil)))) pa_nil))))) (pg_tup (by rfl) (pgs_cons (pg_name (i := 6) sc_law.nd rfl (Or.inl rfl)) (pgs_cons (pg_name (i := 7) sc_law.nd rfl (Or.inl rfl)) (pgs_cons (pg_name (i := 8) sc_law.nd rfl (Or.inl rfl)) pgs_nil))))
 (pss_one (ps_if (pt_cmpR (op_neD hr.r.units) (pe_lst (pa_cons (pe_pr (pe_mk (mkr_ok (T.c.fact 10 (f := fMkr "Path") rfl)) (ok_Path_init T) (hr.mono (by decide)) rfl (T.glo (T.c.fact 11 (f := fGlo "Path") rfl)) passD (pa_cons pe_str (pa_cons (pv 6) pa_nil))) (cls_ok (T.c.fact 7 (f := fCls "Path") rfl)) (prop_ok (T.c.fact 18 (f := fProp "Path" "stem") rfl)) (ok_Path_stem T) (hr.mono (by decide)) passL) (pa_cons (pe_pr (pe_mk (mkr_ok (T.c.fact 10 (f := fMkr "Path") rfl)) (ok_Path_init T) (hr.mono (by decide)) rfl (T.glo (T.c.fact 11 (f := fGlo "Path") rfl)) passD (pa_cons pe_str (pa_cons (pv 6) pa_nil))) (cls_ok (T.c.fact 7 (f := fCls "Path") rfl)) (prop_ok (T.c.fact 17 (f := fProp "Path" "suffix") rfl)) (ok_Path_suffix T) (hr.mono (by decide)) passL) pa_nil))) (pe_lst (pa_cons (pv 7) (pa_cons (pv 8) pa_nil))) (nomark _))
 (pss_one (ps_ret pe_bl))
 pss_nil)))
 (pss_cons (ps_set (i := 9) sc_law.nd rfl (Or.inl rfl) (pe_mk0 (mkr_ok (T.c.fact 10 (f := fMkr "Path") rfl)) (ok_Path_init T) (hr.mono (by decide)) rfl (T.glo (T.c.fact 11 (f := fGlo "Path") rfl)) passD))
 (pss_one (ps_ret (pe_cmpR (op_eqD hr.r.units) (pe_lst (pa_cons (pe_pr (pv 9) (cls_ok (T.c.fact 7 (f := fCls "Path") rfl)) (prop_ok (T.c.fact 19 (f := fProp "Path" "text") rfl)) (ok_Path_text T) (hr.mono (by decide)) passL) (pa_cons (pe_pr (pv 9) (cls_ok (T.c.fact 7 (f := fCls "Path") rfl)) (prop_ok (T.c.fact 9 (f := fProp "Path" "name") rfl)) (ok_Path_name T) (hr.mono (by decide)) passL) (pa_cons (pe_pr (pv 9) (cls_ok (T.c.fact 7 (f := fCls "Path") rfl)) (prop_ok (T.c.fact 18 (f := fProp "Path" "stem") rfl)) (ok_Path_stem T) (hr.mono (by decide)) passL) (pa_cons (pe_pr (pv 9) (cls_ok (T.c.fact 7 (f := fCls "Path") rfl)) (prop_ok (T.c.fact 17 (f := fProp "Path" "suffix") rfl)) (ok_Path_suffix T) (hr.mono (by decide)) passL) (pa_cons (pe_fld (pe_pr (pv 9) (cls_ok (T.c.fact 7 (f := fCls "Path") rfl)) (prop_ok (T.c.fact 16 (f := fProp "Path" "parent") rfl)) (ok_Path_parent T) (hr.mono (by decide)) passL) rfl) pa_nil)))))) (pe_lst (pa_cons pe_str (pa_cons pe_str (pa_cons pe_str (pa_cons pe_str (pa_cons (pe_tup pa_nil) pa_nil)))))) (nomark _)))))))), ?_⟩)
  · first | (obtain ⟨_, e, _⟩ := h; subst e; rfl) | (obtain ⟨_, _, e, _⟩ := h; subst e; rfl) | (obtain ⟨_, _, _, e, _⟩ := h; subst e; rfl) | (obtain ⟨_, _, _, _, e, _⟩ := h; subst e; rfl) | (obtain ⟨_, _, _, _, _, e, _⟩ := h; subst e; rfl) | (obtain ⟨_, _, _, _, _, _, e, _⟩ := h; subst e; rfl) | (obtain ⟨_, _, _, _, _, _, _, e, _⟩ := h; subst e; rfl) | (obtain ⟨_, _, _, _, _, _, _, _, e, _⟩ := h; subst e; rfl) | (obtain ⟨_, _, _, _, _, _, _, _, _, e, _⟩ := h; subst e; rfl) | (obtain ⟨_, _, _, _, _, _, _, _, _, _, e, _⟩ := h; subst e; rfl) | (obtain ⟨_, _, _, _, _, _, _, _, _, _, _, e, _⟩ := h; subst e; rfl)
  obtain ⟨L, ns, rfl, hn, hL, q⟩ := h
  try simp only [cxK, r_var, r_c, r_seq, r_next, r_break, r_cont, r_drop, r_ret, r_retN, r_if, r_ife, r_asg, r_name, r_op, r_un, r_nil, r_cons, r_lst2, r_tup2, r_lc, r_for, r_ilist, r_itup, r_istr, r_irng1, r_irng2, r_ienum, r_ienumS, wipe, r_cb, r_test, r_b, r_not, r_notV, r_andV, r_orV, r_isN, r_notN, r_m1, r_m0, r_fld, sFld, putF, r_par, r_sub, r_gtup, r_gnil, r_gcons, r_sl, r_nopart, r_part, r_bm, r_bm0, r_chain, r_call, r_callK, r_meth, r_prop, r_make, r_and, r_or, andT_t, andT_f, orT_t, orT_f, ifK_t, ifK_f, ifE_t, ifE_f, andK_t, andK_f, orK_t, orK_f, L2.start, List.map_cons, List.map_nil, List.length_cons, List.length_nil, List.replicate_succ, List.replicate_zero, List.cons_append, List.nil_append, List.getElem?_cons_succ, List.getElem?_cons_zero, List.set_cons_succ, List.set_cons_zero, Nat.reduceAdd, Nat.reduceSub, Nat.zero_add, decide_true, decide_false, Bool.not_true, Bool.not_false, if_true, if_false, rEq, rNe, scal_ii, scal_ss, scal_bb, scal_is, scal_si, scal_ns, scal_ni, scal_in, scal_sn, scal_nn, rI, rI0, rU, rIxLH, rIxTH, rLenH, rLenTH, rSetL, rCatN, rTupOfN, rLstOfN, rSlLN, rSlTN, CDiv, CPow, CMul, CDivW, upd_same, at0, at1, at2, at3, at4, at5, at6, at7, at8, at9, at10, at11, at12, at13, ix3_0, ix3_1, ix3_2, V.int.injEq, V.bl.injEq, V.str.injEq, V.ref.injEq, Option.some.injEq, HO.lst.injEq, HO.tup.injEq, HO.ins.injEq, List.cons.injEq, and_true, true_and, exists_eq_left, exists_eq_left', exists_and_left, exists_eq', exists_eq, and_assoc, N_law]
  have hm : (ns.map V.int).length ≤ 63 := by simpa using hn
  refine ⟨_, Or.inl hL, by split <;> split <;> omega, by split <;> split <;> omega, ?_⟩
  refine forK_rng (LawPv H L) ⟨none, none, none, none, rfl, same_refl⟩ ?_ ?_
  · rintro i σ H1 hi ⟨v1, v2, v3, v4, rfl, s1⟩
    have hi2 : i < 3 := by
      have : (if (if ((ns.map V.int).length : Int) < 3 then ((ns.map V.int).length : Int) else 3) > 1 then (if ((ns.map V.int).length : Int) < 3 then ((ns.map V.int).length : Int) else 3) else 1) ≤ 3 := by split <;> split <;> omega
      omega
    try simp only [cxK, r_var, r_c, r_seq, r_next, r_break, r_cont, r_drop, r_ret, r_retN, r_if, r_ife, r_asg, r_name, r_op, r_un, r_nil, r_cons, r_lst2, r_tup2, r_lc, r_for, r_ilist, r_itup, r_istr, r_irng1, r_irng2, r_ienum, r_ienumS, wipe, r_cb, r_test, r_b, r_not, r_notV, r_andV, r_orV, r_isN, r_notN, r_m1, r_m0, r_fld, sFld, putF, r_par, r_sub, r_gtup, r_gnil, r_gcons, r_sl, r_nopart, r_part, r_bm, r_bm0, r_chain, r_call, r_callK, r_meth, r_prop, r_make, r_and, r_or, andT_t, andT_f, orT_t, orT_f, ifK_t, ifK_f, ifE_t, ifE_f, andK_t, andK_f, orK_t, orK_f, L2.start, List.map_cons, List.map_nil, List.length_cons, List.length_nil, List.replicate_succ, List.replicate_zero, List.cons_append, List.nil_append, List.getElem?_cons_succ, List.getElem?_cons_zero, List.set_cons_succ, List.set_cons_zero, Nat.reduceAdd, Nat.reduceSub, Nat.zero_add, decide_true, decide_false, Bool.not_true, Bool.not_false, if_true, if_false, rEq, rNe, scal_ii, scal_ss, scal_bb, scal_is, scal_si, scal_ns, scal_ni, scal_in, scal_sn, scal_nn, rI, rI0, rU, rIxLH, rIxTH, rLenH, rLenTH, rSetL, rCatN, rTupOfN, rLstOfN, rSlLN, rSlTN, CDiv, CPow, CMul, CDivW, upd_same, at0, at1, at2, at3, at4, at5, at6, at7, at8, at9, at10, at11, at12, at13, ix3_0, ix3_1, ix3_2, V.int.injEq, V.bl.injEq, V.str.injEq, V.ref.injEq, Option.some.injEq, HO.lst.injEq, HO.tup.injEq, HO.ins.injEq, List.cons.injEq, and_true, true_and, exists_eq_left, exists_eq_left', exists_and_left, exists_eq', exists_eq, and_assoc, N_law]
    refine ⟨L, ns, _, rfl, s1.seq hL, by omega, by omega, fun s H2 ns2 s2 hs2 => ?_⟩
    try simp only [cxK, r_var, r_c, r_seq, r_next, r_break, r_cont, r_drop, r_ret, r_retN, r_if, r_ife, r_asg, r_name, r_op, r_un, r_nil, r_cons, r_lst2, r_tup2, r_lc, r_for, r_ilist, r_itup, r_istr, r_irng1, r_irng2, r_ienum, r_ienumS, wipe, r_cb, r_test, r_b, r_not, r_notV, r_andV, r_orV, r_isN, r_notN, r_m1, r_m0, r_fld, sFld, putF, r_par, r_sub, r_gtup, r_gnil, r_gcons, r_sl, r_nopart, r_part, r_bm, r_bm0, r_chain, r_call, r_callK, r_meth, r_prop, r_make, r_and, r_or, andT_t, andT_f, orT_t, orT_f, ifK_t, ifK_f, ifE_t, ifE_f, andK_t, andK_f, orK_t, orK_f, L2.start, List.map_cons, List.map_nil, List.length_cons, List.length_nil, List.replicate_succ, List.replicate_zero, List.cons_append, List.nil_append, List.getElem?_cons_succ, List.getElem?_cons_zero, List.set_cons_succ, List.set_cons_zero, Nat.reduceAdd, Nat.reduceSub, Nat.zero_add, decide_true, decide_false, Bool.not_true, Bool.not_false, if_true, if_false, rEq, rNe, scal_ii, scal_ss, scal_bb, scal_is, scal_si, scal_ns, scal_ni, scal_in, scal_sn, scal_nn, rI, rI0, rU, rIxLH, rIxTH, rLenH, rLenTH, rSetL, rCatN, rTupOfN, rLstOfN, rSlLN, rSlTN, CDiv, CPow, CMul, CDivW, upd_same, at0, at1, at2, at3, at4, at5, at6, at7, at8, at9, at10, at11, at12, at13, ix3_0, ix3_1, ix3_2, V.int.injEq, V.bl.injEq, V.str.injEq, V.ref.injEq, Option.some.injEq, HO.lst.injEq, HO.tup.injEq, HO.ins.injEq, List.cons.injEq, and_true, true_and, exists_eq_left, exists_eq_left', exists_and_left, exists_eq', exists_eq, and_assoc, N_law]
    have s12 := same_trans s1 s2
    have hsn : H s = none := by
      cases e : H s with
      | none => rfl
      | some o => rw [s1 _ _ e] at ns2; cases ns2
    refine ⟨by decide, by decide, ?_⟩
    refine forK_rng (LawPw H L (0 + i) s) ⟨v3, v4, _, rfl, s12, hsn, hs2, by omega⟩ ?_ ?_
    · rintro i2 σ H3 hi3 ⟨v3, v4, j, rfl, s3, _, hs3, hj⟩
      have hi4 : i2 < 5 := hi3
      try simp only [cxK, r_var, r_c, r_seq, r_next, r_break, r_cont, r_drop, r_ret, r_retN, r_if, r_ife, r_asg, r_name, r_op, r_un, r_nil, r_cons, r_lst2, r_tup2, r_lc, r_for, r_ilist, r_itup, r_istr, r_irng1, r_irng2, r_ienum, r_ienumS, wipe, r_cb, r_test, r_b, r_not, r_notV, r_andV, r_orV, r_isN, r_notN, r_m1, r_m0, r_fld, sFld, putF, r_par, r_sub, r_gtup, r_gnil, r_gcons, r_sl, r_nopart, r_part, r_bm, r_bm0, r_chain, r_call, r_callK, r_meth, r_prop, r_make, r_and, r_or, andT_t, andT_f, orT_t, orT_f, ifK_t, ifK_f, ifE_t, ifE_f, andK_t, andK_f, orK_t, orK_f, L2.start, List.map_cons, List.map_nil, List.length_cons, List.length_nil, List.replicate_succ, List.replicate_zero, List.cons_append, List.nil_append, List.getElem?_cons_succ, List.getElem?_cons_zero, List.set_cons_succ, List.set_cons_zero, Nat.reduceAdd, Nat.reduceSub, Nat.zero_add, decide_true, decide_false, Bool.not_true, Bool.not_false, if_true, if_false, rEq, rNe, scal_ii, scal_ss, scal_bb, scal_is, scal_si, scal_ns, scal_ni, scal_in, scal_sn, scal_nn, rI, rI0, rU, rIxLH, rIxTH, rLenH, rLenTH, rSetL, rCatN, rTupOfN, rLstOfN, rSlLN, rSlTN, CDiv, CPow, CMul, CDivW, upd_same, at0, at1, at2, at3, at4, at5, at6, at7, at8, at9, at10, at11, at12, at13, ix3_0, ix3_1, ix3_2, V.int.injEq, V.bl.injEq, V.str.injEq, V.ref.injEq, Option.some.injEq, HO.lst.injEq, HO.tup.injEq, HO.ins.injEq, List.cons.injEq, and_true, true_and, exists_eq_left, exists_eq_left', exists_and_left, exists_eq', exists_eq, and_assoc, N_law]
      refine ⟨s, 11, j, rfl, by decide, by decide, hs3, by omega, fun row l j2 H4 hlen hnm hl0 j3 j4 o4 hs4 hl4 => ?_⟩
      try simp only [cxK, r_var, r_c, r_seq, r_next, r_break, r_cont, r_drop, r_ret, r_retN, r_if, r_ife, r_asg, r_name, r_op, r_un, r_nil, r_cons, r_lst2, r_tup2, r_lc, r_for, r_ilist, r_itup, r_istr, r_irng1, r_irng2, r_ienum, r_ienumS, wipe, r_cb, r_test, r_b, r_not, r_notV, r_andV, r_orV, r_isN, r_notN, r_m1, r_m0, r_fld, sFld, putF, r_par, r_sub, r_gtup, r_gnil, r_gcons, r_sl, r_nopart, r_part, r_bm, r_bm0, r_chain, r_call, r_callK, r_meth, r_prop, r_make, r_and, r_or, andT_t, andT_f, orT_t, orT_f, ifK_t, ifK_f, ifE_t, ifE_f, andK_t, andK_f, orK_t, orK_f, L2.start, List.map_cons, List.map_nil, List.length_cons, List.length_nil, List.replicate_succ, List.replicate_zero, List.cons_append, List.nil_append, List.getElem?_cons_succ, List.getElem?_cons_zero, List.set_cons_succ, List.set_cons_zero, Nat.reduceAdd, Nat.reduceSub, Nat.zero_add, decide_true, decide_false, Bool.not_true, Bool.not_false, if_true, if_false, rEq, rNe, scal_ii, scal_ss, scal_bb, scal_is, scal_si, scal_ns, scal_ni, scal_in, scal_sn, scal_nn, rI, rI0, rU, rIxLH, rIxTH, rLenH, rLenTH, rSetL, rCatN, rTupOfN, rLstOfN, rSlLN, rSlTN, CDiv, CPow, CMul, CDivW, upd_same, at0, at1, at2, at3, at4, at5, at6, at7, at8, at9, at10, at11, at12, at13, ix3_0, ix3_1, ix3_2, V.int.injEq, V.bl.injEq, V.str.injEq, V.ref.injEq, Option.some.injEq, HO.lst.injEq, HO.tup.injEq, HO.ins.injEq, List.cons.injEq, and_true, true_and, exists_eq_left, exists_eq_left', exists_and_left, exists_eq', exists_eq, and_assoc, N_law]
      have s4 := same_oth hsn s3 o4
      refine ⟨l, row, rfl, hl4, by omega, hnm, fun H5 s5 => ?_⟩
      try simp only [cxK, r_var, r_c, r_seq, r_next, r_break, r_cont, r_drop, r_ret, r_retN, r_if, r_ife, r_asg, r_name, r_op, r_un, r_nil, r_cons, r_lst2, r_tup2, r_lc, r_for, r_ilist, r_itup, r_istr, r_irng1, r_irng2, r_ienum, r_ienumS, wipe, r_cb, r_test, r_b, r_not, r_notV, r_andV, r_orV, r_isN, r_notN, r_m1, r_m0, r_fld, sFld, putF, r_par, r_sub, r_gtup, r_gnil, r_gcons, r_sl, r_nopart, r_part, r_bm, r_bm0, r_chain, r_call, r_callK, r_meth, r_prop, r_make, r_and, r_or, andT_t, andT_f, orT_t, orT_f, ifK_t, ifK_f, ifE_t, ifE_f, andK_t, andK_f, orK_t, orK_f, L2.start, List.map_cons, List.map_nil, List.length_cons, List.length_nil, List.replicate_succ, List.replicate_zero, List.cons_append, List.nil_append, List.getElem?_cons_succ, List.getElem?_cons_zero, List.set_cons_succ, List.set_cons_zero, Nat.reduceAdd, Nat.reduceSub, Nat.zero_add, decide_true, decide_false, Bool.not_true, Bool.not_false, if_true, if_false, rEq, rNe, scal_ii, scal_ss, scal_bb, scal_is, scal_si, scal_ns, scal_ni, scal_in, scal_sn, scal_nn, rI, rI0, rU, rIxLH, rIxTH, rLenH, rLenTH, rSetL, rCatN, rTupOfN, rLstOfN, rSlLN, rSlTN, CDiv, CPow, CMul, CDivW, upd_same, at0, at1, at2, at3, at4, at5, at6, at7, at8, at9, at10, at11, at12, at13, ix3_0, ix3_1, ix3_2, V.int.injEq, V.bl.injEq, V.str.injEq, V.ref.injEq, Option.some.injEq, HO.lst.injEq, HO.tup.injEq, HO.ins.injEq, List.cons.injEq, and_true, true_and, exists_eq_left, exists_eq_left', exists_and_left, exists_eq', exists_eq, and_assoc, N_law]
      have hs5 := hs4.same s5
      refine ⟨s, j2, rfl, hs5, by omega, fun z j5 H6 hz j6 j7 o6 hs6 => ?_⟩
      have ls : l ≠ s := fun e => by
        obtain ⟨c, d, e2, _⟩ := hs4
        rw [e, e2] at hl4
        cases row with
        | nil => cases hl4
        | cons x r => cases hl4
      have hl6 := o6 _ _ ls (s5 _ _ hl4)
      have s6 := same_oth hsn (same_trans s4 s5) o6
      refine ⟨fits (by decide), fun a H7 n7 => ?_⟩
      have hl7 := n7.old hl6
      have ha7 := n7.at_
      try simp only [cxK, r_var, r_c, r_seq, r_next, r_break, r_cont, r_drop, r_ret, r_retN, r_if, r_ife, r_asg, r_name, r_op, r_un, r_nil, r_cons, r_lst2, r_tup2, r_lc, r_for, r_ilist, r_itup, r_istr, r_irng1, r_irng2, r_ienum, r_ienumS, wipe, r_cb, r_test, r_b, r_not, r_notV, r_andV, r_orV, r_isN, r_notN, r_m1, r_m0, r_fld, sFld, putF, r_par, r_sub, r_gtup, r_gnil, r_gcons, r_sl, r_nopart, r_part, r_bm, r_bm0, r_chain, r_call, r_callK, r_meth, r_prop, r_make, r_and, r_or, andT_t, andT_f, orT_t, orT_f, ifK_t, ifK_f, ifE_t, ifE_f, andK_t, andK_f, orK_t, orK_f, L2.start, List.map_cons, List.map_nil, List.length_cons, List.length_nil, List.replicate_succ, List.replicate_zero, List.cons_append, List.nil_append, List.getElem?_cons_succ, List.getElem?_cons_zero, List.set_cons_succ, List.set_cons_zero, Nat.reduceAdd, Nat.reduceSub, Nat.zero_add, decide_true, decide_false, Bool.not_true, Bool.not_false, if_true, if_false, rEq, rNe, scal_ii, scal_ss, scal_bb, scal_is, scal_si, scal_ns, scal_ni, scal_in, scal_sn, scal_nn, rI, rI0, rU, rIxLH, rIxTH, rLenH, rLenTH, rSetL, rCatN, rTupOfN, rLstOfN, rSlLN, rSlTN, CDiv, CPow, CMul, CDivW, upd_same, at0, at1, at2, at3, at4, at5, at6, at7, at8, at9, at10, at11, at12, at13, ix3_0, ix3_1, ix3_2, V.int.injEq, V.bl.injEq, V.str.injEq, V.ref.injEq, Option.some.injEq, HO.lst.injEq, HO.tup.injEq, HO.ins.injEq, List.cons.injEq, and_true, true_and, exists_eq_left, exists_eq_left', exists_and_left, exists_eq', exists_eq, and_assoc, N_law, hl7, ha7]
      refine ⟨fits (by simp; omega), fun b H8 n8 => ?_⟩
      have hb8 : H8 b = some (.lst ((row ++ [z]).map V.str)) := by rw [n8.at_]; simp
      refine ⟨b, row ++ [z], rfl, hb8, by simp; omega, fun x hx => ?_, fun H9 s9 => ?_⟩
      · rcases List.mem_append.mp hx with h | h
        · exact hnm x h
        · simp at h
          subst h
          exact hz
      · try simp only [cxK, r_var, r_c, r_seq, r_next, r_break, r_cont, r_drop, r_ret, r_retN, r_if, r_ife, r_asg, r_name, r_op, r_un, r_nil, r_cons, r_lst2, r_tup2, r_lc, r_for, r_ilist, r_itup, r_istr, r_irng1, r_irng2, r_ienum, r_ienumS, wipe, r_cb, r_test, r_b, r_not, r_notV, r_andV, r_orV, r_isN, r_notN, r_m1, r_m0, r_fld, sFld, putF, r_par, r_sub, r_gtup, r_gnil, r_gcons, r_sl, r_nopart, r_part, r_bm, r_bm0, r_chain, r_call, r_callK, r_meth, r_prop, r_make, r_and, r_or, andT_t, andT_f, orT_t, orT_f, ifK_t, ifK_f, ifE_t, ifE_f, andK_t, andK_f, orK_t, orK_f, L2.start, List.map_cons, List.map_nil, List.length_cons, List.length_nil, List.replicate_succ, List.replicate_zero, List.cons_append, List.nil_append, List.getElem?_cons_succ, List.getElem?_cons_zero, List.set_cons_succ, List.set_cons_zero, Nat.reduceAdd, Nat.reduceSub, Nat.zero_add, decide_true, decide_false, Bool.not_true, Bool.not_false, if_true, if_false, rEq, rNe, scal_ii, scal_ss, scal_bb, scal_is, scal_si, scal_ns, scal_ni, scal_in, scal_sn, scal_nn, rI, rI0, rU, rIxLH, rIxTH, rLenH, rLenTH, rSetL, rCatN, rTupOfN, rLstOfN, rSlLN, rSlTN, CDiv, CPow, CMul, CDivW, upd_same, at0, at1, at2, at3, at4, at5, at6, at7, at8, at9, at10, at11, at12, at13, ix3_0, ix3_1, ix3_2, V.int.injEq, V.bl.injEq, V.str.injEq, V.ref.injEq, Option.some.injEq, HO.lst.injEq, HO.tup.injEq, HO.ins.injEq, List.cons.injEq, and_true, true_and, exists_eq_left, exists_eq_left', exists_and_left, exists_eq', exists_eq, and_assoc, N_law]
        have s69 := same_trans n7.same (same_trans n8.same s9)
        exact ⟨_, _, j5, rfl, same_trans s6 s69, hsn, hs6.same s69, by omega⟩
    · rintro σ H3 ⟨v3, v4, j, rfl, s3, _, hs3, hj⟩
      exact ⟨_, _, _, _, rfl, s3⟩
  · rintro σ H1 ⟨v1, v2, v3, v4, rfl, s1⟩
    try simp only [cxK, r_var, r_c, r_seq, r_next, r_break, r_cont, r_drop, r_ret, r_retN, r_if, r_ife, r_asg, r_name, r_op, r_un, r_nil, r_cons, r_lst2, r_tup2, r_lc, r_for, r_ilist, r_itup, r_istr, r_irng1, r_irng2, r_ienum, r_ienumS, wipe, r_cb, r_test, r_b, r_not, r_notV, r_andV, r_orV, r_isN, r_notN, r_m1, r_m0, r_fld, sFld, putF, r_par, r_sub, r_gtup, r_gnil, r_gcons, r_sl, r_nopart, r_part, r_bm, r_bm0, r_chain, r_call, r_callK, r_meth, r_prop, r_make, r_and, r_or, andT_t, andT_f, orT_t, orT_f, ifK_t, ifK_f, ifE_t, ifE_f, andK_t, andK_f, orK_t, orK_f, L2.start, List.map_cons, List.map_nil, List.length_cons, List.length_nil, List.replicate_succ, List.replicate_zero, List.cons_append, List.nil_append, List.getElem?_cons_succ, List.getElem?_cons_zero, List.set_cons_succ, List.set_cons_zero, Nat.reduceAdd, Nat.reduceSub, Nat.zero_add, decide_true, decide_false, Bool.not_true, Bool.not_false, if_true, if_false, rEq, rNe, scal_ii, scal_ss, scal_bb, scal_is, scal_si, scal_ns, scal_ni, scal_in, scal_sn, scal_nn, rI, rI0, rU, rIxLH, rIxTH, rLenH, rLenTH, rSetL, rCatN, rTupOfN, rLstOfN, rSlLN, rSlTN, CDiv, CPow, CMul, CDivW, upd_same, at0, at1, at2, at3, at4, at5, at6, at7, at8, at9, at10, at11, at12, at13, ix3_0, ix3_1, ix3_2, V.int.injEq, V.bl.injEq, V.str.injEq, V.ref.injEq, Option.some.injEq, HO.lst.injEq, HO.tup.injEq, HO.ins.injEq, List.cons.injEq, and_true, true_and, exists_eq_left, exists_eq_left', exists_and_left, exists_eq', exists_eq, and_assoc, N_law]
    refine ⟨fits (by decide), fun p0 G0 g0 => ⟨fits (by decide), fun p1 G1 g1 => ⟨fits (by decide), fun p2 G2 g2 => ⟨fits (by decide), fun p3 G3 g3 => ⟨fits (by decide), fun p4 G4 g4 => ⟨fits (by decide), fun r G5 g5 => ⟨fits (by decide), fun p5 G6 g6 => ⟨fits (by decide), fun p6 G7 g7 => ⟨fits (by decide), fun r2 G8 g8 => ?_⟩⟩⟩⟩⟩⟩⟩⟩⟩
    have sg : ∀ {A B : Hp} {p : Addr} {o : HO}, IsNew A p o B → Same A B := fun n => n.same
    have hr8 := g8.old (g7.old (g6.old g5.at_))
    have hr28 := g8.at_
    try simp only [cxK, r_var, r_c, r_seq, r_next, r_break, r_cont, r_drop, r_ret, r_retN, r_if, r_ife, r_asg, r_name, r_op, r_un, r_nil, r_cons, r_lst2, r_tup2, r_lc, r_for, r_ilist, r_itup, r_istr, r_irng1, r_irng2, r_ienum, r_ienumS, wipe, r_cb, r_test, r_b, r_not, r_notV, r_andV, r_orV, r_isN, r_notN, r_m1, r_m0, r_fld, sFld, putF, r_par, r_sub, r_gtup, r_gnil, r_gcons, r_sl, r_nopart, r_part, r_bm, r_bm0, r_chain, r_call, r_callK, r_meth, r_prop, r_make, r_and, r_or, andT_t, andT_f, orT_t, orT_f, ifK_t, ifK_f, ifE_t, ifE_f, andK_t, andK_f, orK_t, orK_f, L2.start, List.map_cons, List.map_nil, List.length_cons, List.length_nil, List.replicate_succ, List.replicate_zero, List.cons_append, List.nil_append, List.getElem?_cons_succ, List.getElem?_cons_zero, List.set_cons_succ, List.set_cons_zero, Nat.reduceAdd, Nat.reduceSub, Nat.zero_add, decide_true, decide_false, Bool.not_true, Bool.not_false, if_true, if_false, rEq, rNe, scal_ii, scal_ss, scal_bb, scal_is, scal_si, scal_ns, scal_ni, scal_in, scal_sn, scal_nn, rI, rI0, rU, rIxLH, rIxTH, rLenH, rLenTH, rSetL, rCatN, rTupOfN, rLstOfN, rSlLN, rSlTN, CDiv, CPow, CMul, CDivW, upd_same, at0, at1, at2, at3, at4, at5, at6, at7, at8, at9, at10, at11, at12, at13, ix3_0, ix3_1, ix3_2, V.int.injEq, V.bl.injEq, V.str.injEq, V.ref.injEq, Option.some.injEq, HO.lst.injEq, HO.tup.injEq, HO.ins.injEq, List.cons.injEq, and_true, true_and, exists_eq_left, exists_eq_left', exists_and_left, exists_eq', exists_eq, and_assoc, N_law, hr8, hr28]
    refine ⟨fits (by decide), fun u G9 g9 => ⟨⟨_, SqL.of g9.at_⟩, ?_⟩⟩
    have k5 := same_trans g5.same (same_trans g6.same (same_trans g7.same (same_trans g8.same g9.same)))
    have k7 := same_trans g7.same (same_trans g8.same g9.same)
    have rows := rows_at (H := G9) (k5 _ _ (g4.old (g3.old (g2.old (g1.old g0.at_))))) (k5 _ _ (g4.old (g3.old (g2.old g1.at_)))) (k5 _ _ (g4.old (g3.old g2.at_))) (k5 _ _ (g4.old g3.at_)) (k5 _ _ g4.at_) (k7 _ _ g6.at_) (same_trans g8.same g9.same _ _ g7.at_)
    have hu := g9.at_
    refine forK_lst (K := K) (LawPx G9 L r v1 v2 v3 v4) ⟨none, none, none, rfl, same_refl⟩ (fun i σ H' _ ⟨_, _, _, _, sm⟩ => SqL.of (sm _ _ hu)) ?_ ?_
    · rintro i x σ H2 hx ⟨v6, v7, v8, rfl, sm⟩
      obtain ⟨a, t, rfl, ht, ha⟩ := rows i x hx
      obtain ⟨tn, tp⟩ := trips_ok t ht
      have ha2 := sm _ _ ha
      try simp only [cxK, r_var, r_c, r_seq, r_next, r_break, r_cont, r_drop, r_ret, r_retN, r_if, r_ife, r_asg, r_name, r_op, r_un, r_nil, r_cons, r_lst2, r_tup2, r_lc, r_for, r_ilist, r_itup, r_istr, r_irng1, r_irng2, r_ienum, r_ienumS, wipe, r_cb, r_test, r_b, r_not, r_notV, r_andV, r_orV, r_isN, r_notN, r_m1, r_m0, r_fld, sFld, putF, r_par, r_sub, r_gtup, r_gnil, r_gcons, r_sl, r_nopart, r_part, r_bm, r_bm0, r_chain, r_call, r_callK, r_meth, r_prop, r_make, r_and, r_or, andT_t, andT_f, orT_t, orT_f, ifK_t, ifK_f, ifE_t, ifE_f, andK_t, andK_f, orK_t, orK_f, L2.start, List.map_cons, List.map_nil, List.length_cons, List.length_nil, List.replicate_succ, List.replicate_zero, List.cons_append, List.nil_append, List.getElem?_cons_succ, List.getElem?_cons_zero, List.set_cons_succ, List.set_cons_zero, Nat.reduceAdd, Nat.reduceSub, Nat.zero_add, decide_true, decide_false, Bool.not_true, Bool.not_false, if_true, if_false, rEq, rNe, scal_ii, scal_ss, scal_bb, scal_is, scal_si, scal_ns, scal_ni, scal_in, scal_sn, scal_nn, rI, rI0, rU, rIxLH, rIxTH, rLenH, rLenTH, rSetL, rCatN, rTupOfN, rLstOfN, rSlLN, rSlTN, CDiv, CPow, CMul, CDivW, upd_same, at0, at1, at2, at3, at4, at5, at6, at7, at8, at9, at10, at11, at12, at13, ix3_0, ix3_1, ix3_2, V.int.injEq, V.bl.injEq, V.str.injEq, V.ref.injEq, Option.some.injEq, HO.lst.injEq, HO.tup.injEq, HO.ins.injEq, List.cons.injEq, and_true, true_and, exists_eq_left, exists_eq_left', exists_and_left, exists_eq', exists_eq, and_assoc, N_law]
      refine ⟨_, SqT.of ha2, rfl, ?_⟩
      try simp only [cxK, r_var, r_c, r_seq, r_next, r_break, r_cont, r_drop, r_ret, r_retN, r_if, r_ife, r_asg, r_name, r_op, r_un, r_nil, r_cons, r_lst2, r_tup2, r_lc, r_for, r_ilist, r_itup, r_istr, r_irng1, r_irng2, r_ienum, r_ienumS, wipe, r_cb, r_test, r_b, r_not, r_notV, r_andV, r_orV, r_isN, r_notN, r_m1, r_m0, r_fld, sFld, putF, r_par, r_sub, r_gtup, r_gnil, r_gcons, r_sl, r_nopart, r_part, r_bm, r_bm0, r_chain, r_call, r_callK, r_meth, r_prop, r_make, r_and, r_or, andT_t, andT_f, orT_t, orT_f, ifK_t, ifK_f, ifE_t, ifE_f, andK_t, andK_f, orK_t, orK_f, L2.start, List.map_cons, List.map_nil, List.length_cons, List.length_nil, List.replicate_succ, List.replicate_zero, List.cons_append, List.nil_append, List.getElem?_cons_succ, List.getElem?_cons_zero, List.set_cons_succ, List.set_cons_zero, Nat.reduceAdd, Nat.reduceSub, Nat.zero_add, decide_true, decide_false, Bool.not_true, Bool.not_false, if_true, if_false, rEq, rNe, scal_ii, scal_ss, scal_bb, scal_is, scal_si, scal_ns, scal_ni, scal_in, scal_sn, scal_nn, rI, rI0, rU, rIxLH, rIxTH, rLenH, rLenTH, rSetL, rCatN, rTupOfN, rLstOfN, rSlLN, rSlTN, CDiv, CPow, CMul, CDivW, upd_same, at0, at1, at2, at3, at4, at5, at6, at7, at8, at9, at10, at11, at12, at13, ix3_0, ix3_1, ix3_2, V.int.injEq, V.bl.injEq, V.str.injEq, V.ref.injEq, Option.some.injEq, HO.lst.injEq, HO.tup.injEq, HO.ins.injEq, List.cons.injEq, and_true, true_and, exists_eq_left, exists_eq_left', exists_and_left, exists_eq', exists_eq, and_assoc, N_law]
      have nms : ∀ y ∈ [PySem.Str.ofString "x", t.1], isNm y = true := fun y hy => by
        simp only [List.mem_cons, List.not_mem_nil, or_false] at hy
        rcases hy with rfl | rfl
        · exact nm_x
        · exact tn
      have nm := nms_of (ns := [PySem.Str.ofString "x", t.1]) (by simp) nms
      have lo : lastOf [PySem.Str.ofString "x", t.1] = t.1 := rfl
      refine path_made2 (ns := [PySem.Str.ofString "x", t.1]) (by simp) nms fun q1 H3 s3 hq1 => ?_
      obtain ⟨dx, tt, e1, e2⟩ := hq1
      try simp only [cxK, r_var, r_c, r_seq, r_next, r_break, r_cont, r_drop, r_ret, r_retN, r_if, r_ife, r_asg, r_name, r_op, r_un, r_nil, r_cons, r_lst2, r_tup2, r_lc, r_for, r_ilist, r_itup, r_istr, r_irng1, r_irng2, r_ienum, r_ienumS, wipe, r_cb, r_test, r_b, r_not, r_notV, r_andV, r_orV, r_isN, r_notN, r_m1, r_m0, r_fld, sFld, putF, r_par, r_sub, r_gtup, r_gnil, r_gcons, r_sl, r_nopart, r_part, r_bm, r_bm0, r_chain, r_call, r_callK, r_meth, r_prop, r_make, r_and, r_or, andT_t, andT_f, orT_t, orT_f, ifK_t, ifK_f, ifE_t, ifE_f, andK_t, andK_f, orK_t, orK_f, L2.start, List.map_cons, List.map_nil, List.length_cons, List.length_nil, List.replicate_succ, List.replicate_zero, List.cons_append, List.nil_append, List.getElem?_cons_succ, List.getElem?_cons_zero, List.set_cons_succ, List.set_cons_zero, Nat.reduceAdd, Nat.reduceSub, Nat.zero_add, decide_true, decide_false, Bool.not_true, Bool.not_false, if_true, if_false, rEq, rNe, scal_ii, scal_ss, scal_bb, scal_is, scal_si, scal_ns, scal_ni, scal_in, scal_sn, scal_nn, rI, rI0, rU, rIxLH, rIxTH, rLenH, rLenTH, rSetL, rCatN, rTupOfN, rLstOfN, rSlLN, rSlTN, CDiv, CPow, CMul, CDivW, upd_same, at0, at1, at2, at3, at4, at5, at6, at7, at8, at9, at10, at11, at12, at13, ix3_0, ix3_1, ix3_2, V.int.injEq, V.bl.injEq, V.str.injEq, V.ref.injEq, Option.some.injEq, HO.lst.injEq, HO.tup.injEq, HO.ins.injEq, List.cons.injEq, and_true, true_and, exists_eq_left, exists_eq_left', exists_and_left, exists_eq', exists_eq, and_assoc, N_law, e1]
      refine ⟨q1, _, rfl, ⟨dx, tt, e1, e2⟩, nm, fun H4 s4 => ?_⟩
      refine path_made2 (ns := [PySem.Str.ofString "x", t.1]) (by simp) nms fun q2 H5 s5 hq2 => ?_
      obtain ⟨dx2, tt2, f1, f2⟩ := hq2
      try simp only [cxK, r_var, r_c, r_seq, r_next, r_break, r_cont, r_drop, r_ret, r_retN, r_if, r_ife, r_asg, r_name, r_op, r_un, r_nil, r_cons, r_lst2, r_tup2, r_lc, r_for, r_ilist, r_itup, r_istr, r_irng1, r_irng2, r_ienum, r_ienumS, wipe, r_cb, r_test, r_b, r_not, r_notV, r_andV, r_orV, r_isN, r_notN, r_m1, r_m0, r_fld, sFld, putF, r_par, r_sub, r_gtup, r_gnil, r_gcons, r_sl, r_nopart, r_part, r_bm, r_bm0, r_chain, r_call, r_callK, r_meth, r_prop, r_make, r_and, r_or, andT_t, andT_f, orT_t, orT_f, ifK_t, ifK_f, ifE_t, ifE_f, andK_t, andK_f, orK_t, orK_f, L2.start, List.map_cons, List.map_nil, List.length_cons, List.length_nil, List.replicate_succ, List.replicate_zero, List.cons_append, List.nil_append, List.getElem?_cons_succ, List.getElem?_cons_zero, List.set_cons_succ, List.set_cons_zero, Nat.reduceAdd, Nat.reduceSub, Nat.zero_add, decide_true, decide_false, Bool.not_true, Bool.not_false, if_true, if_false, rEq, rNe, scal_ii, scal_ss, scal_bb, scal_is, scal_si, scal_ns, scal_ni, scal_in, scal_sn, scal_nn, rI, rI0, rU, rIxLH, rIxTH, rLenH, rLenTH, rSetL, rCatN, rTupOfN, rLstOfN, rSlLN, rSlTN, CDiv, CPow, CMul, CDivW, upd_same, at0, at1, at2, at3, at4, at5, at6, at7, at8, at9, at10, at11, at12, at13, ix3_0, ix3_1, ix3_2, V.int.injEq, V.bl.injEq, V.str.injEq, V.ref.injEq, Option.some.injEq, HO.lst.injEq, HO.tup.injEq, HO.ins.injEq, List.cons.injEq, and_true, true_and, exists_eq_left, exists_eq_left', exists_and_left, exists_eq', exists_eq, and_assoc, N_law, f1]
      refine ⟨q2, _, rfl, ⟨dx2, tt2, f1, f2⟩, nm, fun H6 s6 => ?_⟩
      simp only [lo, tp]
      try simp only [cxK, r_var, r_c, r_seq, r_next, r_break, r_cont, r_drop, r_ret, r_retN, r_if, r_ife, r_asg, r_name, r_op, r_un, r_nil, r_cons, r_lst2, r_tup2, r_lc, r_for, r_ilist, r_itup, r_istr, r_irng1, r_irng2, r_ienum, r_ienumS, wipe, r_cb, r_test, r_b, r_not, r_notV, r_andV, r_orV, r_isN, r_notN, r_m1, r_m0, r_fld, sFld, putF, r_par, r_sub, r_gtup, r_gnil, r_gcons, r_sl, r_nopart, r_part, r_bm, r_bm0, r_chain, r_call, r_callK, r_meth, r_prop, r_make, r_and, r_or, andT_t, andT_f, orT_t, orT_f, ifK_t, ifK_f, ifE_t, ifE_f, andK_t, andK_f, orK_t, orK_f, L2.start, List.map_cons, List.map_nil, List.length_cons, List.length_nil, List.replicate_succ, List.replicate_zero, List.cons_append, List.nil_append, List.getElem?_cons_succ, List.getElem?_cons_zero, List.set_cons_succ, List.set_cons_zero, Nat.reduceAdd, Nat.reduceSub, Nat.zero_add, decide_true, decide_false, Bool.not_true, Bool.not_false, if_true, if_false, rEq, rNe, scal_ii, scal_ss, scal_bb, scal_is, scal_si, scal_ns, scal_ni, scal_in, scal_sn, scal_nn, rI, rI0, rU, rIxLH, rIxTH, rLenH, rLenTH, rSetL, rCatN, rTupOfN, rLstOfN, rSlLN, rSlTN, CDiv, CPow, CMul, CDivW, upd_same, at0, at1, at2, at3, at4, at5, at6, at7, at8, at9, at10, at11, at12, at13, ix3_0, ix3_1, ix3_2, V.int.injEq, V.bl.injEq, V.str.injEq, V.ref.injEq, Option.some.injEq, HO.lst.injEq, HO.tup.injEq, HO.ins.injEq, List.cons.injEq, and_true, true_and, exists_eq_left, exists_eq_left', exists_and_left, exists_eq', exists_eq, and_assoc, N_law]
      refine ⟨fits (by decide), fun c1 H7 n7 => ⟨fits (by decide), fun c2 H8 n8 => ?_⟩⟩
      have ok1 : ∀ y ∈ [t.2.1, t.2.2], PyData.strOk y = true := fun y hy => by
        have pk := parts_ok (isNm_fits tn).2.1
        rw [tp] at pk
        simp only [List.mem_cons, List.not_mem_nil, or_false] at hy
        rcases hy with rfl | rfl
        · exact pk.1
        · exact pk.2
      refine neD_strL (xs := [t.2.1, t.2.2]) (ys := [t.2.1, t.2.2]) (n8.old n7.at_) n8.at_ ok1 ok1 ?_
      try simp only [cxK, r_var, r_c, r_seq, r_next, r_break, r_cont, r_drop, r_ret, r_retN, r_if, r_ife, r_asg, r_name, r_op, r_un, r_nil, r_cons, r_lst2, r_tup2, r_lc, r_for, r_ilist, r_itup, r_istr, r_irng1, r_irng2, r_ienum, r_ienumS, wipe, r_cb, r_test, r_b, r_not, r_notV, r_andV, r_orV, r_isN, r_notN, r_m1, r_m0, r_fld, sFld, putF, r_par, r_sub, r_gtup, r_gnil, r_gcons, r_sl, r_nopart, r_part, r_bm, r_bm0, r_chain, r_call, r_callK, r_meth, r_prop, r_make, r_and, r_or, andT_t, andT_f, orT_t, orT_f, ifK_t, ifK_f, ifE_t, ifE_f, andK_t, andK_f, orK_t, orK_f, L2.start, List.map_cons, List.map_nil, List.length_cons, List.length_nil, List.replicate_succ, List.replicate_zero, List.cons_append, List.nil_append, List.getElem?_cons_succ, List.getElem?_cons_zero, List.set_cons_succ, List.set_cons_zero, Nat.reduceAdd, Nat.reduceSub, Nat.zero_add, decide_true, decide_false, Bool.not_true, Bool.not_false, if_true, if_false, rEq, rNe, scal_ii, scal_ss, scal_bb, scal_is, scal_si, scal_ns, scal_ni, scal_in, scal_sn, scal_nn, rI, rI0, rU, rIxLH, rIxTH, rLenH, rLenTH, rSetL, rCatN, rTupOfN, rLstOfN, rSlLN, rSlTN, CDiv, CPow, CMul, CDivW, upd_same, at0, at1, at2, at3, at4, at5, at6, at7, at8, at9, at10, at11, at12, at13, ix3_0, ix3_1, ix3_2, V.int.injEq, V.bl.injEq, V.str.injEq, V.ref.injEq, Option.some.injEq, HO.lst.injEq, HO.tup.injEq, HO.ins.injEq, List.cons.injEq, and_true, true_and, exists_eq_left, exists_eq_left', exists_and_left, exists_eq', exists_eq, and_assoc, N_law]
      exact ⟨_, _, _, rfl, same_trans sm (same_trans s3 (same_trans s4 (same_trans s5 (same_trans s6 (same_trans n7.same n8.same)))))⟩
    · rintro σ H2 ⟨v6, v7, v8, rfl, sm⟩
      try simp only [cxK, r_var, r_c, r_seq, r_next, r_break, r_cont, r_drop, r_ret, r_retN, r_if, r_ife, r_asg, r_name, r_op, r_un, r_nil, r_cons, r_lst2, r_tup2, r_lc, r_for, r_ilist, r_itup, r_istr, r_irng1, r_irng2, r_ienum, r_ienumS, wipe, r_cb, r_test, r_b, r_not, r_notV, r_andV, r_orV, r_isN, r_notN, r_m1, r_m0, r_fld, sFld, putF, r_par, r_sub, r_gtup, r_gnil, r_gcons, r_sl, r_nopart, r_part, r_bm, r_bm0, r_chain, r_call, r_callK, r_meth, r_prop, r_make, r_and, r_or, andT_t, andT_f, orT_t, orT_f, ifK_t, ifK_f, ifE_t, ifE_f, andK_t, andK_f, orK_t, orK_f, L2.start, List.map_cons, List.map_nil, List.length_cons, List.length_nil, List.replicate_succ, List.replicate_zero, List.cons_append, List.nil_append, List.getElem?_cons_succ, List.getElem?_cons_zero, List.set_cons_succ, List.set_cons_zero, Nat.reduceAdd, Nat.reduceSub, Nat.zero_add, decide_true, decide_false, Bool.not_true, Bool.not_false, if_true, if_false, rEq, rNe, scal_ii, scal_ss, scal_bb, scal_is, scal_si, scal_ns, scal_ni, scal_in, scal_sn, scal_nn, rI, rI0, rU, rIxLH, rIxTH, rLenH, rLenTH, rSetL, rCatN, rTupOfN, rLstOfN, rSlLN, rSlTN, CDiv, CPow, CMul, CDivW, upd_same, at0, at1, at2, at3, at4, at5, at6, at7, at8, at9, at10, at11, at12, at13, ix3_0, ix3_1, ix3_2, V.int.injEq, V.bl.injEq, V.str.injEq, V.ref.injEq, Option.some.injEq, HO.lst.injEq, HO.tup.injEq, HO.ins.injEq, List.cons.injEq, and_true, true_and, exists_eq_left, exists_eq_left', exists_and_left, exists_eq', exists_eq, and_assoc, N_law]
      refine path_made2 (ns := []) (by decide) (fun _ h => nomatch h) fun q1 H3 s3 hq1 => ?_
      obtain ⟨dx, tt, e1, e2⟩ := hq1
      have nm : Nms [] := ⟨by decide, fun _ h => nomatch h⟩
      try simp only [cxK, r_var, r_c, r_seq, r_next, r_break, r_cont, r_drop, r_ret, r_retN, r_if, r_ife, r_asg, r_name, r_op, r_un, r_nil, r_cons, r_lst2, r_tup2, r_lc, r_for, r_ilist, r_itup, r_istr, r_irng1, r_irng2, r_ienum, r_ienumS, wipe, r_cb, r_test, r_b, r_not, r_notV, r_andV, r_orV, r_isN, r_notN, r_m1, r_m0, r_fld, sFld, putF, r_par, r_sub, r_gtup, r_gnil, r_gcons, r_sl, r_nopart, r_part, r_bm, r_bm0, r_chain, r_call, r_callK, r_meth, r_prop, r_make, r_and, r_or, andT_t, andT_f, orT_t, orT_f, ifK_t, ifK_f, ifE_t, ifE_f, andK_t, andK_f, orK_t, orK_f, L2.start, List.map_cons, List.map_nil, List.length_cons, List.length_nil, List.replicate_succ, List.replicate_zero, List.cons_append, List.nil_append, List.getElem?_cons_succ, List.getElem?_cons_zero, List.set_cons_succ, List.set_cons_zero, Nat.reduceAdd, Nat.reduceSub, Nat.zero_add, decide_true, decide_false, Bool.not_true, Bool.not_false, if_true, if_false, rEq, rNe, scal_ii, scal_ss, scal_bb, scal_is, scal_si, scal_ns, scal_ni, scal_in, scal_sn, scal_nn, rI, rI0, rU, rIxLH, rIxTH, rLenH, rLenTH, rSetL, rCatN, rTupOfN, rLstOfN, rSlLN, rSlTN, CDiv, CPow, CMul, CDivW, upd_same, at0, at1, at2, at3, at4, at5, at6, at7, at8, at9, at10, at11, at12, at13, ix3_0, ix3_1, ix3_2, V.int.injEq, V.bl.injEq, V.str.injEq, V.ref.injEq, Option.some.injEq, HO.lst.injEq, HO.tup.injEq, HO.ins.injEq, List.cons.injEq, and_true, true_and, exists_eq_left, exists_eq_left', exists_and_left, exists_eq', exists_eq, and_assoc, N_law, e1]
      refine ⟨q1, [], rfl, ⟨dx, tt, e1, e2⟩, nm, fun H4 s4 => ?_⟩
      have e41 := s4 _ _ e1
      have e42 := s4 _ _ e2
      try simp only [cxK, r_var, r_c, r_seq, r_next, r_break, r_cont, r_drop, r_ret, r_retN, r_if, r_ife, r_asg, r_name, r_op, r_un, r_nil, r_cons, r_lst2, r_tup2, r_lc, r_for, r_ilist, r_itup, r_istr, r_irng1, r_irng2, r_ienum, r_ienumS, wipe, r_cb, r_test, r_b, r_not, r_notV, r_andV, r_orV, r_isN, r_notN, r_m1, r_m0, r_fld, sFld, putF, r_par, r_sub, r_gtup, r_gnil, r_gcons, r_sl, r_nopart, r_part, r_bm, r_bm0, r_chain, r_call, r_callK, r_meth, r_prop, r_make, r_and, r_or, andT_t, andT_f, orT_t, orT_f, ifK_t, ifK_f, ifE_t, ifE_f, andK_t, andK_f, orK_t, orK_f, L2.start, List.map_cons, List.map_nil, List.length_cons, List.length_nil, List.replicate_succ, List.replicate_zero, List.cons_append, List.nil_append, List.getElem?_cons_succ, List.getElem?_cons_zero, List.set_cons_succ, List.set_cons_zero, Nat.reduceAdd, Nat.reduceSub, Nat.zero_add, decide_true, decide_false, Bool.not_true, Bool.not_false, if_true, if_false, rEq, rNe, scal_ii, scal_ss, scal_bb, scal_is, scal_si, scal_ns, scal_ni, scal_in, scal_sn, scal_nn, rI, rI0, rU, rIxLH, rIxTH, rLenH, rLenTH, rSetL, rCatN, rTupOfN, rLstOfN, rSlLN, rSlTN, CDiv, CPow, CMul, CDivW, upd_same, at0, at1, at2, at3, at4, at5, at6, at7, at8, at9, at10, at11, at12, at13, ix3_0, ix3_1, ix3_2, V.int.injEq, V.bl.injEq, V.str.injEq, V.ref.injEq, Option.some.injEq, HO.lst.injEq, HO.tup.injEq, HO.ins.injEq, List.cons.injEq, and_true, true_and, exists_eq_left, exists_eq_left', exists_and_left, exists_eq', exists_eq, and_assoc, N_law, e41]
      refine ⟨q1, [], rfl, ⟨dx, tt, e41, e42⟩, nm, fun H5 s5 => ?_⟩
      have e51 := s5 _ _ e41
      have e52 := s5 _ _ e42
      try simp only [cxK, r_var, r_c, r_seq, r_next, r_break, r_cont, r_drop, r_ret, r_retN, r_if, r_ife, r_asg, r_name, r_op, r_un, r_nil, r_cons, r_lst2, r_tup2, r_lc, r_for, r_ilist, r_itup, r_istr, r_irng1, r_irng2, r_ienum, r_ienumS, wipe, r_cb, r_test, r_b, r_not, r_notV, r_andV, r_orV, r_isN, r_notN, r_m1, r_m0, r_fld, sFld, putF, r_par, r_sub, r_gtup, r_gnil, r_gcons, r_sl, r_nopart, r_part, r_bm, r_bm0, r_chain, r_call, r_callK, r_meth, r_prop, r_make, r_and, r_or, andT_t, andT_f, orT_t, orT_f, ifK_t, ifK_f, ifE_t, ifE_f, andK_t, andK_f, orK_t, orK_f, L2.start, List.map_cons, List.map_nil, List.length_cons, List.length_nil, List.replicate_succ, List.replicate_zero, List.cons_append, List.nil_append, List.getElem?_cons_succ, List.getElem?_cons_zero, List.set_cons_succ, List.set_cons_zero, Nat.reduceAdd, Nat.reduceSub, Nat.zero_add, decide_true, decide_false, Bool.not_true, Bool.not_false, if_true, if_false, rEq, rNe, scal_ii, scal_ss, scal_bb, scal_is, scal_si, scal_ns, scal_ni, scal_in, scal_sn, scal_nn, rI, rI0, rU, rIxLH, rIxTH, rLenH, rLenTH, rSetL, rCatN, rTupOfN, rLstOfN, rSlLN, rSlTN, CDiv, CPow, CMul, CDivW, upd_same, at0, at1, at2, at3, at4, at5, at6, at7, at8, at9, at10, at11, at12, at13, ix3_0, ix3_1, ix3_2, V.int.injEq, V.bl.injEq, V.str.injEq, V.ref.injEq, Option.some.injEq, HO.lst.injEq, HO.tup.injEq, HO.ins.injEq, List.cons.injEq, and_true, true_and, exists_eq_left, exists_eq_left', exists_and_left, exists_eq', exists_eq, and_assoc, N_law, e51]
      refine ⟨q1, [], rfl, ⟨dx, tt, e51, e52⟩, nm, fun H6 s6 => ?_⟩
      have e61 := s6 _ _ e51
      have e62 := s6 _ _ e52
      try simp only [cxK, r_var, r_c, r_seq, r_next, r_break, r_cont, r_drop, r_ret, r_retN, r_if, r_ife, r_asg, r_name, r_op, r_un, r_nil, r_cons, r_lst2, r_tup2, r_lc, r_for, r_ilist, r_itup, r_istr, r_irng1, r_irng2, r_ienum, r_ienumS, wipe, r_cb, r_test, r_b, r_not, r_notV, r_andV, r_orV, r_isN, r_notN, r_m1, r_m0, r_fld, sFld, putF, r_par, r_sub, r_gtup, r_gnil, r_gcons, r_sl, r_nopart, r_part, r_bm, r_bm0, r_chain, r_call, r_callK, r_meth, r_prop, r_make, r_and, r_or, andT_t, andT_f, orT_t, orT_f, ifK_t, ifK_f, ifE_t, ifE_f, andK_t, andK_f, orK_t, orK_f, L2.start, List.map_cons, List.map_nil, List.length_cons, List.length_nil, List.replicate_succ, List.replicate_zero, List.cons_append, List.nil_append, List.getElem?_cons_succ, List.getElem?_cons_zero, List.set_cons_succ, List.set_cons_zero, Nat.reduceAdd, Nat.reduceSub, Nat.zero_add, decide_true, decide_false, Bool.not_true, Bool.not_false, if_true, if_false, rEq, rNe, scal_ii, scal_ss, scal_bb, scal_is, scal_si, scal_ns, scal_ni, scal_in, scal_sn, scal_nn, rI, rI0, rU, rIxLH, rIxTH, rLenH, rLenTH, rSetL, rCatN, rTupOfN, rLstOfN, rSlLN, rSlTN, CDiv, CPow, CMul, CDivW, upd_same, at0, at1, at2, at3, at4, at5, at6, at7, at8, at9, at10, at11, at12, at13, ix3_0, ix3_1, ix3_2, V.int.injEq, V.bl.injEq, V.str.injEq, V.ref.injEq, Option.some.injEq, HO.lst.injEq, HO.tup.injEq, HO.ins.injEq, List.cons.injEq, and_true, true_and, exists_eq_left, exists_eq_left', exists_and_left, exists_eq', exists_eq, and_assoc, N_law, e61]
      refine ⟨q1, [], rfl, ⟨dx, tt, e61, e62⟩, nm, fun H7 s7 => ?_⟩
      have e71 := s7 _ _ e61
      have e72 := s7 _ _ e62
      try simp only [cxK, r_var, r_c, r_seq, r_next, r_break, r_cont, r_drop, r_ret, r_retN, r_if, r_ife, r_asg, r_name, r_op, r_un, r_nil, r_cons, r_lst2, r_tup2, r_lc, r_for, r_ilist, r_itup, r_istr, r_irng1, r_irng2, r_ienum, r_ienumS, wipe, r_cb, r_test, r_b, r_not, r_notV, r_andV, r_orV, r_isN, r_notN, r_m1, r_m0, r_fld, sFld, putF, r_par, r_sub, r_gtup, r_gnil, r_gcons, r_sl, r_nopart, r_part, r_bm, r_bm0, r_chain, r_call, r_callK, r_meth, r_prop, r_make, r_and, r_or, andT_t, andT_f, orT_t, orT_f, ifK_t, ifK_f, ifE_t, ifE_f, andK_t, andK_f, orK_t, orK_f, L2.start, List.map_cons, List.map_nil, List.length_cons, List.length_nil, List.replicate_succ, List.replicate_zero, List.cons_append, List.nil_append, List.getElem?_cons_succ, List.getElem?_cons_zero, List.set_cons_succ, List.set_cons_zero, Nat.reduceAdd, Nat.reduceSub, Nat.zero_add, decide_true, decide_false, Bool.not_true, Bool.not_false, if_true, if_false, rEq, rNe, scal_ii, scal_ss, scal_bb, scal_is, scal_si, scal_ns, scal_ni, scal_in, scal_sn, scal_nn, rI, rI0, rU, rIxLH, rIxTH, rLenH, rLenTH, rSetL, rCatN, rTupOfN, rLstOfN, rSlLN, rSlTN, CDiv, CPow, CMul, CDivW, upd_same, at0, at1, at2, at3, at4, at5, at6, at7, at8, at9, at10, at11, at12, at13, ix3_0, ix3_1, ix3_2, V.int.injEq, V.bl.injEq, V.str.injEq, V.ref.injEq, Option.some.injEq, HO.lst.injEq, HO.tup.injEq, HO.ins.injEq, List.cons.injEq, and_true, true_and, exists_eq_left, exists_eq_left', exists_and_left, exists_eq', exists_eq, and_assoc, N_law, e71]
      refine ⟨q1, [], rfl, ⟨dx, tt, e71, e72⟩, by decide, (fun _ h => nomatch h), fun H8 q2 s8 hq2 => ?_⟩
      obtain ⟨dx2, tt2, f1, f2⟩ := hq2
      rw [parts_nil]
      try simp only [cxK, r_var, r_c, r_seq, r_next, r_break, r_cont, r_drop, r_ret, r_retN, r_if, r_ife, r_asg, r_name, r_op, r_un, r_nil, r_cons, r_lst2, r_tup2, r_lc, r_for, r_ilist, r_itup, r_istr, r_irng1, r_irng2, r_ienum, r_ienumS, wipe, r_cb, r_test, r_b, r_not, r_notV, r_andV, r_orV, r_isN, r_notN, r_m1, r_m0, r_fld, sFld, putF, r_par, r_sub, r_gtup, r_gnil, r_gcons, r_sl, r_nopart, r_part, r_bm, r_bm0, r_chain, r_call, r_callK, r_meth, r_prop, r_make, r_and, r_or, andT_t, andT_f, orT_t, orT_f, ifK_t, ifK_f, ifE_t, ifE_f, andK_t, andK_f, orK_t, orK_f, L2.start, List.map_cons, List.map_nil, List.length_cons, List.length_nil, List.replicate_succ, List.replicate_zero, List.cons_append, List.nil_append, List.getElem?_cons_succ, List.getElem?_cons_zero, List.set_cons_succ, List.set_cons_zero, Nat.reduceAdd, Nat.reduceSub, Nat.zero_add, decide_true, decide_false, Bool.not_true, Bool.not_false, if_true, if_false, rEq, rNe, scal_ii, scal_ss, scal_bb, scal_is, scal_si, scal_ns, scal_ni, scal_in, scal_sn, scal_nn, rI, rI0, rU, rIxLH, rIxTH, rLenH, rLenTH, rSetL, rCatN, rTupOfN, rLstOfN, rSlLN, rSlTN, CDiv, CPow, CMul, CDivW, upd_same, at0, at1, at2, at3, at4, at5, at6, at7, at8, at9, at10, at11, at12, at13, ix3_0, ix3_1, ix3_2, V.int.injEq, V.bl.injEq, V.str.injEq, V.ref.injEq, Option.some.injEq, HO.lst.injEq, HO.tup.injEq, HO.ins.injEq, List.cons.injEq, and_true, true_and, exists_eq_left, exists_eq_left', exists_and_left, exists_eq', exists_eq, and_assoc, N_law, f1]
      refine ⟨(cls_ok (T.c.fact 7 (f := fCls "Path") rfl)), (noat_ok (T.c.fact 8 (f := fNo "Path" "names") rfl)), V.ref tt2, rfl, fits (by decide), fun a1 J1 j1 => ⟨fits (by decide), fun a2 J2 j2 => ⟨fits (by decide), fun a3 J3 j3 => ?_⟩⟩⟩
      have hs : SeqAt.shaped (.list [.str (PySem.Str.ofString "/"), .str (PySem.Str.ofString ""), .str (PySem.Str.ofString ""), .str (PySem.Str.ofString ""), .tuple []]) = true := by decide +kernel
      have he : PyData.eqv (.list [.str (PySem.Str.ofString "/"), .str (PySem.Str.ofString ""), .str (PySem.Str.ofString ""), .str (PySem.Str.ofString ""), .tuple []]) (.list [.str (PySem.Str.ofString "/"), .str (PySem.Str.ofString ""), .str (PySem.Str.ofString ""), .str (PySem.Str.ofString ""), .tuple []]) = true := by decide +kernel
      have t0 : textOf [] = PySem.Str.ofString "/" := if_pos rfl
      have l0 : lastOf [] = PySem.Str.ofString "" := rfl
      rw [t0, l0] at j1
      have f23 : J3 tt2 = some (.tup []) := j3.old (j2.old (j1.old f2))
      refine ⟨_, _, .lst (SqL.of (j3.old (j2.old j1.at_))) (.cons (.str _) (.cons (.str _) (.cons (.str _) (.cons (.str _) (.cons (.tup (SqT.of f23) .nil) .nil))))), .lst (SqL.of j3.at_) (.cons (.str _) (.cons (.str _) (.cons (.str _) (.cons (.str _) (.cons (.tup (SqT.of (j3.old j2.at_)) .nil) .nil))))), hs, hs, ?_⟩
      rw [he]
      exact q J3

end
end FLG

namespace FLG
abbrev R : PySem.W.OpenRow := PySem.W.OpenLaw.row PySem.Challenge.rw_filelayer_k04_texts_and_last_names
abbrev hk : PySem.W.Hook := FH.hookX 600 fa fn
def ob (s : PySem.W.SharedT) : FH.AlX := FH.obsXG 600 fa fn (HandSHeadRun.getT s)
theorem ob_eq (s : PySem.W.SharedT) : ob s = hk.obs s.abs := FH.obsXG_eq (HandSHeadRun.getT_eq s)
def loose : List PySem.Str := (["_wall", "__name__", "Invalid", "BadPath", "BadName", "BadNumber", "MAX_NAMES", "NAME_SIGNS", "MAX_NAME", "is_integer", "is_name", "place_of", "name_parts", "Path", "_law_source", "_law_next", "_law_pick", "_law_good_name", "_law_path_of_row", "_law_row", "_law_spelled", "_law_dotted", "_law_cut", "_law_right"] : List PySem.Str)
theorem run (w : PySem.World) : HandSHeadRun.RunEq R (PySem.W.view R.prog [27]) hk ob 6000 loose w := by
  intro os
  kernel_rfl
end FLG
open PySem PySem.W PySem.Calls PyProof.Rows
theorem PySem.Challenge.cw_filelayer_k04_texts_and_last_names_holds : PySem.Challenge.rw_filelayer_k04_texts_and_last_names.Holds := by
  w_on; o_law
  refine HandSHeadRun.head_any (r := OpenLaw.row PySem.Challenge.rw_filelayer_k04_texts_and_last_names) (q := view (OpenLaw.row PySem.Challenge.rw_filelayer_k04_texts_and_last_names).prog [27]) (H := FLG.hk) (ob := FLG.ob) (M := 6000) (loose := FLG.loose) (d := HandSHeadRun.topDef (OpenLaw.row PySem.Challenge.rw_filelayer_k04_texts_and_last_names).prog 27) (kwd := []) FLG.ob_eq
    (by kernel_rfl) (fun s => by kernel_rfl) FLG.run (by kernel_rfl) (by kernel_rfl) (by kernel_rfl) (by rfl) (by first | assumption | decide +kernel) (by decide +kernel) ⟨rfl, rfl, rfl, rfl, rfl, by decide +kernel⟩ ?hw ?hc
  case hw => w_witness2
  case hc =>
    refine FE.walk_fn (l := PySem.Challenge.rw_filelayer_k04_texts_and_last_names) (n := 63) (k := 7) rfl (by decide) (by kernel_rfl) (by decide) ?F
    intro w mg f h Y G hmg0
    obtain ⟨K, KX, c⟩ := Y
    have hmg : mg ("law" : PySem.Str) = some (.ref f) := by
      have e : (HandSHeadRun.topDef (OpenLaw.row PySem.Challenge.rw_filelayer_k04_texts_and_last_names).prog 27).name = ("law" : PySem.Str) := by kernel_rfl
      rw [← e]
      exact hmg0
    have T : FH.Tx FLG.fa FLG.fn K mg := ⟨c, h, KX, G⟩
    have e := hmg.symm.trans (FLG.g_law T)
    cases e
    exact ⟨K, FLG.spLaw K, KX, fun H a ns hl hS => ⟨a, ns, rfl, hl, hS, fun _ => rfl⟩, fun base _ _ => FLG.ok_law T⟩
